import PyProof.Rows.All
import Wide.All
import OpenK.AllK
import Wide.FinOn
import HandS.ForMost
import HandS.TupAny
import HandS.TupMul
import HandS.Flow
import HandS.Walk
import HandS.Zip
import HandS.Wide
import HandS.Exc
import HandS.Defaults
import PyProof.Rows.IntBool
import HandS.RaiseMore
import HandS.NoneIn
import HandS.Small
import HandS.Strs
import HandS.Style
import HandS.IsInst
import KE.KDictZip
import KE.KItemsList
import HandS.ListItems
import PySem.Challenge.RW_leastfaults_k04_trees_by_kind
set_option Elab.async false
set_option linter.all false
set_option maxRecDepth 100000
section
/-! The small language of the laws' texts and what it does, on plain data. -/
namespace Lf
open PySem

/-- plain data -/
inductive D where
  | non | bl (b : Bool) | int (i : Int) | str (x : Str) | tup (xs : List D) | lst (xs : List D)
  deriving Inhabited

/-- a value in a slot: data, a cell by its number, the script (a list that is only read); or a fresh container that nobody else holds -/
inductive W where
  | d (x : D) | ref (n : Nat) | fl (xs : List D) | fd (kvs : List (D × D)) | sq (xs : List D)
  deriving Inhabited

/-- a container that may change -/
inductive Cell where
  | lst (xs : List D) | dct (kvs : List (D × D)) | lk (xs : List D) | gone
  deriving Inhabited
abbrev Cells := List Cell
abbrev En := List (Option W)

/-- how a run ends -/
inductive Res (α : Type) where
  | ok (a : α) | rs (cls : Str) (args : List D) (c : Cells) | no
def Res.bind {α β : Type} (r : Res α) (k : α → Res β) : Res β := match r with
  | .ok a => k a
  | .rs x y c => .rs x y c
  | .no => .no
instance : Monad Res where
  pure := .ok
  bind := Res.bind
@[simp] theorem Res.bind_ok {α β : Type} (a : α) (k : α → Res β) : (Res.ok a >>= k) = k a := rfl
@[simp] theorem Res.bind_rs {α β : Type} (x : Str) (y : List D) (c : Cells) (k : α → Res β) : (Res.rs x y c >>= k) = .rs x y c := rfl
@[simp] theorem Res.bind_no {α β : Type} (k : α → Res β) : ((Res.no : Res α) >>= k) = .no := rfl
@[simp] theorem Res.pure_eq {α : Type} (a : α) : (pure a : Res α) = .ok a := rfl
def ofO {α : Type} (o : Option α) : Res α := match o with
  | some a => .ok a
  | none => .no
@[simp] theorem ofO_some {α : Type} (a : α) : ofO (some a) = .ok a := rfl
@[simp] theorem ofO_none {α : Type} : ofO (none : Option α) = .no := rfl

/-! ### data -/
abbrev LINE : Nat := 16777216
abbrev B64 : Int := 18446744073709551616
mutual
def D.py : D → PyData
  | .non => .none
  | .bl b => .bool b
  | .int i => .int i
  | .str x => .str x
  | .tup xs => .tuple (D.pys xs)
  | .lst xs => .list (D.pys xs)
def D.pys : List D → List PyData
  | [] => []
  | x :: xs => D.py x :: D.pys xs
end
mutual
def D.dep : D → Nat
  | .tup xs => D.deps xs + 1
  | .lst xs => D.deps xs + 1
  | _ => 0
def D.deps : List D → Nat
  | [] => 0
  | x :: xs => max (D.dep x) (D.deps xs)
end
-- Python's ==
mutual
def D.eq : D → D → Bool
  | .non, .non => true
  | .bl a, .bl b => a == b
  | .bl a, .int j => (if a then 1 else 0) == j
  | .int i, .bl b => i == (if b then 1 else 0)
  | .int i, .int j => i == j
  | .str x, .str y => x == y
  | .tup xs, .tup ys => D.eqs xs ys
  | .lst xs, .lst ys => D.eqs xs ys
  | _, _ => false
def D.eqs : List D → List D → Bool
  | [], [] => true
  | x :: xs, y :: ys => D.eq x y && D.eqs xs ys
  | _, _ => false
end
def D.tru : D → Bool
  | .non => false
  | .bl b => b
  | .int i => i != 0
  | .str x => x.length != 0
  | .tup xs => !xs.isEmpty
  | .lst xs => !xs.isEmpty
/-- what repr writes, and its bound -/
def D.shown (d : D) : Str := PyData.shown d.py
mutual
def D.ub : D → Nat
  | .non => 4
  | .bl _ => 5
  | .int i => i.natAbs.log2 + 3
  | .str x => 10 * x.length + 2
  | .tup xs => D.ubs xs + 3
  | .lst xs => D.ubs xs + 3
def D.ubs : List D → Nat
  | [] => 0
  | x :: xs => D.ub x + 2 + D.ubs xs
end
mutual
def D.sml : D → Bool
  | .int i => decide (i.natAbs.log2 < 1920)
  | .tup xs => D.smls xs
  | .lst xs => D.smls xs
  | _ => true
def D.smls : List D → Bool
  | [] => true
  | x :: xs => D.sml x && D.smls xs
end
def D.repOk (d : D) : Bool := decide (d.dep ≤ 180) && d.py.showable && decide (d.shown.length ≤ LINE)

/-! ### values -/
def view (c : Cells) : W → Option D
  | .d x => some x
  | .fl xs => some (.lst xs)
  | .fd _ => none
  | .sq _ => none
  | .ref n => match c[n]? with
    | some (.lst xs) => some (.lst xs)
    | some (.lk xs) => some (.lst xs)
    | _ => none
/-- the dict behind a value -/
def viewD (c : Cells) : W → Option (List (D × D))
  | .fd kvs => some kvs
  | .ref n => match c[n]? with
    | some (.dct kvs) => some kvs
    | _ => none
  | _ => none
/-- as it may be kept in other data -/
def frz : W → Option D
  | .d x => some x
  | .fl xs => some (.lst xs)
  | _ => none
/-- as it may stand in a slot or be handed on -/
def frzW : W → Option W
  | .d x => some (.d x)
  | .fl xs => some (.d (.lst xs))
  | .ref n => some (.ref n)
  | .sq xs => some (.sq xs)
  | .fd _ => none
/-- all of them data -/
def frzs : List W → Option (List D)
  | [] => some []
  | .d x :: ws => match frzs ws with
    | some xs => some (x :: xs)
    | none => none
  | _ :: _ => none
def views (c : Cells) : List W → Option (List D)
  | [] => some []
  | w :: ws => match view c w, views c ws with
    | some x, some xs => some (x :: xs)
    | _, _ => none
def D.truO : D → Option Bool
  | .str x => if x.length ≤ LINE then some (x.length != 0) else none
  | d => some d.tru
def truW (c : Cells) (w : W) : Option Bool := match view c w with
  | some x => x.truO
  | none => match viewD c w with
    | some kvs => some (!kvs.isEmpty)
    | none => none
def okLen {α : Type} (xs : List α) : Bool := decide (xs.length ≤ LINE)
def tupW (xs : List D) : Option W := if okLen xs = true then some (.d (.tup xs)) else none
def lstW (xs : List D) : Option W := if okLen xs = true then some (.fl xs) else none

def reps (xs : List D) (k : Nat) : List D := (List.replicate k xs).flatten
def b2i (b : Bool) : Int := if b = true then 1 else 0
def binD : Operator → D → D → Option W
  | .Add, .int i, .int j => some (.d (.int (i + j)))
  | .Add, .int i, .bl b => some (.d (.int (i + b2i b)))
  | .Add, .bl b, .int i => some (.d (.int (b2i b + i)))
  | .Add, .str x, .str y => if x.length + y.length ≤ LINE then some (.d (.str (x ++ y))) else none
  | .Add, .tup xs, .tup ys => if xs.length + ys.length ≤ LINE then some (.d (.tup (xs ++ ys))) else none
  | .Add, .lst xs, .lst ys => if xs.length + ys.length ≤ LINE then some (.fl (xs ++ ys)) else none
  | .Sub, .int i, .int j => some (.d (.int (i - j)))
  | .Mult, .int i, .int j => if (-B64 < i ∧ i < B64) ∨ (-B64 < j ∧ j < B64) then some (.d (.int (i * j))) else none
  | .FloorDiv, .int i, .int j => if 0 < j ∧ j < 1073741824 then some (.d (.int (i / j))) else none
  | .Mod, .int i, .int j => if 0 < j then some (.d (.int (i % j))) else none
  | .Pow, .int i, .int j => if 0 ≤ j ∧ j ≤ 1000000 ∧ i.natAbs < 18446744073709551616 then some (.d (.int (i ^ j.toNat))) else none
  | .LShift, .int i, .int j => if 0 ≤ j ∧ j ≤ 1000000 ∧ i.natAbs < 18446744073709551616 then some (.d (.int (i * 2 ^ j.toNat))) else none
  | .RShift, .int i, .int j => if 0 ≤ j then some (.d (.int (i / 2 ^ j.toNat))) else none
  | .BitAnd, .int i, .int j => some (.d (.int (Builtin.bitAnd i j)))
  | _, _, _ => none
def inD (d : D) (xs : List D) : Bool := xs.any fun z => z.eq d
def D.isN : D → Bool
  | .non => true
  | _ => false
def cmpD : CmpOp → D → D → Option Bool
  | .Eq, x, y => if min x.dep y.dep ≤ 180 then some (x.eq y) else none
  | .NotEq, x, y => if min x.dep y.dep ≤ 180 then some (!x.eq y) else none
  | .Lt, .int i, .int j => some (decide (i < j))
  | .LtE, .int i, .int j => some (decide (i ≤ j))
  | .Gt, .int i, .int j => some (decide (j < i))
  | .GtE, .int i, .int j => some (decide (j ≤ i))
  | .Lt, .str x, .str y => some (decide (x.cps.toList < y.cps.toList))
  | .LtE, .str x, .str y => some (!decide (y.cps.toList < x.cps.toList))
  | .Gt, .str x, .str y => some (decide (y.cps.toList < x.cps.toList))
  | .GtE, .str x, .str y => some (!decide (x.cps.toList < y.cps.toList))
  | .In, x, .lst ys => if x.dep ≤ 180 then some (inD x ys) else none
  | .In, x, .tup ys => if x.dep ≤ 180 then some (inD x ys) else none
  | .In, .str x, .str y => some (!(Builtin.Str.occurrences y x 0 y.length 1).isEmpty)
  | .NotIn, x, .lst ys => if x.dep ≤ 180 then some (!inD x ys) else none
  | .NotIn, x, .tup ys => if x.dep ≤ 180 then some (!inD x ys) else none
  | .NotIn, .str x, .str y => some (!(!(Builtin.Str.occurrences y x 0 y.length 1).isEmpty))
  | .Is, x, .non => some x.isN
  | .IsNot, x, .non => some (!x.isN)
  | _, _, _ => none
def seqAt (xs : List D) (i : Int) : Option D := L2.atI xs i
def idxD : D → D → Option D
  | .lst xs, .int i => seqAt xs i
  | .tup xs, .int i => seqAt xs i
  | .str x, .int i => if x.length ≤ LINE then (L2.atI x.cps.toList i).map fun c => .str ⟨#[c]⟩ else none
  | _, _ => none
def cutL {α : Type} (xs : List α) (lo hi : Option Int) : List α :=
  (xs.drop (HT.sIx xs.length 0 lo)).take (HT.sIx xs.length xs.length hi - HT.sIx xs.length 0 lo)
/-- what is cut: data, or the script -/
def viewS (c : Cells) (w : W) : Option D := match w with
  | .sq xs => some (.lst xs)
  | w => view c w
def slcD (x : D) (lo hi : Option Int) : Option W := match x with
  | .lst xs => some (.fl (cutL xs lo hi))
  | .tup xs => some (.d (.tup (cutL xs lo hi)))
  | .str z => if z.length ≤ LINE then some (.d (.str ⟨(cutL z.cps.toList lo hi).toArray⟩)) else none
  | _ => none

/-! ### dicts: keys are texts or ints -/
def keyD : D → Option L2.Key
  | .int i => some (.inl i)
  | .str x => some (.inr x)
  | _ => none
def dGet (kvs : List (D × D)) (k : D) : Option D := match kvs with
  | [] => none
  | (a, v) :: r => if keyD a = keyD k then some v else dGet r k
def dPut (kvs : List (D × D)) (k v : D) : List (D × D) :=
  if (kvs.any fun p => decide (keyD p.1 = keyD k)) = true then kvs.map fun p => if keyD p.1 = keyD k then (p.1, v) else p else kvs ++ [(k, v)]
def dMerge (kvs : List (D × D)) : List (D × D) → List (D × D)
  | [] => kvs
  | (k, v) :: r => dMerge (dPut kvs k v) r
def pairsOf : List D → Option (List (D × D))
  | [] => some []
  | .tup [k, v] :: r => match keyD k, pairsOf r with
    | some _, some kvs => some ((k, v) :: kvs)
    | _, _ => none
  | _ :: _ => none

/-! ### the language -/
/-- built-ins by their names -/
inductive Bi where
  | len | tuple | list | int | abs | repr | max2 | min2 | str
  deriving DecidableEq
/-- methods of containers -/
inductive Me where
  | lpop | lapp | lext | tidx | supp
  deriving DecidableEq
/-- built-in types -/
inductive Ty where
  | tup | lst | str | int | bl | dct
  deriving DecidableEq
def isD : Ty → D → Bool
  | .tup, .tup _ => true
  | .lst, .lst _ => true
  | .str, .str _ => true
  | .int, .int _ => true
  | .int, .bl _ => true
  | .bl, .bl _ => true
  | _, _ => false
/-- patterns of loops and unpacking -/
inductive Pt where
  | nm (i : Nat) | tup (p : Pt) | nil | cons (p q : Pt)
inductive T where
  | non | bl (b : Bool) | int (i : Int) | str (x : Str)
  | var (i : Nat)
  | glb (i : Nat)
  | bin (o : Operator) (a b : T)
  | neg (a : T)
  | unot (a : T)
  | band (a b : T) | bor (a b : T)
  | cmp (o : CmpOp) (a b : T)
  | ife (c a b : T)
  | tup (as : T) | lst (as : T)
  | dct (kvs : T)
  | nil | cons (a as : T)
  | call (f : Nat) (as : T)
  | bi (b : Bi) (as : T)
  | mkd (as : T) | lzip (as : T)
  | idx (a i : T)
  | slc (a lo hi : T) | nop | sb (a : T)
  | rev (a : T) | isi (t : Ty) (a : T)
  | meth (m : Me) (o : T) (as : T)
  | lc (own : List Nat) (e : T) (p : Pt) (it : T) (ifs : T)
  | rng (as : T) | rng2 (as : T)
  | zip (as : T)
  | it (a : T)
/-- where a value is stored -/
inductive G where
  | nm (i : Nat) | al (i : Nat) | pt (p : Pt) | unl (p : Pt) | star (p : Pt) (n i : Nat) | ix (o i : T)
inductive S where
  | asg (g : G) (e : T) | par (gs : List G) (ts : List T) | ret (e : T) | ife (c : T) (a b : S) | forr (p : Pt) (it : T) (b : S) | whl (c : T) (b : S) | ex (e : T)
  | brk | cnt | pass | nil | cons (a b : S)

/-- what a text stands on: its constants, its defs, a bound on a while's turns -/
structure Fns where
  call : Nat → List W → Cells → Res (W × Cells)
  glb : Nat → Option D
  fuel : Nat

def biD : Bi → List D → Option W
  | .len, [.lst xs] => some (.d (.int xs.length))
  | .len, [.tup xs] => some (.d (.int xs.length))
  | .len, [.str x] => if x.length ≤ LINE then some (.d (.int x.length)) else none
  | .tuple, [.lst xs] => some (.d (.tup xs))
  | .tuple, [.tup xs] => some (.d (.tup xs))
  | .list, [.lst xs] => some (.fl xs)
  | .list, [.tup xs] => some (.fl xs)
  | .int, [.int i] => some (.d (.int i))
  | .int, [.bl b] => some (.d (.int (b2i b)))
  | .abs, [.int i] => some (.d (.int (if i < 0 then -i else i)))
  | .repr, [x] => if x.repOk = true then some (.d (.str x.shown)) else none
  | .max2, [.int i, .int j] => some (.d (.int (if j > i then j else i)))
  | .min2, [.int i, .int j] => some (.d (.int (if j < i then j else i)))
  | .str, [.int i] => if i.natAbs.log2 < 1920 then some (.d (.str (toString i))) else none
  | .str, [.str x] => some (.d (.str x))
  | .str, [.bl b] => some (.d (.str (if b = true then "True" else "False")))
  | _, _ => none

/-- the container is of the method's kind -/
def tyMe (c : Cells) (w : W) : Me → Bool
  | .lpop | .lapp | .lext => match view c w with
    | some (.lst _) => true
    | _ => false
  | .tidx => match view c w with
    | some (.tup _) => true
    | _ => false
  | .supp => match view c w with
    | some (.str _) => true
    | _ => false
def suppW (c : Cells) : W → List W → Option (W × Cells)
  | w, [] => match view c w with
    | some (.str x) => if x.length ≤ 5592405 then some (.d (.str (PySem.Txt.upper x)), c) else none
    | _ => none
  | _, _ => none
def popW (c : Cells) : W → List W → Option (W × Cells)
  | .ref n, [] => match c[n]? with
    | some (.lst xs) => match xs[xs.length - 1]? with
      | some x => some (.d x, c.set n (.lst xs.dropLast))
      | none => none
    | _ => none
  | .ref n, [w] => match c[n]?, view c w with
    | some (.lst xs), some (.int i) => if -9223372036854775808 ≤ i ∧ i < 9223372036854775808 then (match seqIndex? i xs.length with
      | some k => match xs[k]? with
        | some x => some (.d x, c.set n (.lst (xs.eraseIdx k)))
        | none => none
      | none => none) else none
    | _, _ => none
  | _, _ => none
def appW (c : Cells) : W → List W → Option (W × Cells)
  | .ref n, [.d x] => match c[n]? with
    | some (.lst xs) => if xs.length < LINE then some (.d .non, c.set n (.lst (xs ++ [x]))) else none
    | _ => none
  | _, _ => none
def extW (c : Cells) : W → List W → Option (W × Cells)
  | .ref n, [.d (.lst ys)] => match c[n]? with
    | some (.lst xs) => if xs.length + ys.length ≤ LINE then some (.d .non, c.set n (.lst (xs ++ ys))) else none
    | _ => none
  | _, _ => none
/-- texts alone -/
def strsOf : List D → Option (List Str)
  | [] => some []
  | .str x :: r => match strsOf r with
    | some xs => some (x :: xs)
    | none => none
  | _ :: _ => none
def idxS (xs : List D) (z : Str) : Option Nat := match strsOf xs with
  | some ys => if z ∈ ys then some (ys.idxOf z) else none
  | none => none
def tidxW (c : Cells) : W → List W → Option (W × Cells)
  | w, [.d (.str z)] => match view c w with
    | some (.tup xs) => match idxS xs z with
      | some j => some (.d (.int j), c)
      | none => none
    | _ => none
  | _, _ => none
def meW (c : Cells) : Me → W → List W → Option (W × Cells)
  | .lpop => popW c
  | .lapp => appW c
  | .lext => extW c
  | .tidx => tidxW c
  | .supp => suppW c

-- a value into a pattern
mutual
def bindP : Pt → D → En → Option En
  | .nm i, x, env => if i < env.length then some (env.set i (some (.d x))) else none
  | .tup p, .tup xs, env => bindPs p xs env
  | _, _, _ => none
def bindPs : Pt → List D → En → Option En
  | .nil, [], env => some env
  | .cons p q, x :: xs, env => match bindP p x env with
    | some env' => bindPs q xs env'
    | none => none
  | _, _, _ => none
end
def clearO (own : List Nat) (env : En) : En := own.foldr (fun i e => e.set i none) env

def partO : D → Option Int
  | .int i => some i
  | _ => none
-- the same
mutual
def D.same : D → D → Bool
  | .non, .non => true
  | .bl a, .bl b => a == b
  | .int i, .int j => decide (i = j)
  | .str x, .str y => decide (x = y)
  | .tup xs, .tup ys => D.sames xs ys
  | .lst xs, .lst ys => D.sames xs ys
  | _, _ => false
def D.sames : List D → List D → Bool
  | [], [] => true
  | x :: xs, y :: ys => D.same x y && D.sames xs ys
  | _, _ => false
end
mutual
theorem D.same_eq : ∀ {x y : D}, x.same y = true → x = y
  | .non, y, h => by cases y <;> simp [D.same] at h ⊢
  | .bl a, y, h => by cases y <;> simp [D.same] at h ⊢; exact h
  | .int a, y, h => by cases y <;> simp [D.same] at h ⊢; exact h
  | .str a, y, h => by cases y <;> simp [D.same] at h ⊢; exact h
  | .tup xs, y, h => by cases y <;> simp [D.same] at h ⊢; exact D.sames_eq h
  | .lst xs, y, h => by cases y <;> simp [D.same] at h ⊢; exact D.sames_eq h
theorem D.sames_eq : ∀ {x y : List D}, D.sames x y = true → x = y
  | [], [], _ => rfl
  | [], _ :: _, h => by simp [D.sames] at h
  | _ :: _, [], h => by simp [D.sames] at h
  | x :: xs, y :: ys, h => by
    simp only [D.sames, Bool.and_eq_true] at h
    rw [D.same_eq h.1, D.sames_eq h.2]
end
mutual
theorem D.same_rfl : ∀ x : D, x.same x = true
  | .non => rfl
  | .bl a => by simp [D.same]
  | .int a => by simp [D.same]
  | .str a => by simp [D.same]
  | .tup xs => by simp [D.same, D.sames_rfl xs]
  | .lst xs => by simp [D.same, D.sames_rfl xs]
theorem D.sames_rfl : ∀ x : List D, D.sames x x = true
  | [] => rfl
  | x :: xs => by simp [D.sames, D.same_rfl x, D.sames_rfl xs]
end
/-- a cell that is locked while it is walked, and if it is to be unlocked behind -/
abbrev Lk := Option (Nat × Bool)
/-- the list behind a walked value, the lock, the cells meanwhile -/
def walked (c : Cells) : W → Option (List D × Lk × Cells)
  | .d (.lst xs) => some (xs, none, c)
  | .d (.tup xs) => some (xs, none, c)
  | .d (.str x) => some (x.cps.toList.map (fun z => .str ⟨#[z]⟩), none, c)
  | .fl xs => some (xs, none, c)
  | .ref n => match c[n]? with
    | some (.lst xs) => some (xs, some (n, true), c.set n (.lk xs))
    | some (.lk xs) => some (xs, some (n, false), c)
    | _ => none
  | _ => none
/-- it is locked as it was -/
def okLk (l : Lk) (xs : List D) (c : Cells) : Bool := match l with
  | some (n, _) => (match c[n]? with
    | some (.lk ys) => D.sames ys xs
    | _ => false)
  | none => true
def unlock (l : Lk) (xs : List D) (c : Cells) : Option Cells := match l with
  | some (n, b) => if okLk l xs c = true then some (if b = true then c.set n (.lst xs) else c) else none
  | none => some c
def rngL (lo : Int) (n : Nat) : List D := (List.range n).map fun k => .int (lo + (k : Nat))
def rng1 : List D → Option (List D)
  | [.int j] => if -4611686018427387904 ≤ j ∧ j < 4611686018427387904 then some (rngL 0 j.toNat) else none
  | _ => none
def rng2 : List D → Option (List D)
  | [.int i, .int j] => if -4611686018427387904 ≤ i ∧ i < 4611686018427387904 ∧ -4611686018427387904 ≤ j ∧ j < 4611686018427387904 then some (rngL i (j - i).toNat) else none
  | _ => none
def zipD (xs ys : List D) : List D := List.zipWith (fun x y => D.tup [x, y]) xs ys

def zipW : List W → Option (List D)
  | [.d (.lst xs), .d (.lst ys)] => some (zipD xs ys)
  | [.d (.tup xs), .d (.tup ys)] => some (zipD xs ys)
  | _ => none
def zipT : List W → Option (List D)
  | [.d (.tup xs), .d (.tup ys)] => some (zipD xs ys)
  | _ => none
/-- a comprehension's turns: f gives none (left out) or an element -/
def lcTurns (ck : Cells → Bool) (f : D → Cells → Res (Option D × Cells)) : List D → Cells → List D → Res (List D × Cells)
  | [], c, acc => if ck c = true then .ok (acc, c) else .no
  | x :: xs, c, acc => if ck c = true then (match f x c with
    | .ok (none, c') => lcTurns ck f xs c' acc
    | .ok (some y, c') => if acc.length < LINE then lcTurns ck f xs c' (acc ++ [y]) else .no
    | _ => .no) else .no

mutual
def evE (F : Fns) : T → En → Cells → Res (W × Cells)
  | .non, _, c => .ok (.d .non, c)
  | .bl b, _, c => .ok (.d (.bl b), c)
  | .int i, _, c => .ok (.d (.int i), c)
  | .str x, _, c => .ok (.d (.str x), c)
  | .var i, env, c => match env[i]? with
    | some (some w) => .ok (w, c)
    | _ => .no
  | .glb x, _, c => match F.glb x with
    | some d => .ok (.d d, c)
    | none => .no
  | .bin o a b, env, c => evE F a env c >>= fun r => evE F b env r.2 >>= fun q =>
    match view q.2 r.1, view q.2 q.1 with
    | some x, some y => ofO (binD o x y) >>= fun w => .ok (w, q.2)
    | _, _ => .no
  | .neg a, env, c => evE F a env c >>= fun r => match view r.2 r.1 with
    | some (.int i) => .ok (.d (.int (-i)), r.2)
    | _ => .no
  | .unot a, env, c => evE F a env c >>= fun r => ofO (truW r.2 r.1) >>= fun k => .ok (.d (.bl (!k)), r.2)
  | .band a b, env, c => evE F a env c >>= fun r => ofO (truW r.2 r.1) >>= fun k => if k = true then evE F b env r.2 else .ok (r.1, r.2)
  | .bor a b, env, c => evE F a env c >>= fun r => ofO (truW r.2 r.1) >>= fun k => if k = true then .ok (r.1, r.2) else evE F b env r.2
  | .cmp o a b, env, c => evE F a env c >>= fun r => evE F b env r.2 >>= fun q =>
    match view q.2 r.1, view q.2 q.1 with
    | some x, some y => ofO (cmpD o x y) >>= fun k => .ok (.d (.bl k), q.2)
    | _, _ => .no
  | .ife t a b, env, c => evE F t env c >>= fun r => ofO (truW r.2 r.1) >>= fun k => if k = true then evE F a env r.2 else evE F b env r.2
  | .tup as, env, c => evL F as env c >>= fun r => ofO (frzs r.1) >>= fun xs => ofO (tupW xs) >>= fun w => .ok (w, r.2)
  | .lst as, env, c => evL F as env c >>= fun r => ofO (frzs r.1) >>= fun xs => ofO (lstW xs) >>= fun w => .ok (w, r.2)
  | .call f as, env, c => evL F as env c >>= fun r => F.call f r.1 r.2
  | .bi b as, env, c => evL F as env c >>= fun r => ofO (views r.2 r.1) >>= fun xs => ofO (biD b xs) >>= fun w => .ok (w, r.2)
  | .idx a i, env, c => evE F a env c >>= fun r => evE F i env r.2 >>= fun q =>
    match viewD q.2 r.1, view q.2 q.1 with
    | some kvs, some k => ofO (dGet kvs k) >>= fun x => .ok (.d x, q.2)
    | none, some k => (match view q.2 r.1 with
      | some x => ofO (idxD x k) >>= fun y => .ok (.d y, q.2)
      | none => .no)
    | _, _ => .no
  | .slc a lo hi, env, c => evE F a env c >>= fun r => evO F lo env r.2 >>= fun l => evO F hi env l.2 >>= fun h =>
    match viewS h.2 r.1 with
    | some x => ofO (slcD x l.1 h.1) >>= fun w => .ok (w, h.2)
    | none => .no
  | .rev a, env, c => evE F a env c >>= fun r => match view r.2 r.1 with
    | some (.lst xs) => .ok (.fl xs.reverse, r.2)
    | some (.tup xs) => .ok (.d (.tup xs.reverse), r.2)
    | _ => .no
  | .isi t a, env, c => evE F a env c >>= fun r => match view r.2 r.1 with
    | some x => .ok (.d (.bl (isD t x)), r.2)
    | none => .no
  | .meth m o as, env, c => evE F o env c >>= fun r => if tyMe r.2 r.1 m = true then evL F as env r.2 >>= fun q => ofO (meW q.2 m r.1 q.1) else .no
  | .dct kvs, env, c => evP F kvs env c >>= fun r => if r.1.length ≤ 15 then .ok (.fd (dMerge [] r.1), r.2) else .no
  | .mkd as, env, c => evL F as env c >>= fun r => match r.1 with
    | [.d (.lst xs)] => ofO (pairsOf xs) >>= fun kvs => .ok (.fd (dMerge [] kvs), r.2)
    | _ => .no
  | .lzip as, env, c => evL F as env c >>= fun r => ofO (zipT r.1) >>= fun xs => .ok (.fl xs, r.2)
  | .lc own e p it ifs, env, c => evI F it env c >>= fun r =>
    lcTurns (okLk r.2.1 r.1) (fun x c => ofO (bindP p x (clearO own env)) >>= fun env' => evT F ifs env' c >>= fun k =>
      if k.1 = true then evE F e env' k.2 >>= fun w => ofO (frz w.1) >>= fun y => .ok (some y, w.2) else .ok (none, k.2)) r.1 r.2.2 [] >>= fun q =>
    ofO (unlock r.2.1 r.1 q.2) >>= fun c' => .ok (.fl q.1, c')
  | _, _, _ => .no
/-- a row of values -/
def evL (F : Fns) : T → En → Cells → Res (List W × Cells)
  | .nil, _, c => .ok ([], c)
  | .cons a as, env, c => evE F a env c >>= fun r => ofO (frzW r.1) >>= fun w => evL F as env r.2 >>= fun q => .ok (w :: q.1, q.2)
  | _, _, _ => .no
/-- a slice's bound -/
def evO (F : Fns) : T → En → Cells → Res (Option Int × Cells)
  | .nop, _, c => .ok (none, c)
  | .sb t, env, c => evE F t env c >>= fun r => match view r.2 r.1 with
    | some (.int i) => .ok (some i, r.2)
    | _ => .no
  | _, _, _ => .no
/-- entries of a display -/
def evP (F : Fns) : T → En → Cells → Res (List (D × D) × Cells)
  | .nil, _, c => .ok ([], c)
  | .cons k (.cons v r), env, c => evE F k env c >>= fun r' => ofO (frzW r'.1) >>= fun kw => evE F v env r'.2 >>= fun q => ofO (frzW q.1) >>= fun xw => evP F r env q.2 >>= fun p =>
    match kw, xw with
    | .d a, .d x => (match keyD a with
      | some _ => .ok ((a, x) :: p.1, p.2)
      | none => .no)
    | _, _ => .no
  | _, _, _ => .no
/-- a row of tests -/
def evT (F : Fns) : T → En → Cells → Res (Bool × Cells)
  | .nil, _, c => .ok (true, c)
  | .cons a as, env, c => evE F a env c >>= fun r => ofO (truW r.2 r.1) >>= fun k => if k = true then evT F as env r.2 else .ok (false, r.2)
  | _, _, _ => .no
/-- what is walked: the items, the cells meanwhile, the cells behind -/
def evI (F : Fns) : T → En → Cells → Res (List D × Lk × Cells)
  | .rng as, env, c => evL F as env c >>= fun r => ofO (views r.2 r.1) >>= fun xs => ofO (rng1 xs) >>= fun items => .ok (items, none, r.2)
  | .rng2 as, env, c => evL F as env c >>= fun r => ofO (views r.2 r.1) >>= fun xs => ofO (rng2 xs) >>= fun items => .ok (items, none, r.2)
  | .zip as, env, c => evL F as env c >>= fun r => ofO (zipW r.1) >>= fun xs => .ok (xs, none, r.2)
  | .it t, env, c => evE F t env c >>= fun r => ofO (walked r.2 r.1)
  | _, _, _ => .no
end
/-- how a statement ends -/
inductive Fl where
  | nx | bk | ct | ret (w : W)
def setW (env : En) (i : Nat) (w : W) : Option En := if i < env.length then some (env.set i (some w)) else none
def setAll : List Nat → List D → En → Option En
  | [], [], env => some env
  | i :: is, x :: xs, env => match setW env i (.d x) with
    | some env' => setAll is xs env'
    | none => none
  | _, _, _ => none
/-- o[i] = x -/
def putIx (c : Cells) : W → D → D → Option Cells
  | .ref n, k, x => match c[n]? with
    | some (.lst xs) => (match k with
      | .int i => (match L2.ixN xs.length i with
        | some j => some (c.set n (.lst (xs.set j x)))
        | none => none)
      | _ => none)
    | some (.dct kvs) => if (keyD k).isSome = true ∧ kvs.length < LINE then some (c.set n (.dct (dPut kvs k x))) else none
    | _ => none
  | _, _, _ => none
/-- a value made ready for a place -/
def readyG : G → W → Option W
  | .al _, .fl xs => some (.fl xs)
  | .al _, .fd kvs => some (.fd kvs)
  | .al _, w => frzW w
  | .nm _, .fd kvs => some (.fd kvs)
  | .nm _, w => frzW w
  | _, _ => none
/-- a value into a slot; a fresh container becomes a cell -/
def putW (i : Nat) : W → En → Cells → Option (En × Cells)
  | .fl xs, env, c => match setW env i (.ref c.length) with
    | some env' => some (env', c ++ [.lst xs])
    | none => none
  | .fd kvs, env, c => match setW env i (.ref c.length) with
    | some env' => some (env', c ++ [.dct kvs])
    | none => none
  | w, env, c => match setW env i w with
    | some env' => some (env', c)
    | none => none
def starXs (c : Cells) (w : W) : Option (List D) := match view c w with
  | some (.lst xs) => some xs
  | some (.tup xs) => some xs
  | _ => none
def storeG (F : Fns) : G → W → En → Cells → Res (En × Cells)
  | .nm i, w, env, c => ofO (readyG (.nm i) w) >>= fun w' => ofO (putW i w' env c)
  | .al i, w, env, c => ofO (readyG (.al i) w) >>= fun w' => ofO (putW i w' env c)
  | .pt p, w, env, c => ofO (view c w) >>= fun x => ofO (bindP p x env) >>= fun env' => .ok (env', c)
  | .unl p, w, env, c => match view c w with
    | some (.lst xs) => ofO (bindPs p xs env) >>= fun env' => .ok (env', c)
    | _ => .no
  | .star p n i, w, env, c => match starXs c w with
    | some xs => if n ≤ xs.length + 1 ∧ i < n ∧ xs.length ≤ 16384 then
        ofO (bindPs p (xs.take i ++ [.lst ((xs.drop i).take (xs.length + 1 - n))] ++ (xs.drop i).drop (xs.length + 1 - n)) env) >>= fun env' => .ok (env', c) else .no
    | none => .no
  | .ix o i, w, env, c => ofO (frz w) >>= fun x => evE F o env c >>= fun r => evE F i env r.2 >>= fun q => ofO (view q.2 q.1) >>= fun k =>
    ofO (putIx q.2 r.1 k x) >>= fun c' => .ok (env, c')
/-- a, b = e, f: the values -/
def evR (F : Fns) : List G → List T → En → Cells → Res (List W × Cells)
  | [], [], _, c => .ok ([], c)
  | g :: gs, t :: ts, env, c => evE F t env c >>= fun r => ofO (readyG g r.1) >>= fun w => evR F gs ts env r.2 >>= fun p => .ok (w :: p.1, p.2)
  | _, _, _, _ => .no
def slotG : G → Nat
  | .nm i => i
  | .al i => i
  | _ => 0
def putWs : List G → List W → En → Cells → Option (En × Cells)
  | [], [], env, c => some (env, c)
  | g :: gs, w :: ws, env, c => match putW (slotG g) w env c with
    | some r => putWs gs ws r.1 r.2
    | none => none
  | _, _, _, _ => none
def forTurns (ck : Cells → Bool) (f : D → En → Cells → Res (Fl × En × Cells)) : List D → En → Cells → Res (Fl × En × Cells)
  | [], env, c => if ck c = true then .ok (.nx, env, c) else .no
  | x :: xs, env, c => if ck c = true then f x env c >>= fun r => (match r.1 with
    | .nx => forTurns ck f xs r.2.1 r.2.2
    | .ct => forTurns ck f xs r.2.1 r.2.2
    | .bk => .ok (.nx, r.2.1, r.2.2)
    | .ret w => .ok (.ret w, r.2.1, r.2.2)) else .no
def whTurns (t : En → Cells → Res (Bool × Cells)) (f : En → Cells → Res (Fl × En × Cells)) : Nat → En → Cells → Res (Fl × En × Cells)
  | 0, _, _ => .no
  | n + 1, env, c => t env c >>= fun k => if k.1 = true then f env k.2 >>= fun r => (match r.1 with
      | .nx => whTurns t f n r.2.1 r.2.2
      | .ct => whTurns t f n r.2.1 r.2.2
      | .bk => .ok (.nx, r.2.1, r.2.2)
      | .ret w => .ok (.ret w, r.2.1, r.2.2)) else .ok (.nx, env, k.2)
def exS (F : Fns) : S → En → Cells → Res (Fl × En × Cells)
  | .asg g e, env, c => evE F e env c >>= fun r => storeG F g r.1 env r.2 >>= fun q => .ok (.nx, q.1, q.2)
  | .par gs ts, env, c => evR F gs ts env c >>= fun r => ofO (putWs gs r.1 env r.2) >>= fun q => .ok (.nx, q.1, q.2)
  | .ret e, env, c => evE F e env c >>= fun r => .ok (.ret r.1, env, r.2)
  | .ife t a b, env, c => evE F t env c >>= fun r => ofO (truW r.2 r.1) >>= fun k => if k = true then exS F a env r.2 else exS F b env r.2
  | .forr p it b, env, c => evI F it env c >>= fun r => forTurns (okLk r.2.1 r.1) (fun x e c' => ofO (bindP p x e) >>= fun e' => exS F b e' c') r.1 env r.2.2 >>= fun q =>
    ofO (unlock r.2.1 r.1 q.2.2) >>= fun c' => .ok (q.1, q.2.1, c')
  | .whl t b, env, c => whTurns (fun e c' => evE F t e c' >>= fun r => ofO (truW r.2 r.1) >>= fun k => .ok (k, r.2)) (fun e c' => exS F b e c') F.fuel env c
  | .ex e, env, c => evE F e env c >>= fun r => .ok (.nx, env, r.2)
  | .brk, env, c => .ok (.bk, env, c)
  | .cnt, env, c => .ok (.ct, env, c)
  | .pass, env, c => .ok (.nx, env, c)
  | .nil, env, c => .ok (.nx, env, c)
  | .cons a b, env, c => exS F a env c >>= fun r => match r.1 with
    | .nx => exS F b r.2.1 r.2.2
    | _ => .ok r

/-! ### calls -/
def refsOf : List W → List Nat
  | [] => []
  | .ref n :: ws => if (refsOf ws).contains n = true then refsOf ws else n :: refsOf ws
  | _ :: ws => refsOf ws
def renW (rs : List Nat) : W → W
  | .ref n => .ref (rs.idxOf n)
  | w => w
def backW (rs : List Nat) : W → Option W
  | .ref m => (rs[m]?).map .ref
  | w => some w
def putBack : List Nat → Cells → Cells → Cells
  | n :: ns, x :: xs, c => putBack ns xs (c.set n x)
  | _, _, c => c
def W.slotB : W → Bool
  | .fl _ => false
  | .fd _ => false
  | _ => true
def callIn (run : List W → Cells → Res (W × Cells)) (ws : List W) (c : Cells) : Res (W × Cells) :=
  if ws.all W.slotB = true then (match run (ws.map (renW (refsOf ws))) ((refsOf ws).map fun n => c.getD n .gone) with
    | .ok (w, sub) => ofO (backW (refsOf ws) w) >>= fun w' => .ok (w', putBack (refsOf ws) sub c)
    | _ => .no) else .no
structure Fd where
  params : Nat
  slots : Nat
  body : S
/-- what a def hands back; its own cells go -/
def finish (k : Nat) (w : W) (c : Cells) : Res (W × Cells) := match w with
  | .ref n => if n < k then .ok (.ref n, c.take k) else (match c[n]? with
    | some (.lst xs) => .ok (.fl xs, c.take k)
    | some (.dct kvs) => .ok (.fd kvs, c.take k)
    | _ => .no)
  | w => .ok (w, c.take k)
def runFn (F : Fns) (fd : Fd) (ws : List W) (c : Cells) : Res (W × Cells) :=
  if ws.length = fd.params ∧ fd.params ≤ fd.slots then exS F fd.body (ws.map some ++ List.replicate (fd.slots - fd.params) none) c >>= fun r => match r.1 with
    | .ret w => finish c.length w r.2.2
    | .nx => finish c.length (.d .non) r.2.2
    | _ => .no
  else .no
structure Pg where
  fns : List Fd
  glb : List D
  fuel : Nat
/-- what the texts of a program stand on, with n nested calls left -/
def callN (P : Pg) : Nat → Nat → List W → Cells → Res (W × Cells)
  | 0, _, _, _ => .no
  | n + 1, f, ws, c => match P.fns[f]? with
    | some fd => runFn ⟨fun g vs c' => callIn (callN P n g) vs c', fun i => P.glb[i]?, P.fuel⟩ fd ws c
    | none => .no
def fnsN (P : Pg) (n : Nat) : Fns := ⟨fun g vs c' => callIn (callN P n g) vs c', fun i => P.glb[i]?, P.fuel⟩
example (F : Fns) (env : En) (c : Cells) : evE F (.bin .Add (.int 3) (.int 4)) env c = .ok (.d (.int 7), c) := rfl
end Lf
end

section
set_option maxHeartbeats 4000000
/-! How plain data and cells stand in the abstract heap; how a run is told. -/
namespace Lf
open PySem PySem.Spec PyProof.Rows L2

/-! ### data in the heap -/
/-- a tuple that is only read, whose object has no dict of its own -/
def TpP (K : PySem.W.Frag) (G : Hp) (a : Addr) (xs : List V) : Prop :=
  (∃ o, G a = some (.frz o (.tup xs)) ∧ o.dict = none) ∨ ∃ (o : Obj) (its : Array Value) (n : Nat), K.lookup a = some o ∧ o.cls = .type "tuple" ∧ o.data = .seq its n ∧ its.size ≤ sizeLine ∧ Vals xs its.toList ∧ o.dict = none
theorem TpP.sqT {K : PySem.W.Frag} {G : Hp} {a : Addr} {xs : List V} (h : TpP K G a xs) : SqT K G a xs := by
  rcases h with ⟨o, e, _⟩ | ⟨o, its, n, h1, h2, h3, h4, h5, _⟩
  · exact .inl (.inr ⟨o, e⟩)
  · exact .inr ⟨o, its, n, h1, h2, h3, h4, h5⟩
theorem tpP_same {K : PySem.W.Frag} {G H : Hp} {a : Addr} {xs : List V} (s : Same G H) (h : TpP K G a xs) : TpP K H a xs := by
  rcases h with ⟨o, e, d⟩ | h
  · exact .inl ⟨o, s _ _ e, d⟩
  · exact .inr h
theorem TpP.new {K : PySem.W.Frag} {G : Hp} {p : Addr} {xs : List V} {o : Obj} (d : o.dict = none) : TpP K (upd G p (.frz o (.tup xs))) p xs := .inl ⟨o, upd_same, d⟩
mutual
inductive Dv (K : PySem.W.Frag) (G : Hp) : V → D → Prop
  | non : Dv K G .non .non
  | bl (b : Bool) : Dv K G (.bl b) (.bl b)
  | int (i : Int) : Dv K G (.int i) (.int i)
  | str (x : Str) : Dv K G (.str x) (.str x)
  | tup {a : Addr} {xs : List V} {ds : List D} : TpP K G a xs → Dvs K G xs ds → Dv K G (.ref a) (.tup ds)
  | lst {a : Addr} {xs : List V} {ds : List D} : Rd G a (.lst xs) → Dvs K G xs ds → Dv K G (.ref a) (.lst ds)
inductive Dvs (K : PySem.W.Frag) (G : Hp) : List V → List D → Prop
  | nil : Dvs K G [] []
  | cons {v : V} {vs : List V} {d : D} {ds : List D} : Dv K G v d → Dvs K G vs ds → Dvs K G (v :: vs) (d :: ds)
end
theorem rd_same {G H : Hp} {a : Addr} {u : HO} (s : Same G H) (r : Rd G a u) : Rd H a u := by
  rcases r with h | ⟨o, h⟩
  · exact .inl (s _ _ h)
  · exact .inr ⟨o, s _ _ h⟩
theorem sqT_same {K : PySem.W.Frag} {G H : Hp} {a : Addr} {xs : List V} (s : Same G H) (r : SqT K G a xs) : SqT K H a xs := by
  rcases r with h | h
  · exact .inl (rd_same s h)
  · exact .inr h
mutual
theorem Dv.mono {K : PySem.W.Frag} {G H : Hp} (s : Same G H) : ∀ {d : D} {v : V}, Dv K G v d → Dv K H v d
  | .non, _, h => by cases h; exact .non
  | .bl _, _, h => by cases h; exact .bl _
  | .int _, _, h => by cases h; exact .int _
  | .str _, _, h => by cases h; exact .str _
  | .tup ds, _, h => by cases h with
    | tup q r => exact .tup (tpP_same s q) (Dvs.mono s r)
  | .lst ds, _, h => by cases h with
    | lst q r => exact .lst (rd_same s q) (Dvs.mono s r)
theorem Dvs.mono {K : PySem.W.Frag} {G H : Hp} (s : Same G H) : ∀ {ds : List D} {vs : List V}, Dvs K G vs ds → Dvs K H vs ds
  | [], _, h => by cases h; exact .nil
  | d :: ds, _, h => by cases h with
    | cons a b => exact .cons (Dv.mono s a) (Dvs.mono s b)
end
mutual
theorem Dv.dp {K : PySem.W.Frag} {G : Hp} : ∀ {d : D} {v : V}, Dv K G v d → Dp K G v d.py
  | .non, _, h => by cases h; exact .non
  | .bl _, _, h => by cases h; exact .bl _
  | .int _, _, h => by cases h; exact .int _
  | .str _, _, h => by cases h; exact .str _
  | .tup ds, _, h => by cases h with
    | tup q r => exact .tup q.sqT (Dvs.dp r)
  | .lst ds, _, h => by cases h with
    | lst q r => exact .lst (.inl q) (Dvs.dp r)
theorem Dvs.dp {K : PySem.W.Frag} {G : Hp} : ∀ {ds : List D} {vs : List V}, Dvs K G vs ds → DpAll K G vs (D.pys ds)
  | [], _, h => by cases h; exact .nil
  | d :: ds, _, h => by cases h with
    | cons a b => exact .cons (Dv.dp a) (Dvs.dp b)
end
section
variable {K : PySem.W.Frag} {G : Hp}
theorem Dvs.length : ∀ {ds : List D} {vs : List V}, Dvs K G vs ds → vs.length = ds.length
  | [], _, h => by cases h; rfl
  | d :: ds, _, h => by cases h with
    | cons a b => simp [Dvs.length b]
theorem Dvs.append : ∀ {ds es : List D} {vs us : List V}, Dvs K G vs ds → Dvs K G us es → Dvs K G (vs ++ us) (ds ++ es)
  | [], _, _, _, h, k => by cases h; exact k
  | d :: ds, _, _, _, h, k => by cases h with
    | cons a b => exact .cons a (b.append k)
theorem Dvs.at : ∀ {ds : List D} {vs : List V} {i : Nat} {d : D}, Dvs K G vs ds → ds[i]? = some d → ∃ v, vs[i]? = some v ∧ Dv K G v d
  | [], _, _, _, h, e => by simp at e
  | d :: ds, _, 0, _, h, e => by cases h with
    | cons a b => simp at e; subst e; exact ⟨_, rfl, a⟩
  | d :: ds, _, i + 1, _, h, e => by cases h with
    | cons a b => obtain ⟨v, h1, h2⟩ := Dvs.at (i := i) b (by simpa using e); exact ⟨v, by simpa using h1, h2⟩
theorem Dvs.at' : ∀ {ds : List D} {vs : List V} {i : Nat} {v : V}, Dvs K G vs ds → vs[i]? = some v → ∃ d, ds[i]? = some d ∧ Dv K G v d
  | _, [], _, _, h, e => by simp at e
  | _, v :: vs, 0, _, h, e => by cases h with
    | cons a b => simp at e; subst e; exact ⟨_, rfl, a⟩
  | _, v :: vs, i + 1, _, h, e => by cases h with
    | cons a b => obtain ⟨v, h1, h2⟩ := Dvs.at' (i := i) b (by simpa using e); exact ⟨v, by simpa using h1, h2⟩
theorem Dvs.take : ∀ (n : Nat) {ds : List D} {vs : List V}, Dvs K G vs ds → Dvs K G (vs.take n) (ds.take n)
  | 0, _, _, _ => by simp; exact .nil
  | n + 1, _, _, .nil => .nil
  | n + 1, _, _, .cons a b => .cons a (Dvs.take n b)
theorem Dvs.drop : ∀ (n : Nat) {ds : List D} {vs : List V}, Dvs K G vs ds → Dvs K G (vs.drop n) (ds.drop n)
  | 0, _, _, h => by simpa using h
  | n + 1, _, _, .nil => .nil
  | n + 1, _, _, .cons a b => Dvs.drop n b
theorem Dvs.set {v : V} {d : D} (a : Dv K G v d) : ∀ (i : Nat) {ds : List D} {vs : List V}, Dvs K G vs ds → Dvs K G (vs.set i v) (ds.set i d)
  | _, _, _, .nil => .nil
  | 0, _, _, .cons _ b => .cons a b
  | n + 1, _, _, .cons x b => .cons x (Dvs.set a n b)
theorem Dvs.erase : ∀ (i : Nat) {ds : List D} {vs : List V}, Dvs K G vs ds → Dvs K G (vs.eraseIdx i) (ds.eraseIdx i)
  | _, _, _, .nil => .nil
  | 0, _, _, .cons _ b => b
  | n + 1, _, _, .cons x b => .cons x (Dvs.erase n b)
theorem Dvs.dropLast : ∀ {ds : List D} {vs : List V}, Dvs K G vs ds → Dvs K G vs.dropLast ds.dropLast
  | _, _, .nil => .nil
  | _, _, .cons _ .nil => .nil
  | _, _, .cons a (.cons b c) => .cons a (Dvs.dropLast (.cons b c))
theorem Dvs.reps : ∀ (k : Nat) {ds : List D} {vs : List V}, Dvs K G vs ds → Dvs K G (List.replicate k vs).flatten (Lf.reps ds k)
  | 0, _, _, _ => .nil
  | k + 1, ds, vs, h => by
    have := h.append (Dvs.reps k h)
    simpa [Lf.reps, List.replicate_succ] using this
end

/-! ### cells, values, slots -/
def Kvs (K : PySem.W.Frag) (G : Hp) : List (L2.Key × V) → List (D × D) → Prop := Paired fun p q => keyD q.1 = some p.1 ∧ Dv K G p.2 q.2
theorem Kvs.mono {K : PySem.W.Frag} {G H : Hp} (s : Same G H) {a : List (L2.Key × V)} {b : List (D × D)} (h : Kvs K G a b) : Kvs K H a b :=
  Paired.mapP h fun _ _ x => ⟨x.1, x.2.mono s⟩
def CellR (K : PySem.W.Frag) (G H : Hp) (a : Addr) : Cell → Prop
  | .lst xs => ∃ ys, H a = some (.lst ys) ∧ Dvs K G ys xs
  | .lk xs => ∃ ys, H a = some (.lst ys) ∧ Dvs K G ys xs
  | .dct kvs => ∃ ys, H a = some (.dK ys) ∧ Kvs K G ys kvs
  | .gone => True
def WR (K : PySem.W.Frag) (O : Addr → Prop) (G : Hp) (ι : List Addr) (H : Hp) : W → V → Prop
  | .d x, v => Dv K G v x
  | .ref n, v => ∃ a, ι[n]? = some a ∧ v = .ref a
  | .fl xs, v => ∃ a ys, v = .ref a ∧ G a = none ∧ a ∉ ι ∧ ¬ O a ∧ H a = some (.lst ys) ∧ Dvs K G ys xs
  | .fd kvs, v => ∃ a ys, v = .ref a ∧ G a = none ∧ a ∉ ι ∧ ¬ O a ∧ H a = some (.dK ys) ∧ Kvs K G ys kvs
  | .sq xs, v => ∃ a ys, v = .ref a ∧ SqL K G a ys ∧ Dvs K G ys xs
theorem sqL_same {K : PySem.W.Frag} {G H : Hp} {a : Addr} {xs : List V} (s : Same G H) (r : SqL K G a xs) : SqL K H a xs := by
  rcases r with h | h
  · exact .inl (rd_same s h)
  · exact .inr h
inductive WRs (K : PySem.W.Frag) (O : Addr → Prop) (G : Hp) (ι : List Addr) (H : Hp) : List W → List V → Prop
  | nil : WRs K O G ι H [] []
  | cons {w : W} {ws : List W} {v : V} {vs : List V} : WR K O G ι H w v → WRs K O G ι H ws vs → WRs K O G ι H (w :: ws) (v :: vs)
structure SR (K : PySem.W.Frag) (G : Hp) (ι : List Addr) (H : Hp) (c : Cells) : Prop where
  sub : Same G H
  len : ι.length = c.length
  nd : ι.Nodup
  has : ∀ a ∈ ι, H a ≠ none
  cel : ∀ (n : Nat) (x : Cell) (a : Addr), c[n]? = some x → ι[n]? = some a → (x ≠ .gone → G a = none) ∧ CellR K G H a x
/-- a value that may stand in a slot -/
def slotW : W → Prop
  | .d _ => True
  | .ref _ => True
  | .sq _ => True
  | _ => False
def EnR (K : PySem.W.Frag) (G : Hp) (ι : List Addr) (H : Hp) (env : En) (σ : L2.St) : Prop :=
  env.length = σ.length ∧ ∀ (i : Nat) (w : W), env[i]? = some (some w) → slotW w ∧ ∃ v, σ[i]? = some (some v) ∧ WR K (fun _ => True) G ι H w v

/-- from one state to a later one -/
structure Ex (ι : List Addr) (G H G' H' : Hp) : Prop where
  g : Same G G'
  gn : ∀ a o, G' a = some o → G a = some o ∨ H a = none ∨ a ∈ ι
  fr : ∀ a o, H a = some o → a ∉ ι → H' a = some o
  kp : ∀ a, H a ≠ none → H' a ≠ none
theorem Ex.refl {ι : List Addr} {G H : Hp} : Ex ι G H G H := ⟨fun _ _ h => h, fun _ _ h => .inl h, fun _ _ h _ => h, fun _ h => h⟩
theorem Ex.trans {ι : List Addr} {G H G1 H1 G2 H2 : Hp} (a : Ex ι G H G1 H1) (b : Ex ι G1 H1 G2 H2) : Ex ι G H G2 H2 where
  g := a.g.trans b.g
  gn := fun x o h => by
    rcases b.gn x o h with q | q | q
    · exact a.gn x o q
    · cases e : H x with
      | none => exact .inr (.inl rfl)
      | some u => exact absurd q (a.kp x (by rw [e]; simp))
    · exact .inr (.inr q)
  fr := fun x o h n => b.fr x o (a.fr x o h n) n
  kp := fun x h => b.kp x (a.kp x h)

section
variable {K : PySem.W.Frag} {O : Addr → Prop} {G H G' H' : Hp} {ι : List Addr}
theorem Ex.clear (e : Ex ι G H G' H') {a : Addr} {o : HO} (g : G a = Option.none) (h : H a = some o) (n : a ∉ ι) : G' a = Option.none := by
  cases q : G' a with
  | none => rfl
  | some u =>
    rcases e.gn a u q with z | z | z
    · rw [g] at z; cases z
    · rw [h] at z; cases z
    · exact absurd z n
theorem WR.keep (e : Ex ι G H G' H') : ∀ {w : W} {v : V}, WR K O G ι H w v → WR K O G' ι H' w v
  | .d _, _, h => Dv.mono e.g h
  | .sq _, _, ⟨a, ys, e1, e2, e3⟩ => ⟨a, ys, e1, sqL_same e.g e2, e3.mono e.g⟩
  | .ref _, _, h => h
  | .fl _, _, ⟨a, ys, e1, e2, e3, e6, e4, e5⟩ => ⟨a, ys, e1, e.clear e2 e4 e3, e3, e6, e.fr _ _ e4 e3, e5.mono e.g⟩
  | .fd _, _, ⟨a, ys, e1, e2, e3, e6, e4, e5⟩ => ⟨a, ys, e1, e.clear e2 e4 e3, e3, e6, e.fr _ _ e4 e3, e5.mono e.g⟩
theorem WRs.keep (e : Ex ι G H G' H') : ∀ {w : List W} {v : List V}, WRs K O G ι H w v → WRs K O G' ι H' w v
  | _, _, .nil => .nil
  | _, _, .cons a b => .cons (a.keep e) (b.keep e)
theorem EnR.keep (e : Ex ι G H G' H') {env : En} {σ : L2.St} (h : EnR K G ι H env σ) : EnR K G' ι H' env σ :=
  ⟨h.1, fun i w q => let ⟨s, v, a, b⟩ := h.2 i w q; ⟨s, v, a, b.keep e⟩⟩
end

/-! ### a run told -/
/-- what stands there -/
def dm (H : Hp) : Addr → Prop := fun a => H a ≠ none
theorem WR.weak {K : PySem.W.Frag} {O O' : Addr → Prop} {G H : Hp} {ι : List Addr} (i : ∀ a, O a → O' a) : ∀ {w : W} {v : V}, WR K O' G ι H w v → WR K O G ι H w v
  | .d _, _, h => h
  | .ref _, _, h => h
  | .sq _, _, h => h
  | .fl _, _, ⟨a, ys, e1, e2, e3, e6, e4, e5⟩ => ⟨a, ys, e1, e2, e3, fun o => e6 (i a o), e4, e5⟩
  | .fd _, _, ⟨a, ys, e1, e2, e3, e6, e4, e5⟩ => ⟨a, ys, e1, e2, e3, fun o => e6 (i a o), e4, e5⟩
theorem WRs.weak {K : PySem.W.Frag} {O O' : Addr → Prop} {G H : Hp} {ι : List Addr} (i : ∀ a, O a → O' a) : ∀ {w : List W} {v : List V}, WRs K O' G ι H w v → WRs K O G ι H w v
  | _, _, .nil => .nil
  | _, _, .cons a b => .cons (a.weak i) (b.weak i)
theorem WR.slot {K : PySem.W.Frag} {O O' : Addr → Prop} {G H : Hp} {ι : List Addr} : ∀ {w : W} {v : V}, slotW w → WR K O' G ι H w v → WR K O G ι H w v
  | .d _, _, _, h => h
  | .ref _, _, _, h => h
  | .sq _, _, _, h => h
  | .fl _, _, h, _ => h.elim
  | .fd _, _, h, _ => h.elim
/-- how what is told stands in the heap -/
abbrev Rl (β γ : Type) := (Addr → Prop) → Hp → List Addr → Hp → β → γ → Prop
class Weak {β γ : Type} (rel : Rl β γ) : Prop where
  weak : ∀ {O O' : Addr → Prop} {G H : Hp} {ι : List Addr} {b : β} {v : γ}, (∀ a, O a → O' a) → rel O' G ι H b v → rel O G ι H b v
instance {K : PySem.W.Frag} : Weak (WR K) := ⟨fun i h => h.weak i⟩
instance {K : PySem.W.Frag} : Weak (WRs K) := ⟨fun i h => h.weak i⟩
/-- what is told as it is -/
def Eqv {β : Type} : Rl β β := fun _ _ _ _ a b => a = b
instance {β : Type} : Weak (Eqv (β := β)) := ⟨fun _ h => h⟩
/-- Z: an exception by its class's name and its arguments; W: what is wanted of it -/
structure Ct where
  K : PySem.W.Frag
  Z : Str → List D → Value → Option Addr → Hp → Prop
  W : WX
section
variable (C : Ct)
def RE {β γ : Type} (rel : Rl β γ) (G : Hp) (ι : List Addr) (H : Hp) (σ : L2.St) (r : Res (β × Cells)) (Q : γ → Hp → Prop) : Prop := match r with
  | .ok (b, c') => ∀ G' H' v, Ex ι G H G' H' → SR C.K G' ι H' c' → rel (dm H) G' ι H' b v → Q v H'
  | .rs x y c' => ∀ G' H' cls d, Ex ι G H G' H' → SR C.K G' ι H' c' → C.Z x y cls d H' → C.W cls d σ H'
  | .no => False
def tR {β γ : Type} (rel : Rl β γ) (f : En → Cells → Res (β × Cells)) : L2.St → Hp → (γ → Hp → Prop) → Prop :=
  fun σ H Q => ∃ G ι env c, SR C.K G ι H c ∧ EnR C.K G ι H env σ ∧ RE C rel G ι H σ (f env c) Q
def tE (f : En → Cells → Res (W × Cells)) : TE := tR C (WR C.K) f
def tA (f : En → Cells → Res (List W × Cells)) : TA := tR C (WRs C.K) f
def tB (f : En → Cells → Res (Bool × Cells)) : TT := tR C Eqv f
def tO (f : En → Cells → Res (Option Int × Cells)) : TO := tR C Eqv f
end
section
variable {C : Ct} {β γ β' γ' : Type} {rel : Rl β γ} {rel' : Rl β' γ'} {G H G1 H1 : Hp} {ι : List Addr} {σ : L2.St}
theorem RE.imp {r : Res (β × Cells)} {Q Q' : γ → Hp → Prop} (h : RE C rel G ι H σ r Q) (i : ∀ v H', Q v H' → Q' v H') : RE C rel G ι H σ r Q' := by
  cases r with
  | ok p => exact fun G' H' v a b c => i v H' (h G' H' v a b c)
  | rs x y c => exact h
  | no => exact h
/-- a run from a later state -/
theorem RE.from [Weak rel] {r : Res (β × Cells)} {Q : γ → Hp → Prop} (e : Ex ι G H G1 H1) (h : RE C rel G ι H σ r Q) : RE C rel G1 ι H1 σ r Q := by
  cases r with
  | ok p => exact fun G' H' v a b c => h G' H' v (e.trans a) b (Weak.weak e.kp c)
  | rs x y c => exact fun G' H' cls d a b c => h G' H' cls d (e.trans a) b c
  | no => exact h
/-- one run behind another: the rest is wanted from the first start on -/
theorem RE.bind {r : Res (β × Cells)} {k : β × Cells → Res (β' × Cells)} {Q : γ' → Hp → Prop} (h : RE C rel' G ι H σ (r >>= k) Q) :
    RE C rel G ι H σ r fun v H' => ∃ G' c' b, Ex ι G H G' H' ∧ SR C.K G' ι H' c' ∧ rel (dm H) G' ι H' b v ∧ RE C rel' G ι H σ (k (b, c')) Q := by
  cases r with
  | ok p => exact fun G' H' v e s w => ⟨G', p.2, p.1, e, s, w, h⟩
  | rs x y c => exact h
  | no => exact h
theorem RE.opt {α : Type} {o : Option α} {k : α → Res (β × Cells)} {Q : γ → Hp → Prop} (h : RE C rel G ι H σ (ofO o >>= k) Q) : ∃ a, o = some a ∧ RE C rel G ι H σ (k a) Q := by
  cases o with
  | none => exact False.elim h
  | some a => exact ⟨a, rfl, h⟩
theorem RE.later {b : β} {c : Cells} {v : γ} {Q : γ → Hp → Prop} {G' H' : Hp} (h : RE C rel G ι H σ (.ok (b, c)) Q) (e : Ex ι G H G' H') (s : SR C.K G' ι H' c) (r : rel (dm H) G' ι H' b v) : Q v H' := h G' H' v e s r
theorem RE.now {b : β} {c : Cells} {v : γ} {Q : γ → Hp → Prop} (h : RE C rel G ι H σ (.ok (b, c)) Q) (s : SR C.K G ι H c) (r : rel (dm H) G ι H b v) : Q v H := h G H v .refl s r
end
theorem peI {X : Cx} {e : Expr} {t t' : TE} (h : PE X e t) (i : ∀ σ H Q, t' σ H Q → t σ H Q) : PE X e t' := ⟨fun pins s σ H Q I q => h.run pins s σ H Q I (i σ H Q q)⟩
theorem ptI {X : Cx} {e : Expr} {t t' : TT} (h : PT X e t) (i : ∀ σ H Q, t' σ H Q → t σ H Q) : PT X e t' := ⟨fun pins s σ H Q I q => h.run pins s σ H Q I (i σ H Q q)⟩
theorem pwI {X : Cx} {e : Expr} {t t' : TT} (h : PW X e t) (i : ∀ σ H Q, t' σ H Q → t σ H Q) : PW X e t' := ⟨fun wh pins s σ H Q I q => h.run wh pins s σ H Q I (i σ H Q q)⟩
theorem paI {X : Cx} {e : List Expr} {t t' : TA} (h : PA X e t) (i : ∀ σ H Q, t' σ H Q → t σ H Q) : PA X e t' := ⟨fun pos pins s σ H Q I q => h.run pos pins s σ H Q I (i σ H Q q)⟩
theorem poI {X : Cx} {e : Option Expr} {t t' : TO} (h : PO X e t) (i : ∀ σ H Q, t' σ H Q → t σ H Q) : PO X e t' := ⟨fun pins s σ H Q I q => h.run pins s σ H Q I (i σ H Q q)⟩
theorem psI {X : Cx} {e : Stmt} {t t' : TS} (h : PS X e t) (i : ∀ D σ H, t' D σ H → t D σ H) : PS X e t' := ⟨fun pins s σ H D I q => h.run pins s σ H D I (i D σ H q)⟩
theorem pssI {X : Cx} {e : List Stmt} {t t' : TS} (h : PSs X e t) (i : ∀ D σ H, t' D σ H → t D σ H) : PSs X e t' := ⟨fun pins s σ H D I q => h.run pins s σ H D I (i D σ H q)⟩

/-! ### what a view shows -/
section
variable {K : PySem.W.Frag} {O : Addr → Prop} {G H : Hp} {ι : List Addr} {c : Cells}
/-- data whose outermost container is read in the heap as it stands, what is within in G -/
inductive Vw (K : PySem.W.Frag) (G H : Hp) : V → D → Prop
  | sc {v : V} {d : D} : Dv K G v d → (∀ xs, d ≠ .lst xs) → Vw K G H v d
  | lst {a : Addr} {ys : List V} {xs : List D} : Rd H a (.lst ys) → Dvs K G ys xs → Vw K G H (.ref a) (.lst xs)
theorem Vw.of (s : Same G H) {v : V} {d : D} (h : Dv K G v d) : Vw K G H v d := by
  cases h with
  | lst r q => exact .lst (rd_same s r) q
  | non => exact .sc .non nofun
  | bl b => exact .sc (.bl b) nofun
  | int b => exact .sc (.int b) nofun
  | str b => exact .sc (.str b) nofun
  | tup r q => exact .sc (.tup r q) nofun
theorem Vw.dv (s : Same G H) {v : V} {d : D} (h : Vw K G H v d) : Dv K H v d := by
  cases h with
  | sc h _ => exact h.mono s
  | lst r q => exact .lst r (q.mono s)
theorem SR.cell (s : SR K G ι H c) {n : Nat} {x : Cell} (e : c[n]? = some x) : ∃ a, ι[n]? = some a ∧ (x ≠ .gone → G a = none) ∧ CellR K G H a x := by
  have hn : n < c.length := (List.getElem?_eq_some_iff.mp e).1
  have hl : n < ι.length := by rw [s.len]; exact hn
  exact ⟨ι[n], by simp [hl], s.cel n x _ e (by simp [hl])⟩
theorem vw_of (s : SR K G ι H c) {w : W} {v : V} {d : D} (r : WR K O G ι H w v) (e : view c w = some d) : Vw K G H v d := by
  cases w with
  | d x => cases e; exact .of s.sub r
  | fl xs =>
    cases e
    obtain ⟨a, ys, rfl, _, _, _, h, q⟩ := r
    exact .lst (.inl h) q
  | fd kvs => cases e
  | sq xs => cases e
  | ref n =>
    obtain ⟨a, ha, rfl⟩ := r
    simp only [view] at e
    split at e
    · rename_i xs hc
      cases e
      obtain ⟨a', h1, _, ys, h2, h3⟩ := s.cell hc
      rw [ha] at h1; cases h1
      exact .lst (.inl h2) h3
    · rename_i xs hc
      cases e
      obtain ⟨a', h1, _, ys, h2, h3⟩ := s.cell hc
      rw [ha] at h1; cases h1
      exact .lst (.inl h2) h3
    · cases e
theorem vwD_of (s : SR K G ι H c) {w : W} {v : V} {kvs : List (D × D)} (r : WR K O G ι H w v) (e : viewD c w = some kvs) : ∃ a ys, v = .ref a ∧ H a = some (.dK ys) ∧ Kvs K G ys kvs := by
  cases w with
  | d x => cases e
  | fl xs => cases e
  | sq xs => cases e
  | fd kvs' =>
    cases e
    obtain ⟨a, ys, rfl, _, _, _, h, q⟩ := r
    exact ⟨a, ys, rfl, h, q⟩
  | ref n =>
    obtain ⟨a, ha, rfl⟩ := r
    simp only [viewD] at e
    split at e
    · rename_i xs hc
      cases e
      obtain ⟨a', h1, _, ys, h2, h3⟩ := s.cell hc
      rw [ha] at h1; cases h1
      exact ⟨a, ys, rfl, h2, h3⟩
    · cases e
/-- a new object at a free place -/
theorem SR.grow (s : SR K G ι H c) {p : Addr} (hp : H p = none) (o : HO) : SR K G ι (upd H p o) c := by
  have hG : G p = none := s.sub.free hp
  have ne : ∀ {a : Addr}, H a ≠ none → a ≠ p := fun h e => h (e ▸ hp)
  refine ⟨fun a u h => by rw [upd_ne (ne (by rw [s.sub a u h]; simp))]; exact s.sub a u h, s.len, s.nd, fun a h => by rw [upd_ne (ne (s.has a h))]; exact s.has a h, fun n x a h1 h2 => ?_⟩
  have hx := s.cel n x a h1 h2
  have ha : a ≠ p := ne (s.has a (List.mem_of_getElem? h2))
  refine ⟨hx.1, ?_⟩
  cases x with
  | gone => trivial
  | lst xs => obtain ⟨ys, a1, a2⟩ := hx.2; exact ⟨ys, by rw [upd_ne ha]; exact a1, a2⟩
  | lk xs => obtain ⟨ys, a1, a2⟩ := hx.2; exact ⟨ys, by rw [upd_ne ha]; exact a1, a2⟩
  | dct xs => obtain ⟨ys, a1, a2⟩ := hx.2; exact ⟨ys, by rw [upd_ne ha]; exact a1, a2⟩
theorem Ex.grow {p : Addr} (hp : H p = none) (o : HO) : Ex ι G H G (upd H p o) := by
  have ne : ∀ {a : Addr} {u : HO}, H a = some u → a ≠ p := fun h e => by rw [e, hp] at h; cases h
  refine ⟨fun _ _ h => h, fun _ _ h => .inl h, fun a u h _ => by rw [upd_ne (ne h)]; exact h, fun a h => ?_⟩
  by_cases e : a = p
  · subst e; exact absurd hp h
  · rw [upd_ne e]; exact h
theorem CellR.mono {G' : Hp} (g : Same G G') {a : Addr} : ∀ {x : Cell}, CellR K G H a x → CellR K G' H a x
  | .gone, _ => trivial
  | .lst _, ⟨ys, a1, a2⟩ => ⟨ys, a1, a2.mono g⟩
  | .lk _, ⟨ys, a1, a2⟩ => ⟨ys, a1, a2.mono g⟩
  | .dct _, ⟨ys, a1, a2⟩ => ⟨ys, a1, a2.mono g⟩
/-- what stands there and is nobody's is kept for good -/
theorem SR.keepG (s : SR K G ι H c) {p : Addr} {o : HO} (hp : H p = some o) (hn : G p = none) (hi : p ∉ ι) : SR K (upd G p o) ι H c := by
  have sm : Same G (upd G p o) := fun a u h => by
    rw [upd_ne (fun e => by rw [e, hn] at h; cases h)]; exact h
  refine ⟨fun a u h => ?_, s.len, s.nd, s.has, fun n x a h1 h2 => ?_⟩
  · by_cases e : a = p
    · subst e; rw [upd_same] at h; cases h; exact hp
    · rw [upd_ne e] at h; exact s.sub a u h
  · have hx := s.cel n x a h1 h2
    have ha : a ≠ p := fun e => hi (e ▸ List.mem_of_getElem? h2)
    exact ⟨fun q => by rw [upd_ne ha]; exact hx.1 q, hx.2.mono sm⟩
theorem sameG {p : Addr} {o : HO} (hn : G p = none) : Same G (upd G p o) := fun a u h => by
  rw [upd_ne (fun e => by rw [e, hn] at h; cases h)]; exact h
/-- a new tuple, kept for good -/
theorem SR.tup (s : SR K G ι H c) {p : Addr} (hp : H p = none) (o : HO) : SR K (upd G p o) ι (upd H p o) c :=
  (s.grow hp o).keepG upd_same (s.sub.free hp) fun h => s.has p h hp
theorem Ex.tup {p : Addr} (hp : H p = none) (hG : G p = none) (o : HO) : Ex ι G H (upd G p o) (upd H p o) := by
  have q : Ex ι G H G (upd H p o) := Ex.grow hp o
  refine ⟨sameG hG, fun a u h => ?_, q.fr, q.kp⟩
  by_cases e : a = p
  · subst e; exact .inr (.inl hp)
  · rw [upd_ne e] at h; exact .inl h
end
end Lf
end

section
set_option maxHeartbeats 4000000
/-! == over plain data, whatever the texts. -/
namespace Lf
open PySem PySem.Spec PyProof.Rows PySem.SeqAt
theorem all_eqs : ∀ xs ys : List D, ((List.range (min xs.length ys.length)).all (fun j => (xs.getD j .non).eq (ys.getD j .non)) && xs.length == ys.length) = D.eqs xs ys
  | [], [] => rfl
  | [], _ :: _ => by simp [D.eqs]
  | _ :: _, [] => by simp [D.eqs]
  | x :: xs, y :: ys => by
    have ih := all_eqs xs ys
    rw [List.length_cons, List.length_cons, show min (xs.length + 1) (ys.length + 1) = min xs.length ys.length + 1 by omega, List.range_succ_eq_map, List.all_cons, List.all_map]
    simp only [D.eqs]
    rw [← ih, Bool.and_assoc]
    congr 1
    congr 1
    rw [Bool.eq_iff_iff]; simp
theorem all_eqs_same {xs ys : List D} (h : xs.length = ys.length) : ((List.range xs.length).all fun j => (xs.getD j .non).eq (ys.getD j .non)) = D.eqs xs ys := by
  rw [← all_eqs xs ys, ← h, Nat.min_self]; simp
theorem eqs_lens {xs ys : List D} (h : xs.length ≠ ys.length) : D.eqs xs ys = false := by
  rw [← all_eqs xs ys]; simp [h]
mutual
theorem eq_self : ∀ d : D, d.eq d = true
  | .non => rfl
  | .bl _ => by simp [D.eq]
  | .int _ => by simp [D.eq]
  | .str _ => by simp [D.eq]
  | .tup xs => by simp only [D.eq]; exact eqs_self xs
  | .lst xs => by simp only [D.eq]; exact eqs_self xs
theorem eqs_self : ∀ ds : List D, D.eqs ds ds = true
  | [] => rfl
  | d :: ds => by simp only [D.eqs]; rw [eq_self d, eqs_self ds]; rfl
end
mutual
theorem rd_uniq {h : Heap} : ∀ (d e : D) (v : Value) (as bs : List Addr), Reads h v d.py as → Reads h v e.py bs → d = e
  | .tup xs, e, v, as, bs, ra, rb => by
    simp only [D.py] at ra
    cases ra with
    | tuple a1 a2 a3 a4 =>
      cases e <;> simp only [D.py] at rb <;> try (cases rb; done)
      · cases rb with
        | tuple b1 b2 b3 b4 =>
          rw [a1] at b1; cases b1; rw [a3] at b3; cases b3
          rw [rds_uniq _ _ _ _ _ a4 b4]
      · cases rb with
        | list b1 b2 b3 b4 => rw [a1] at b1; cases b1; rw [a2] at b2; exact absurd b2 (by decide)
  | .lst xs, e, v, as, bs, ra, rb => by
    simp only [D.py] at ra
    cases ra with
    | list a1 a2 a3 a4 =>
      cases e <;> simp only [D.py] at rb <;> try (cases rb; done)
      · cases rb with
        | tuple b1 b2 b3 b4 => rw [a1] at b1; cases b1; rw [a2] at b2; exact absurd b2 (by decide)
      · cases rb with
        | list b1 b2 b3 b4 =>
          rw [a1] at b1; cases b1; rw [a3] at b3; cases b3
          rw [rds_uniq _ _ _ _ _ a4 b4]
  | .non, e, v, as, bs, ra, rb => by simp only [D.py] at ra; cases ra; cases e <;> simp only [D.py] at rb <;> cases rb; rfl
  | .bl _, e, v, as, bs, ra, rb => by simp only [D.py] at ra; cases ra; cases e <;> simp only [D.py] at rb <;> cases rb; rfl
  | .int _, e, v, as, bs, ra, rb => by simp only [D.py] at ra; cases ra; cases e <;> simp only [D.py] at rb <;> cases rb; rfl
  | .str _, e, v, as, bs, ra, rb => by simp only [D.py] at ra; cases ra; cases e <;> simp only [D.py] at rb <;> cases rb; rfl
theorem rds_uniq {h : Heap} : ∀ (d e : List D) (v : List Value) (as bs : List Addr), ReadsAll h v (D.pys d) as → ReadsAll h v (D.pys e) bs → d = e
  | [], [], _, _, _, _, _ => rfl
  | [], y :: ys, _, _, _, ra, rb => by simp only [D.pys] at ra rb; cases ra; cases rb
  | x :: xs, [], _, _, _, ra, rb => by simp only [D.pys] at ra rb; cases rb; cases ra
  | x :: xs, y :: ys, _, _, _, ra, rb => by
    simp only [D.pys] at ra rb
    cases ra with
    | cons r1 r2 => cases rb with
      | cons q1 q2 => rw [rd_uniq _ _ _ _ _ r1 q1, rds_uniq _ _ _ _ _ r2 q2]
end
theorem pys_len : ∀ xs : List D, (D.pys xs).length = xs.length
  | [] => rfl
  | x :: xs => by simp only [D.pys, List.length_cons]; rw [pys_len xs]
theorem reads_len {h : Heap} : ∀ {vs : List Value} {ds : List PyData} {as : List Addr}, ReadsAll h vs ds as → vs.length = ds.length
  | _, _, _, .nil => rfl
  | _, _, _, .cons _ r => by simp only [List.length_cons]; rw [reads_len r]
mutual
theorem eqA : ∀ (d e : D) (A : Around) (s : Shared) (a b : Value) (as bs : List Addr), Reads s.heap a d.py as → Reads s.heap b e.py bs → A.units + min d.dep e.dep < cLine → EqAt A s a b (d.eq e) ∧ RcAt A s a b (d.eq e)
  | .tup xs, .tup ys, A, s, a, b, as, bs, ra, rb, hu => by
    have ra' := ra
    have rb' := rb
    simp only [D.py] at ra rb
    cases ra with
    | tuple a1 a2 a3 a4 => cases rb with
      | tuple b1 b2 b3 b4 =>
        rename_i l o vs n l' o' vs' n'
        have hu2 : A.in1.units + min (D.deps xs) (D.deps ys) < cLine := by simp only [D.dep] at hu; rw [Around.in1_units]; omega
        have n1 : vs.size = xs.length := by have := reads_len a4; rw [pys_len] at this; simpa using this
        have n2 : vs'.size = ys.length := by have := reads_len b4; rw [pys_len] at this; simpa using this
        have rc : RcAt A s (.ref l) (.ref l') (D.eq (.tup xs) (.tup ys)) := by
          have q := RcAt.tuples (A := A) (e := fun j => (xs.getD j .non).eq (ys.getD j .non)) ⟨_, a1, a2, _, a3⟩ ⟨_, b1, b2, _, b3⟩ (by omega) fun j j1 j2 => by
            have q := eqAs xs ys A.in1 s _ _ _ _ a4 b4 hu2 j (by simpa using j1) (by simpa using j2)
            rw [Array.getElem_toList, Array.getElem_toList] at q; exact q
          rw [n1, n2, all_eqs] at q
          simpa only [D.eq] using q
        refine ⟨?_, rc⟩
        by_cases he : l = l'
        · subst he
          have q := rd_uniq _ _ _ _ _ ra' rb'
          rw [q, eq_self]
          exact EqAt.same _
        · exact EqAt.of_refs he rc
  | .lst xs, .lst ys, A, s, a, b, as, bs, ra, rb, hu => by
    have ra' := ra
    have rb' := rb
    simp only [D.py] at ra rb
    cases ra with
    | list a1 a2 a3 a4 => cases rb with
      | list b1 b2 b3 b4 =>
        rename_i l o vs n _ l' o' vs' n' _
        have hu2 : A.in1.units + min (D.deps xs) (D.deps ys) < cLine := by simp only [D.dep] at hu; rw [Around.in1_units]; omega
        have n1 : vs.size = xs.length := by have := reads_len a4; rw [pys_len] at this; simpa using this
        have n2 : vs'.size = ys.length := by have := reads_len b4; rw [pys_len] at this; simpa using this
        have rc : RcAt A s (.ref l) (.ref l') (D.eq (.lst xs) (.lst ys)) := by
          by_cases hs : vs.size = vs'.size
          · have q := RcAt.lists (A := A) (e := fun j => (xs.getD j .non).eq (ys.getD j .non)) ⟨_, a1, a2, _, a3⟩ ⟨_, b1, b2, _, b3⟩ hs (by omega) fun j j1 j2 => by
              have q := eqAs xs ys A.in1 s _ _ _ _ a4 b4 hu2 j (by simpa using j1) (by simpa using j2)
              rw [Array.getElem_toList, Array.getElem_toList] at q; exact q
            rw [n1, all_eqs_same (xs := xs) (ys := ys) (by omega)] at q
            simpa only [D.eq] using q
          · have q := RcAt.lists_lengths (A := A) (s := s) ⟨_, a1, a2, _, a3⟩ ⟨_, b1, b2, _, b3⟩ (by simpa using hs) (by omega)
            simp only [D.eq]
            rw [eqs_lens (by omega)]
            exact q
        refine ⟨?_, rc⟩
        by_cases he : l = l'
        · subst he
          have q := rd_uniq _ _ _ _ _ ra' rb'
          rw [q, eq_self]
          exact EqAt.same _
        · exact EqAt.of_refs he rc
  | .tup xs, .lst ys, A, s, a, b, as, bs, ra, rb, hu => by
    simp only [D.py] at ra rb
    cases ra with
    | tuple a1 a2 a3 a4 => cases rb with
      | list b1 b2 b3 b4 => exact ⟨EqAt.tuple_list ⟨_, a1, a2, _, a3⟩ ⟨_, b1, b2, _, b3⟩ (by omega), RcAt.tuple_list ⟨_, a1, a2, _, a3⟩ ⟨_, b1, b2, _, b3⟩ (by omega)⟩
  | .lst xs, .tup ys, A, s, a, b, as, bs, ra, rb, hu => by
    simp only [D.py] at ra rb
    cases ra with
    | list a1 a2 a3 a4 => cases rb with
      | tuple b1 b2 b3 b4 => exact ⟨EqAt.list_tuple ⟨_, a1, a2, _, a3⟩ ⟨_, b1, b2, _, b3⟩ (by omega), RcAt.list_tuple ⟨_, a1, a2, _, a3⟩ ⟨_, b1, b2, _, b3⟩ (by omega)⟩
  | .non, e, A, s, a, b, as, bs, ra, rb, hu => by
    simp only [D.py] at ra
    cases ra
    cases e <;> simp only [D.py] at rb <;> cases rb
    · exact ⟨EqAt.same _, RcAt.none_none⟩
    · exact ⟨EqAt.none_bool _, RcAt.none_bool _⟩
    · exact ⟨EqAt.none_int _ _, RcAt.none_int _ _⟩
    · exact ⟨EqAt.none_str _ _, RcAt.none_str _ _⟩
    · rename_i k1 k2 k3 k4; exact ⟨EqAt.none_tuple ⟨_, k1, k2, _, k3⟩ (by omega), RcAt.none_tuple ⟨_, k1, k2, _, k3⟩ (by omega)⟩
    · rename_i k1 k2 k3 k4; exact ⟨EqAt.none_list ⟨_, k1, k2, _, k3⟩ (by omega), RcAt.none_list ⟨_, k1, k2, _, k3⟩ (by omega)⟩
  | .bl _, e, A, s, a, b, as, bs, ra, rb, hu => by
    simp only [D.py] at ra
    cases ra
    cases e <;> simp only [D.py] at rb <;> cases rb
    · exact ⟨EqAt.bool_none _, RcAt.bool_none _⟩
    · exact ⟨EqAt.bool_bool _ _, RcAt.bool_bool _ _⟩
    · exact ⟨EqAt.bool_int _ _ _, RcAt.bool_int _ _ _⟩
    · exact ⟨EqAt.bool_str _ _ _, RcAt.bool_str _ _ _⟩
    · rename_i k1 k2 k3 k4; exact ⟨EqAt.bool_tuple _ ⟨_, k1, k2, _, k3⟩ (by omega), RcAt.bool_tuple _ ⟨_, k1, k2, _, k3⟩ (by omega)⟩
    · rename_i k1 k2 k3 k4; exact ⟨EqAt.bool_list _ ⟨_, k1, k2, _, k3⟩ (by omega), RcAt.bool_list _ ⟨_, k1, k2, _, k3⟩ (by omega)⟩
  | .int _, e, A, s, a, b, as, bs, ra, rb, hu => by
    simp only [D.py] at ra
    cases ra
    cases e <;> simp only [D.py] at rb <;> cases rb
    · exact ⟨EqAt.int_none _ _, RcAt.int_none _ _⟩
    · exact ⟨EqAt.int_bool _ _ _, RcAt.int_bool _ _ _⟩
    · exact ⟨EqAt.int_int _ _ _ _, RcAt.int_int _ _ _ _⟩
    · exact ⟨EqAt.int_str _ _ _ _, RcAt.int_str _ _ _ _⟩
    · rename_i k1 k2 k3 k4; exact ⟨EqAt.int_tuple _ _ ⟨_, k1, k2, _, k3⟩ (by omega), RcAt.int_tuple _ _ ⟨_, k1, k2, _, k3⟩ (by omega)⟩
    · rename_i k1 k2 k3 k4; exact ⟨EqAt.int_list _ _ ⟨_, k1, k2, _, k3⟩ (by omega), RcAt.int_list _ _ ⟨_, k1, k2, _, k3⟩ (by omega)⟩
  | .str _, e, A, s, a, b, as, bs, ra, rb, hu => by
    simp only [D.py] at ra
    cases ra
    cases e <;> simp only [D.py] at rb <;> cases rb
    · exact ⟨EqAt.str_none _ _, RcAt.str_none _ _⟩
    · exact ⟨EqAt.str_bool _ _ _, RcAt.str_bool _ _ _⟩
    · exact ⟨EqAt.str_int _ _ _ _, RcAt.str_int _ _ _ _⟩
    · exact ⟨EqAt.str_str _ _ _ _, RcAt.str_str _ _ _ _⟩
    · rename_i k1 k2 k3 k4; exact ⟨EqAt.str_tuple _ _ ⟨_, k1, k2, _, k3⟩ (by omega), RcAt.str_tuple _ _ ⟨_, k1, k2, _, k3⟩ (by omega)⟩
    · rename_i k1 k2 k3 k4; exact ⟨EqAt.str_list _ _ ⟨_, k1, k2, _, k3⟩ (by omega), RcAt.str_list _ _ ⟨_, k1, k2, _, k3⟩ (by omega)⟩
  | .tup xs, .non, A, s, a, b, as, bs, ra, rb, hu => by
    simp only [D.py] at ra rb; cases rb; cases ra; rename_i k1 k2 k3 k4; exact ⟨EqAt.tuple_none ⟨_, k1, k2, _, k3⟩ (by omega), RcAt.tuple_none ⟨_, k1, k2, _, k3⟩ (by omega)⟩
  | .tup xs, .bl _, A, s, a, b, as, bs, ra, rb, hu => by
    simp only [D.py] at ra rb; cases rb; cases ra; rename_i k1 k2 k3 k4; exact ⟨EqAt.tuple_bool _ ⟨_, k1, k2, _, k3⟩ (by omega), RcAt.tuple_bool _ ⟨_, k1, k2, _, k3⟩ (by omega)⟩
  | .tup xs, .int _, A, s, a, b, as, bs, ra, rb, hu => by
    simp only [D.py] at ra rb; cases rb; cases ra; rename_i k1 k2 k3 k4; exact ⟨EqAt.tuple_int _ _ ⟨_, k1, k2, _, k3⟩ (by omega), RcAt.tuple_int _ _ ⟨_, k1, k2, _, k3⟩ (by omega)⟩
  | .tup xs, .str _, A, s, a, b, as, bs, ra, rb, hu => by
    simp only [D.py] at ra rb; cases rb; cases ra; rename_i k1 k2 k3 k4; exact ⟨EqAt.tuple_str _ _ ⟨_, k1, k2, _, k3⟩ (by omega), RcAt.tuple_str _ _ ⟨_, k1, k2, _, k3⟩ (by omega)⟩
  | .lst xs, .non, A, s, a, b, as, bs, ra, rb, hu => by
    simp only [D.py] at ra rb; cases rb; cases ra; rename_i k1 k2 k3 k4; exact ⟨EqAt.list_none ⟨_, k1, k2, _, k3⟩ (by omega), RcAt.list_none ⟨_, k1, k2, _, k3⟩ (by omega)⟩
  | .lst xs, .bl _, A, s, a, b, as, bs, ra, rb, hu => by
    simp only [D.py] at ra rb; cases rb; cases ra; rename_i k1 k2 k3 k4; exact ⟨EqAt.list_bool _ ⟨_, k1, k2, _, k3⟩ (by omega), RcAt.list_bool _ ⟨_, k1, k2, _, k3⟩ (by omega)⟩
  | .lst xs, .int _, A, s, a, b, as, bs, ra, rb, hu => by
    simp only [D.py] at ra rb; cases rb; cases ra; rename_i k1 k2 k3 k4; exact ⟨EqAt.list_int _ _ ⟨_, k1, k2, _, k3⟩ (by omega), RcAt.list_int _ _ ⟨_, k1, k2, _, k3⟩ (by omega)⟩
  | .lst xs, .str _, A, s, a, b, as, bs, ra, rb, hu => by
    simp only [D.py] at ra rb; cases rb; cases ra; rename_i k1 k2 k3 k4; exact ⟨EqAt.list_str _ _ ⟨_, k1, k2, _, k3⟩ (by omega), RcAt.list_str _ _ ⟨_, k1, k2, _, k3⟩ (by omega)⟩
theorem eqAs : ∀ (xs ys : List D) (A : Around) (s : Shared) (vs ws : List Value) (as bs : List Addr), ReadsAll s.heap vs (D.pys xs) as → ReadsAll s.heap ws (D.pys ys) bs →
    A.units + min (D.deps xs) (D.deps ys) < cLine → ∀ (j : Nat) (h1 : j < vs.length) (h2 : j < ws.length), EqAt A s vs[j] ws[j] ((xs.getD j .non).eq (ys.getD j .non))
  | [], _, _, _, _, _, _, _, ra, _, _, j, h1, _ => by simp only [D.pys] at ra; cases ra; simp at h1
  | _ :: _, [], _, _, _, _, _, _, _, rb, _, j, _, h2 => by simp only [D.pys] at rb; cases rb; simp at h2
  | x :: xs, y :: ys, A, s, vs, ws, as, bs, ra, rb, hu, j, h1, h2 => by
    simp only [D.pys] at ra rb
    simp only [D.deps] at hu
    cases ra with
    | cons a1 a2 => cases rb with
      | cons b1 b2 => cases j with
        | zero => exact (eqA x y A s _ _ _ _ a1 b1 (by omega)).1
        | succ j => exact eqAs xs ys A s _ _ _ _ a2 b2 (by omega) j (by simpa using h1) (by simpa using h2)
end
theorem neA : ∀ (d e : D) (A : Around) (s : Shared) (a b : Value) (as bs : List Addr), Reads s.heap a d.py as → Reads s.heap b e.py bs → A.units + min d.dep e.dep < cLine → RcNeAt A s a b (!d.eq e)
  | .tup xs, .tup ys, A, s, a, b, as, bs, ra, rb, hu => by
    simp only [D.py] at ra rb
    cases ra with
    | tuple a1 a2 a3 a4 => cases rb with
      | tuple b1 b2 b3 b4 =>
        rename_i l o vs n l' o' vs' n'
        have hu2 : A.in1.units + min (D.deps xs) (D.deps ys) < cLine := by simp only [D.dep] at hu; rw [Around.in1_units]; omega
        have n1 : vs.size = xs.length := by have := reads_len a4; rw [pys_len] at this; simpa using this
        have n2 : vs'.size = ys.length := by have := reads_len b4; rw [pys_len] at this; simpa using this
        have q := RcNeAt.tuples (A := A) (e := fun j => (xs.getD j .non).eq (ys.getD j .non)) ⟨_, a1, a2, _, a3⟩ ⟨_, b1, b2, _, b3⟩ (by omega) fun j j1 j2 => by
          have q := eqAs xs ys A.in1 s _ _ _ _ a4 b4 hu2 j (by simpa using j1) (by simpa using j2)
          rw [Array.getElem_toList, Array.getElem_toList] at q; exact q
        rw [n1, n2, all_eqs] at q
        simpa only [D.eq] using q
  | .lst xs, .lst ys, A, s, a, b, as, bs, ra, rb, hu => by
    simp only [D.py] at ra rb
    cases ra with
    | list a1 a2 a3 a4 => cases rb with
      | list b1 b2 b3 b4 =>
        rename_i l o vs n _ l' o' vs' n' _
        have hu2 : A.in1.units + min (D.deps xs) (D.deps ys) < cLine := by simp only [D.dep] at hu; rw [Around.in1_units]; omega
        have n1 : vs.size = xs.length := by have := reads_len a4; rw [pys_len] at this; simpa using this
        have n2 : vs'.size = ys.length := by have := reads_len b4; rw [pys_len] at this; simpa using this
        by_cases hs : vs.size = vs'.size
        · have q := RcNeAt.lists (A := A) (e := fun j => (xs.getD j .non).eq (ys.getD j .non)) ⟨_, a1, a2, _, a3⟩ ⟨_, b1, b2, _, b3⟩ hs (by omega) fun j j1 j2 => by
            have q := eqAs xs ys A.in1 s _ _ _ _ a4 b4 hu2 j (by simpa using j1) (by simpa using j2)
            rw [Array.getElem_toList, Array.getElem_toList] at q; exact q
          rw [n1, all_eqs_same (xs := xs) (ys := ys) (by omega)] at q
          simpa only [D.eq] using q
        · have q := RcNeAt.lists_lengths (A := A) (s := s) ⟨_, a1, a2, _, a3⟩ ⟨_, b1, b2, _, b3⟩ (by simpa using hs) (by omega)
          simp only [D.eq]
          rw [eqs_lens (by omega)]
          exact q
  | .tup xs, .lst ys, A, s, a, b, as, bs, ra, rb, hu => by
    simp only [D.py] at ra rb
    cases ra with
    | tuple a1 a2 a3 a4 => cases rb with
      | list b1 b2 b3 b4 => exact RcNeAt.tuple_list ⟨_, a1, a2, _, a3⟩ ⟨_, b1, b2, _, b3⟩ (by omega)
  | .lst xs, .tup ys, A, s, a, b, as, bs, ra, rb, hu => by
    simp only [D.py] at ra rb
    cases ra with
    | list a1 a2 a3 a4 => cases rb with
      | tuple b1 b2 b3 b4 => exact RcNeAt.list_tuple ⟨_, a1, a2, _, a3⟩ ⟨_, b1, b2, _, b3⟩ (by omega)
  | .non, .non, A, s, a, b, as, bs, ra, rb, hu => by simp only [D.py] at ra rb; cases ra; cases rb; exact RcNeAt.none_none
  | .non, .bl _, A, s, a, b, as, bs, ra, rb, hu => by simp only [D.py] at ra rb; cases ra; cases rb; exact RcNeAt.none_bool _
  | .non, .int _, A, s, a, b, as, bs, ra, rb, hu => by simp only [D.py] at ra rb; cases ra; cases rb; exact RcNeAt.none_int _ _
  | .non, .str _, A, s, a, b, as, bs, ra, rb, hu => by simp only [D.py] at ra rb; cases ra; cases rb; exact RcNeAt.none_str _ _
  | .non, .tup _, A, s, a, b, as, bs, ra, rb, hu => by simp only [D.py] at ra rb; cases ra; cases rb with | tuple k1 k2 k3 k4 => exact RcNeAt.none_tuple ⟨_, k1, k2, _, k3⟩ (by omega)
  | .tup _, .non, A, s, a, b, as, bs, ra, rb, hu => by simp only [D.py] at ra rb; cases rb; cases ra with | tuple k1 k2 k3 k4 => exact RcNeAt.tuple_none ⟨_, k1, k2, _, k3⟩ (by omega)
  | .non, .lst _, A, s, a, b, as, bs, ra, rb, hu => by simp only [D.py] at ra rb; cases ra; cases rb with | list k1 k2 k3 k4 => exact RcNeAt.none_list ⟨_, k1, k2, _, k3⟩ (by omega)
  | .lst _, .non, A, s, a, b, as, bs, ra, rb, hu => by simp only [D.py] at ra rb; cases rb; cases ra with | list k1 k2 k3 k4 => exact RcNeAt.list_none ⟨_, k1, k2, _, k3⟩ (by omega)
  | .bl _, .non, A, s, a, b, as, bs, ra, rb, hu => by simp only [D.py] at ra rb; cases ra; cases rb; exact RcNeAt.bool_none _
  | .bl _, .bl _, A, s, a, b, as, bs, ra, rb, hu => by simp only [D.py] at ra rb; cases ra; cases rb; exact RcNeAt.bool_bool _ _
  | .bl _, .int _, A, s, a, b, as, bs, ra, rb, hu => by simp only [D.py] at ra rb; cases ra; cases rb; exact RcNeAt.bool_int _ _ _
  | .bl _, .str _, A, s, a, b, as, bs, ra, rb, hu => by simp only [D.py] at ra rb; cases ra; cases rb; exact RcNeAt.bool_str _ _ _
  | .bl _, .tup _, A, s, a, b, as, bs, ra, rb, hu => by simp only [D.py] at ra rb; cases ra; cases rb with | tuple k1 k2 k3 k4 => exact RcNeAt.bool_tuple _ ⟨_, k1, k2, _, k3⟩ (by omega)
  | .tup _, .bl _, A, s, a, b, as, bs, ra, rb, hu => by simp only [D.py] at ra rb; cases rb; cases ra with | tuple k1 k2 k3 k4 => exact RcNeAt.tuple_bool _ ⟨_, k1, k2, _, k3⟩ (by omega)
  | .bl _, .lst _, A, s, a, b, as, bs, ra, rb, hu => by simp only [D.py] at ra rb; cases ra; cases rb with | list k1 k2 k3 k4 => exact RcNeAt.bool_list _ ⟨_, k1, k2, _, k3⟩ (by omega)
  | .lst _, .bl _, A, s, a, b, as, bs, ra, rb, hu => by simp only [D.py] at ra rb; cases rb; cases ra with | list k1 k2 k3 k4 => exact RcNeAt.list_bool _ ⟨_, k1, k2, _, k3⟩ (by omega)
  | .int _, .non, A, s, a, b, as, bs, ra, rb, hu => by simp only [D.py] at ra rb; cases ra; cases rb; exact RcNeAt.int_none _ _
  | .int _, .bl _, A, s, a, b, as, bs, ra, rb, hu => by simp only [D.py] at ra rb; cases ra; cases rb; exact RcNeAt.int_bool _ _ _
  | .int _, .int _, A, s, a, b, as, bs, ra, rb, hu => by simp only [D.py] at ra rb; cases ra; cases rb; exact RcNeAt.int_int _ _ _ _
  | .int _, .str _, A, s, a, b, as, bs, ra, rb, hu => by simp only [D.py] at ra rb; cases ra; cases rb; exact RcNeAt.int_str _ _ _ _
  | .int _, .tup _, A, s, a, b, as, bs, ra, rb, hu => by simp only [D.py] at ra rb; cases ra; cases rb with | tuple k1 k2 k3 k4 => exact RcNeAt.int_tuple _ _ ⟨_, k1, k2, _, k3⟩ (by omega)
  | .tup _, .int _, A, s, a, b, as, bs, ra, rb, hu => by simp only [D.py] at ra rb; cases rb; cases ra with | tuple k1 k2 k3 k4 => exact RcNeAt.tuple_int _ _ ⟨_, k1, k2, _, k3⟩ (by omega)
  | .int _, .lst _, A, s, a, b, as, bs, ra, rb, hu => by simp only [D.py] at ra rb; cases ra; cases rb with | list k1 k2 k3 k4 => exact RcNeAt.int_list _ _ ⟨_, k1, k2, _, k3⟩ (by omega)
  | .lst _, .int _, A, s, a, b, as, bs, ra, rb, hu => by simp only [D.py] at ra rb; cases rb; cases ra with | list k1 k2 k3 k4 => exact RcNeAt.list_int _ _ ⟨_, k1, k2, _, k3⟩ (by omega)
  | .str _, .non, A, s, a, b, as, bs, ra, rb, hu => by simp only [D.py] at ra rb; cases ra; cases rb; exact RcNeAt.str_none _ _
  | .str _, .bl _, A, s, a, b, as, bs, ra, rb, hu => by simp only [D.py] at ra rb; cases ra; cases rb; exact RcNeAt.str_bool _ _ _
  | .str _, .int _, A, s, a, b, as, bs, ra, rb, hu => by simp only [D.py] at ra rb; cases ra; cases rb; exact RcNeAt.str_int _ _ _ _
  | .str _, .str _, A, s, a, b, as, bs, ra, rb, hu => by simp only [D.py] at ra rb; cases ra; cases rb; exact RcNeAt.str_str _ _ _ _
  | .str _, .tup _, A, s, a, b, as, bs, ra, rb, hu => by simp only [D.py] at ra rb; cases ra; cases rb with | tuple k1 k2 k3 k4 => exact RcNeAt.str_tuple _ _ ⟨_, k1, k2, _, k3⟩ (by omega)
  | .tup _, .str _, A, s, a, b, as, bs, ra, rb, hu => by simp only [D.py] at ra rb; cases rb; cases ra with | tuple k1 k2 k3 k4 => exact RcNeAt.tuple_str _ _ ⟨_, k1, k2, _, k3⟩ (by omega)
  | .str _, .lst _, A, s, a, b, as, bs, ra, rb, hu => by simp only [D.py] at ra rb; cases ra; cases rb with | list k1 k2 k3 k4 => exact RcNeAt.str_list _ _ ⟨_, k1, k2, _, k3⟩ (by omega)
  | .lst _, .str _, A, s, a, b, as, bs, ra, rb, hu => by simp only [D.py] at ra rb; cases rb; cases ra with | list k1 k2 k3 k4 => exact RcNeAt.list_str _ _ ⟨_, k1, k2, _, k3⟩ (by omega)
end Lf
end

section
set_option maxHeartbeats 4000000
/-! New tuples, each with its very object (which has no dict of its own). -/
namespace Lf
open PySem PySem.Spec PySem.Calls PyProof.Rows L2 HT
/-- a tuple's object -/
abbrev tupObj (its : List Value) : Obj := { cls := .type "tuple", data := .seq its.toArray }
theorem objT {P : Program} {w : World} {H : Hp} {h : Heap} {p : Addr} {its : List Value} {xs : List V} (at_ : h.get? p = some (tupObj its)) (hz : xs.length ≤ sizeLine) (r : Vals xs its) : ObjOk P w H h p (.frz (tupObj its) (.tup xs)) :=
  ⟨at_, hz, its, r, _, at_, rfl, _, rfl⟩
section
variable {X : Cx} {pins : List (Addr × Obj)} {σ : L2.St} {H : Hp} {s : Shared}
theorem laidT {h' : Heap} {p : Addr} {t' : Nat} {its : List Value} {xs : List V} (I : Inv X pins σ H s) (k : ∀ b u, s.heap.get? b = some u → h'.get? b = some u) (hp : s.heap.objs.size ≤ p) (at_ : h'.get? p = some (tupObj its)) (hz : xs.length ≤ sizeLine) (r : Vals xs its) :
    Inv X pins σ (upd H p (.frz (tupObj its) (.tup xs))) { s with heap := h', toks := t' } := I.laid k hp (objT at_ hz r)
/-- what is told of a new tuple -/
def NewT (H : Hp) (xs : List V) (Q : VK) : Prop := ∀ (p : Addr) (o : Obj), o.dict = none → H p = none → Q (.ref p) (upd H p (.frz o (.tup xs)))
theorem pushT {its : List Value} {xs : List V} {Q : VK} (I : Inv X pins σ H s) (hz : xs.length ≤ sizeLine) (r : Vals xs its) (q : NewT H xs Q) {t' : Nat} : EP X pins σ Q (.ref s.heap.objs.size) { s with heap := s.heap.push (tupObj its), toks := t' } :=
  ⟨.ref s.heap.objs.size, _, laidT I (fun b u e => Heap.get?_push_of_some _ e) (Nat.le_refl _) (Heap.get?_push_size _ rfl) hz r, rfl, q _ _ rfl (I.hok.fresh (Nat.le_refl _))⟩
end
def tTupF (t : TA) : TE := fun σ H Q => t σ H fun xs H1 => xs.length ≤ sizeLine ∧ NewT H1 xs Q
section
variable {X : Cx} {es : List Expr} {pos : Pos} {t : TA} {x1 : Nat}
theorem pe_tupF (h : PA X es t) : PE X (.Tuple es x1 pos) (tTupF t) :=
  ⟨fun pins s σ H Q I hq => wpAny_Tuple_spliced (thn (h.run pos pins s σ H _ I hq) fun us s1 ⟨xs, H1, I1, r, z, q⟩ => ⟨by rw [← r.length]; exact z, pushT I1 z r q⟩)⟩
/-- tuple(x) of a list, of a tuple -/
theorem call_tupleF : CallR X (.type "tuple") (fun xs H Q => ∃ p ys, xs = [.ref p] ∧ ((SqL X.K H p ys ∧ NewT H ys Q) ∨ (SqT X.K H p ys ∧ Q (.ref p) H))) := by
  rintro pins s σ H _ us Q I r ⟨p, ys, rfl, h⟩
  obtain ⟨u, rfl, rx⟩ := vals1 r
  cases rx
  rcases h with ⟨hq, q⟩ | ⟨hq, q⟩
  · obtain ⟨its, rv, pl, hz⟩ := I.list hq
    have len := rv.length
    exact call_tuple_list pl.isList (fun h' kp => pushT (I.kept (t' := s.toks) kp) hz rv q) (by simp only [List.size_toArray]; omega)
  · obtain ⟨its, rv, pl, hz⟩ := I.tuple hq
    exact call_tuple_same pl ⟨.ref p, H, I, rfl, q⟩
/-- t + u -/
def rCatF (K : PySem.W.Frag) : R2 := fun x y H Q => ∃ a b xs ys, x = .ref a ∧ y = .ref b ∧ SqT K H a xs ∧ SqT K H b ys ∧ xs.length + ys.length ≤ sizeLine ∧
  (xs = [] → Q (.ref b) H) ∧ (xs ≠ [] → ys = [] → Q (.ref a) H) ∧ (xs ≠ [] → ys ≠ [] → NewT H (xs ++ ys) Q)
theorem op_catF : OpR X (binaryOp .Add) (rCatF X.K) := by
  rintro pins s σ H _ _ v u Q I rx ry ⟨a, b, xs, ys, rfl, rfl, ha, hb, hz, q0, q1, q2⟩
  cases rx
  cases ry
  obtain ⟨its, r1, p1, _⟩ := I.tuple ha
  obtain ⟨its2, r2, p2, _⟩ := I.tuple hb
  by_cases hx : xs = []
  · subst hx
    cases r1
    exact cat_tup0 p1 p2 ⟨.ref b, H, I, rfl, q0 rfl⟩
  · exact HT.cat_tup p1 p2 (fun z => hx (r1.nil_iff.mp z)) (fun z => ⟨.ref a, H, I, rfl, q1 hx (r2.nil_iff.mp z)⟩) (fun z => pushT I (by rw [List.length_append]; exact hz) (r1.append r2) (q2 hx fun e => z (r2.nil_iff.mpr e))) (by rw [← r1.length, ← r2.length]; exact hz)
/-- t[lo:hi] -/
def rSlF (K : PySem.W.Frag) : V → Option Int → Option Int → Hp → VK → Prop := fun x lo hi H Q => ∃ a xs, x = .ref a ∧ SqT K H a xs ∧
  (HT.sIx xs.length 0 lo = 0 ∧ HT.sIx xs.length xs.length hi = xs.length → Q (.ref a) H) ∧ (¬ (HT.sIx xs.length 0 lo = 0 ∧ HT.sIx xs.length xs.length hi = xs.length) → NewT H (cutV xs lo hi) Q)
theorem sl_tupF : SlR X (rSlF X.K) := by
  rintro pins s σ H _ v vl vu lo hi sl Q I rx hs pl pu ⟨a, xs, rfl, hx, q1, q2⟩
  cases rx
  obtain ⟨its, r, ht, hz⟩ := I.tuple hx
  have len : its.toArray.size = xs.length := by rw [List.size_toArray]; exact r.length.symm
  refine ⟨"tuple", _, PyProof.Rows.slot_tuple_getitem.lookup, ht.typeIs, ?_⟩
  by_cases hw : HT.sIx xs.length 0 lo = 0 ∧ HT.sIx xs.length xs.length hi = xs.length
  · exact getItem_tuple_whole ht hs pl pu (by rw [len]; exact hw) ⟨.ref a, H, I, rfl, q1 hw⟩
  · refine HT.getItem_tuple_cut ht hs pl pu (by rw [len]; exact hw) ?_ (by rw [len]; exact hz)
    rw [len]
    exact pushT I (Nat.le_trans (cutV_length xs lo hi) hz) ((r.drop (HT.sIx xs.length 0 lo)).take (HT.sIx xs.length xs.length hi - HT.sIx xs.length 0 lo)) (q2 hw)
end
/-! ### zip in a loop -/
/-- the turns of a zip: A tells how a part is read -/
def ItzF (A : Hp → Addr → List V → Prop) (a b : Addr) : It :=
  ⟨fun i H => ∃ (xs ys : List V) (x y : V), A H a xs ∧ A H b ys ∧ xs[i]? = some x ∧ ys[i]? = some y,
    fun i H v H' => ∃ T o x y, v = .ref T ∧ o.dict = none ∧ H T = none ∧ H' = upd H T (.frz o (.tup [x, y])) ∧ (∀ xs, A H a xs → xs[i]? = some x) ∧ ∀ ys, A H b ys → ys[i]? = some y,
    fun i H => ∃ xs ys : List V, A H a xs ∧ A H b ys ∧ (xs.length ≤ i ∨ ys.length ≤ i)⟩
/-- how the parts of a zip stand: iterators of lists or of tuples; L: what a part is -/
structure Part (K : PySem.W.Frag) where
  A : Hp → Addr → List V → Prop
  L : Heap → Addr → Array Value → Prop
  R : Heap → Addr → Addr → Nat → Prop
  rd : ∀ {X : Cx} {pins : List (Addr × Obj)} {σ : L2.St} {H : Hp} {s : Shared} {a : Addr} {xs : List V}, X.K = K → Inv X pins σ H s → A H a xs → ∃ its : List Value, Vals xs its ∧ L s.heap a its.toArray
  inj : ∀ {X : Cx} {pins : List (Addr × Obj)} {σ : L2.St} {H : Hp} {s : Shared} {a : Addr} {xs ys : List V}, X.K = K → Inv X pins σ H s → A H a xs → A H a ys → xs = ys
  at_ : ∀ {h h' : Heap} {i a : Addr} {k : Nat}, R h i a k → (∀ o, h.get? i = some o → h'.get? i = some o) → R h' i a k
  ob : ∀ {h : Heap} {i a : Addr} {k : Nat}, R h i a k → ∃ o, h.get? i = some o ∧ ∀ v, o.data ≠ .cell v
  item : ∀ {prog : Program} {w : World} {A' : Around} {E : Value → Shared → Prop} {s : Shared} {z TI TO i1 i2 l1 l2 : Addr} {k1 k2 : Nat} {xs ys : Array Value} {x y a b : Value} {Q : Option Value → Shared → Prop}, ZipApart z TI TO i1 i2 l1 l2 →
    IsZip s.heap z TI TO .none → IsPair s.heap TI (.ref i1) (.ref i2) → IsPair s.heap TO a b → R s.heap i1 l1 k1 → R s.heap i2 l2 k2 → L s.heap l1 xs → L s.heap l2 ys → xs[k1]? = some x → ys[k2]? = some y →
    (∀ h', IsZip h' z TI TO (rawInt s.heap.objs.size) → IsPair h' TO x y → R h' i1 l1 (k1 + 1) → R h' i2 l2 (k2 + 1) → IsPair h' s.heap.objs.size x y → h'.objs.size = s.heap.objs.size + 1 →
      (∀ c o, c ≠ z → c ≠ TO → c ≠ i1 → c ≠ i2 → s.heap.get? c = some o → h'.get? c = some o) → Q (some (.ref s.heap.objs.size)) { s with heap := h' }) → wpAny (model prog w) A' (pyNext (.ref z)) Q E s
  fin : ∀ {prog : Program} {w : World} {A' : Around} {E : Value → Shared → Prop} {s : Shared} {z TI TO i1 i2 l1 l2 : Addr} {k1 k2 : Nat} {xs ys : Array Value} {a b : Value} {Q : Option Value → Shared → Prop}, A'.handled = none → ZipApart z TI TO i1 i2 l1 l2 →
    IsZip s.heap z TI TO .none → IsPair s.heap TI (.ref i1) (.ref i2) → IsPair s.heap TO a b → R s.heap i1 l1 k1 → R s.heap i2 l2 k2 → L s.heap l1 xs → L s.heap l2 ys → xs[k1]? = none ∨ ys[k2]? = none →
    (∀ h', (∀ c o, c ≠ z → c ≠ TO → c ≠ i1 → c ≠ i2 → s.heap.get? c = some o → h'.get? c = some o) → Q none { s with heap := h' }) → wpAny (model prog w) A' (pyNext (.ref z)) Q E s
def partL (K : PySem.W.Frag) : Part K where
  A := SqL K
  L := fun h a xs => h.IsList a xs
  R := fun h i a k => h.IsListIter i a k
  rd := fun e I q => by subst e; obtain ⟨its, r, p, _⟩ := I.list q; exact ⟨its, r, p.isList⟩
  inj := fun e I q q' => by subst e; exact I.list_inj q q'
  at_ := fun r k => r.at k
  ob := fun ⟨o, e, _, d⟩ => ⟨o, e, fun v q => by rw [d] at q; cases q⟩
  item := wpAny_pyNext_zip_item
  fin := wpAny_pyNext_zip_end
def partT (K : PySem.W.Frag) : Part K where
  A := SqT K
  L := fun h a xs => h.IsTuple a xs
  R := fun h i a k => h.IsTupleIter i a k
  rd := fun e I q => by subst e; obtain ⟨its, r, p, _⟩ := I.tuple q; exact ⟨its, r, p⟩
  inj := fun e I q q' => by subst e; exact I.tuple_inj q q'
  at_ := fun r k => r.at k
  ob := fun ⟨o, e, _, d⟩ => ⟨o, e, fun v q => by rw [d] at q; cases q⟩
  item := RZ.pyNext_zipT_item
  fin := RZ.pyNext_zipT_end
theorem five {z TI TO i1 i2 c : Addr} (h : c ∈ [z, TI, TO, i1, i2]) : c = z ∨ c = TI ∨ c = TO ∨ c = i1 ∨ c = i2 := by simpa using h
theorem off5 {z TI TO i1 i2 c : Addr} (h : c ∉ [z, TI, TO, i1, i2]) : c ≠ z ∧ c ≠ TO ∧ c ≠ i1 ∧ c ≠ i2 := by
  simp only [List.mem_cons, List.not_mem_nil, or_false, not_or] at h
  exact ⟨h.1, h.2.2.1, h.2.2.2.1, h.2.2.2.2⟩
theorem turn_zipF {P : Program} {w : World} {K : PySem.W.Frag} {elts : List Expr} {kk : Nat} {tpos : Pos} {a b z TI TO i1 i2 : Addr} (p : Part K) (D : ZipApart z TI TO i1 i2 a b) :
    Turn P w K (.Tuple elts kk tpos) (ItzF p.A a b) [z, TI, TO, i1, i2] z (fun i h => IsZip h z TI TO .none ∧ IsPair h TI (.ref i1) (.ref i2) ∧ (∃ x y, IsPair h TO x y) ∧ p.R h i1 a i ∧ p.R h i2 b i) where
  mem := List.mem_cons_self
  obj := fun i h ⟨hz, hTI, ⟨x, y, hTO⟩, r1, r2⟩ c hc => by
    rcases five hc with rfl | rfl | rfl | rfl | rfl
    · exact ⟨_, hz, nofun⟩
    · exact ⟨_, hTI, nofun⟩
    · exact ⟨_, hTO, nofun⟩
    · exact p.ob r1
    · exact p.ob r2
  keep := fun i h h' ⟨hz, hTI, ⟨x, y, hTO⟩, r1, r2⟩ k => ⟨k _ (by simp) _ hz, k _ (by simp) _ hTI, ⟨x, y, k _ (by simp) _ hTO⟩, p.at_ r1 fun o e => k _ (by simp) o e, p.at_ r2 fun o e => k _ (by simp) o e⟩
  item := by
    rintro X rfl rfl rfl hc i pins s σ H E I hf ⟨hz, hTI, ⟨x0, y0, hTO⟩, r1, r2⟩ ⟨xs, ys, x, y, qx, qy, hx, hy⟩
    obtain ⟨its, rv, la⟩ := p.rd rfl I qx
    obtain ⟨its2, rv2, lb⟩ := p.rd rfl I qy
    obtain ⟨u, hu, ru⟩ := rv.get hx
    obtain ⟨u2, hu2, ru2⟩ := rv2.get hy
    have hzl : z < s.heap.objs.size := Heap.lt_size hz
    refine p.item D hz hTI hTO r1 r2 la lb (x := u) (y := u2) (by simpa using hu) (by simpa using hu2) fun h' z' TO' r1' r2' hT hsz hk => ⟨_, rfl, wpAny_letOwnedTupleGo_zip (s := { s with heap := h' }) z' fun h'' z'' sb => ?_⟩
    have stay : ∀ {c o}, c ≠ z → h'.get? c = some o → h''.get? c = some o := fun n e => (sb.2 _ n).trans e
    have new := objT (P := X.prog) (w := X.w) (H := upd H s.heap.objs.size (.frz (tupObj [u, u2]) (.tup [x, y]))) (xs := [x, y]) (its := [u, u2]) (stay (Nat.ne_of_gt hzl) hT) (by show 2 ≤ sizeLine; decide) (.cons ru (.cons ru2 .nil))
    have J := I.turnedNew (t' := s.toks) (ch := [z, TI, TO, i1, i2]) (fun c o hb e => by
      obtain ⟨n0, n1, n2, n3⟩ := off5 hb
      exact stay n0 (hk c o n0 n1 n2 n3 e)) hf (Nat.le_refl _) new
    refine ⟨.ref s.heap.objs.size, _, J, rfl, ⟨_, _, x, y, rfl, rfl, I.hok.fresh (Nat.le_refl _), rfl, fun l hl => by rw [p.inj rfl I hl qx]; exact hx, fun l hl => by rw [p.inj rfl I hl qy]; exact hy⟩,
      ⟨z'', stay D.TIz (hk _ _ D.TIz D.TITO D.TIi1 D.TIi2 hTI), ⟨u, u2, stay D.TOz TO'⟩, p.at_ r1' fun o e => stay D.i1z e, p.at_ r2' fun o e => stay D.i2z e⟩, fun c hcm => ?_⟩
    have low : c < s.heap.objs.size := by
      rcases five hcm with rfl | rfl | rfl | rfl | rfl
      · exact hzl
      · exact Heap.lt_size hTI
      · exact Heap.lt_size hTO
      · obtain ⟨_, e, _⟩ := p.ob r1; exact Heap.lt_size e
      · obtain ⟨_, e, _⟩ := p.ob r2; exact Heap.lt_size e
    rw [upd_ne (Nat.ne_of_lt low)]
    exact (hf c hcm).1
  done := by
    rintro X rfl rfl rfl hc i pins s σ H E I hf ⟨hz, hTI, ⟨x0, y0, hTO⟩, r1, r2⟩ ⟨xs, ys, qx, qy, hend⟩
    obtain ⟨its, rv, la⟩ := p.rd rfl I qx
    obtain ⟨its2, rv2, lb⟩ := p.rd rfl I qy
    have l1 := rv.length
    have l2 := rv2.length
    refine p.fin (I.ok.hd hc) D hz hTI hTO r1 r2 la lb ?_ fun h' hk => ⟨rfl, I.turnedL (t' := s.toks) (ch := [z, TI, TO, i1, i2]) (fun c o hb e => ?_) hf⟩
    · rcases hend with q | q
      · exact .inl (Array.getElem?_eq_none (by simp only [List.size_toArray]; omega))
      · exact .inr (Array.getElem?_eq_none (by simp only [List.size_toArray]; omega))
    · obtain ⟨n0, n1, n2, n3⟩ := off5 hb
      exact hk c o n0 n1 n2 n3 e
  self := fun A i s Q E st h => wpAny_pyIter_zip st.1 h
def iZipF (K : PySem.W.Frag) (ta : TA) : TI := fun σ H R => ta σ H fun vs H1 => ∃ a b xs ys, vs = [.ref a, .ref b] ∧ ((SqL K H1 a xs ∧ SqL K H1 b ys ∧ R (ItzF (SqL K) a b) H1) ∨ (SqT K H1 a xs ∧ SqT K H1 b ys ∧ R (ItzF (SqT K) a b) H1))
theorem pi_zipF {X : Cx} {e e2 : Expr} {ta : TA} {p pos tpos : Pos} {elts : List Expr} {kk : Nat} (hg : Gl X "zip") (hm : X.mg "zip" = none) (ha : PA X [e, e2] ta)
    (hs : starEach [e, e2] X.env = (false, eval e X.env) :: starEach [e2] X.env := by rfl) (hpl : (backTo pos (starEach [e2] X.env)).any (·.1) = false := by rfl) :
    PI X (.Tuple elts kk tpos) (.Call (.Name "zip" p) [e, e2] [] pos) (iZipF X.K ta) := by
  refine ⟨fun pins s σ H R I h => Call_ (ld_blt I hg hm PyProof.Rows.boot_zip (PyProof.Rows.callWith_type1 (thn (ha.run pos pins s σ H _ I h) fun us s1 ⟨vs, H1, I1, r1, a, b, xs, ys, ex, q1⟩ => ?_) hs hpl))⟩
  subst ex
  obtain ⟨u, us', rfl, ra, rr⟩ : ∃ u us', us = u :: us' ∧ RelV (.ref a) u ∧ Vals [.ref b] us' := by cases r1 with | cons r rr => exact ⟨_, _, rfl, r, rr⟩
  obtain ⟨u2, rfl, rb⟩ := vals1 rr
  cases ra
  cases rb
  have new : ∀ c, c ∈ [s1.heap.objs.size + 4, s1.heap.objs.size + 2, s1.heap.objs.size + 3, s1.heap.objs.size, s1.heap.objs.size + 1] → FpOk X pins H1 c := fun c m => by
    have le : s1.heap.objs.size ≤ c := by
      rcases five m with e | e | e | e | e <;> rw [e] <;> first | exact Nat.le_refl _ | exact Nat.le_add_right _ _
    exact I1.fpOk le (I1.hok.fresh le)
  rcases q1 with ⟨qx, qy, q⟩ | ⟨qx, qy, q⟩
  · obtain ⟨its, rv, p1, _⟩ := I1.list qx
    obtain ⟨its2, rv2, p2, _⟩ := I1.list qy
    refine call_zip_2 p1.isList p2.isList fun h' hz hTI hTO r1 r2 hsz hk => wpAny_pyIter_zip hz ?_
    exact ⟨_, _, _, _, H1, rfl, I1.kept (t' := s1.toks) hk, turn_zipF (partL X.K) (PySem.W.ktu_apart s1.heap.objs.size a b p1.lt p2.lt), ⟨hz, hTI, ⟨_, _, hTO⟩, r1, r2⟩, new, q⟩
  · obtain ⟨its, rv, p1, _⟩ := I1.tuple qx
    obtain ⟨its2, rv2, p2, _⟩ := I1.tuple qy
    obtain ⟨o1, ho1, _⟩ := id p1
    obtain ⟨o2, ho2, _⟩ := id p2
    refine RZ.call_zipT (show s1.heap.IsTuple a its.toArray from p1) (show s1.heap.IsTuple b its2.toArray from p2) fun h' hz hTI hTO r1 r2 hsz hk => wpAny_pyIter_zip hz ?_
    exact ⟨_, _, _, _, H1, rfl, I1.kept (t' := s1.toks) hk, turn_zipF (partT X.K) (PySem.W.ktu_apart s1.heap.objs.size a b (Heap.lt_size ho1) (Heap.lt_size ho2)), ⟨hz, hTI, ⟨_, _, hTO⟩, r1, r2⟩, new, q⟩
end Lf
end

section
set_option maxHeartbeats 4000000
/-! The operators by values. -/
namespace Lf
open PySem PySem.Spec PyProof.Rows L2
section
variable {K : PySem.W.Frag} {O : Addr → Prop} {G H : Hp} {ι : List Addr} {c : Cells}
theorem Vw.nonE {x : V} (h : Vw K G H x .non) : x = .non := by cases h with | sc h _ => cases h; rfl
theorem Vw.blE {x : V} {b : Bool} (h : Vw K G H x (.bl b)) : x = .bl b := by cases h with | sc h _ => cases h; rfl
theorem Vw.intE {x : V} {b : Int} (h : Vw K G H x (.int b)) : x = .int b := by cases h with | sc h _ => cases h; rfl
theorem Vw.strE {x : V} {b : Str} (h : Vw K G H x (.str b)) : x = .str b := by cases h with | sc h _ => cases h; rfl
theorem Vw.lstE {x : V} {xs : List D} (h : Vw K G H x (.lst xs)) : ∃ a ys, x = .ref a ∧ Rd H a (.lst ys) ∧ Dvs K G ys xs := by
  cases h with
  | sc h n => exact absurd rfl (n xs)
  | lst r q => exact ⟨_, _, rfl, r, q⟩
theorem Vw.tupE {x : V} {xs : List D} (h : Vw K G H x (.tup xs)) : ∃ a ys, x = .ref a ∧ SqT K G a ys ∧ Dvs K G ys xs := by
  cases h with | sc h n => cases h with | tup r q => exact ⟨_, _, rfl, r.sqT, q⟩
theorem Vw.tupP {x : V} {xs : List D} (h : Vw K G H x (.tup xs)) : ∃ a ys, x = .ref a ∧ TpP K G a ys ∧ Dvs K G ys xs := by
  cases h with | sc h n => cases h with | tup r q => exact ⟨_, _, rfl, r, q⟩
/-- the end of a rule that gives a value w in a later state -/
def Fin (K : PySem.W.Frag) (G H : Hp) (ι : List Addr) (c : Cells) (w : W) (Q : VK) : Prop := ∀ G' H' v, Ex ι G H G' H' → SR K G' ι H' c → WR K (dm H) G' ι H' w v → Q v H'
theorem Fin.now {w : W} {Q : VK} {v : V} (q : Fin K G H ι c w Q) (s : SR K G ι H c) (r : WR K (dm H) G ι H w v) : Q v H := q G H v .refl s r
theorem Fin.tup {ds : List D} {ys : List V} {Q : VK} (q : Fin K G H ι c (.d (.tup ds)) Q) (s : SR K G ι H c) (dv : Dvs K G ys ds) : NewT H ys Q :=
  fun p o d hp => q _ _ _ (Ex.tup hp (s.sub.free hp) _) (s.tup hp _) (.tup (.new d) (dv.mono (sameG (s.sub.free hp))))
theorem Fin.lst {ds : List D} {ys : List V} {Q : VK} (q : Fin K G H ι c (.fl ds) Q) (s : SR K G ι H c) (dv : Dvs K G ys ds) : ∀ p, H p = none → Q (.ref p) (upd H p (.lst ys)) :=
  fun p hp => q _ _ _ (Ex.grow hp _) (s.grow hp _) ⟨p, ys, rfl, s.sub.free hp, fun h => s.has p h hp, fun h => h hp, upd_same, dv⟩
/-- an operator of two values -/
def rOp2 (K : PySem.W.Frag) (f : D → D → Option W) : R2 := fun x y H Q => ∃ G ι c d e w, SR K G ι H c ∧ Vw K G H x d ∧ Vw K G H y e ∧ f d e = some w ∧ Fin K G H ι c w Q
end
section
variable {X : Cx}
theorem exact_list {pins : List (Addr × Obj)} {s : Shared} {σ : L2.St} {H : Hp} {a : Addr} {xs : List V} (I : Inv X pins σ H s) (r : Rd H a (.lst xs)) :
    xs.length ≤ sizeLine ∧ ∃ (its : List Value) (n : Nat), Vals xs its ∧ xs.length = its.length ∧ s.heap.get? a = some { cls := .type "list", data := .seq its.toArray n } := by
  obtain ⟨h1, its, n, h2, h3⟩ := r.ok I.hok
  exact ⟨h1, its, n, h2, h2.length, h3⟩
def rCatL : R2 := fun x y H Q => ∃ l b xs zs, x = .ref l ∧ y = .ref b ∧ Rd H l (.lst xs) ∧ Rd H b (.lst zs) ∧ xs.length + zs.length ≤ sizeLine ∧ ∀ p, H p = none → Q (.ref p) (upd H p (.lst (xs ++ zs)))
theorem op_catL : OpR X (binaryOp .Add) rCatL := by
  intro pins s σ H x y v u Q I rx ry h
  obtain ⟨l, b, xs, zs, rfl, rfl, hH, hB, hz, q⟩ := h
  cases rx; cases ry
  obtain ⟨_, i1, n1, r1, l1, e1⟩ := exact_list I hH
  obtain ⟨_, i2, n2, r2, l2, e2⟩ := exact_list I hB
  refine PySem.P.add_list e1 e2 ?_ (by simp only [List.size_toArray]; omega)
  rw [show i1.toArray ++ i2.toArray = (i1 ++ i2).toArray by simp]
  exact ⟨.ref _, _, I.lnew (t' := s.toks) (r1.append r2) (by simp only [List.length_append]; omega), rfl, q _ I.fresh⟩
theorem line_eq : (LINE : Nat) = sizeLine := by rw [sizeLine_eq]
theorem op_bin (o : Operator) : OpR X (binaryOp o) (rOp2 X.K (binD o)) := by
  intro pins s σ H x y v u Q I rx ry h
  obtain ⟨G, ι, c, d, e, w, sr, v1, v2, he, q⟩ := h
  unfold binD at he
  split at he
  · cases he; cases v1.intE; cases v2.intE
    exact op_add pins s σ H _ _ v u Q I rx ry ⟨_, _, rfl, rfl, q.now sr (.int _)⟩
  · cases he; cases v1.intE; cases v2.blE
    exact op_add_ib pins s σ H _ _ v u Q I rx ry ⟨_, _, rfl, rfl, q.now sr (.int _)⟩
  · cases he; cases v1.blE; cases v2.intE
    cases rx
    obtain ⟨t, rfl⟩ := ry
    refine PySem.IntBool.add_bool_int ⟨.int _, H, I.tok _, ⟨_, rfl⟩, ?_⟩
    exact q.now sr (.int _)
  · split at he
    · rename_i hl
      cases he; cases v1.strE; cases v2.strE
      exact op_add_str pins s σ H _ _ v u Q I rx ry ⟨_, _, rfl, rfl, by rw [← line_eq]; exact hl, q.now sr (.str _)⟩
    · cases he
  · split at he
    · rename_i hl
      cases he
      obtain ⟨a, xs, rfl, h1, d1⟩ := v1.tupP
      obtain ⟨b, ys, rfl, h2, d2⟩ := v2.tupP
      refine op_catF pins s σ H _ _ v u Q I rx ry ⟨a, b, xs, ys, rfl, rfl, sqT_same sr.sub h1.sqT, sqT_same sr.sub h2.sqT, by rw [← line_eq, d1.length, d2.length]; exact hl, fun e => ?_, fun _ e => ?_, fun _ _ => q.tup sr (d1.append d2)⟩
      · subst e; cases d1; exact q.now sr (.tup h2 d2)
      · subst e; cases d2; rw [List.append_nil] at q; exact q.now sr (.tup h1 d1)
    · cases he
  · split at he
    · rename_i hl
      cases he
      obtain ⟨a, xs, rfl, h1, d1⟩ := v1.lstE
      obtain ⟨b, ys, rfl, h2, d2⟩ := v2.lstE
      exact op_catL pins s σ H _ _ v u Q I rx ry ⟨a, b, xs, ys, rfl, rfl, h1, h2, by rw [← line_eq, d1.length, d2.length]; exact hl, q.lst sr (d1.append d2)⟩
    · cases he
  · cases he; cases v1.intE; cases v2.intE
    exact op_sub pins s σ H _ _ v u Q I rx ry ⟨_, _, rfl, rfl, q.now sr (.int _)⟩
  · split at he
    · rename_i hl
      cases he; cases v1.intE; cases v2.intE
      exact op_mul pins s σ H _ _ v u Q I rx ry ⟨_, _, rfl, rfl, hl, q.now sr (.int _)⟩
    · cases he
  · split at he
    · rename_i hl
      cases he; cases v1.intE; cases v2.intE
      exact op_fdiv pins s σ H _ _ v u Q I rx ry ⟨_, _, rfl, rfl, hl, q.now sr (.int _)⟩
    · cases he
  · split at he
    · rename_i hl
      cases he; cases v1.intE; cases v2.intE
      exact op_mod pins s σ H _ _ v u Q I rx ry ⟨_, _, rfl, rfl, hl, q.now sr (.int _)⟩
    · cases he
  · split at he
    · rename_i hl
      cases he; cases v1.intE; cases v2.intE
      exact op_pow pins s σ H _ _ v u Q I rx ry ⟨_, _, rfl, rfl, hl, q.now sr (.int _)⟩
    · cases he
  · split at he
    · rename_i hl
      cases he; cases v1.intE; cases v2.intE
      exact op_shl pins s σ H _ _ v u Q I rx ry ⟨_, _, rfl, rfl, hl, q.now sr (.int _)⟩
    · cases he
  · split at he
    · rename_i hl
      cases he; cases v1.intE; cases v2.intE
      exact op_shr pins s σ H _ _ v u Q I rx ry ⟨_, _, rfl, rfl, hl, q.now sr (.int _)⟩
    · cases he
  · cases he; cases v1.intE; cases v2.intE
    exact op_and pins s σ H _ _ v u Q I rx ry ⟨_, _, rfl, rfl, q.now sr (.int _)⟩
  · cases he

/-! ### comparisons -/
/-- room for looks within data -/
def Big (A : Around) : Prop := A.units + 190 < cLine
theorem cmp_eq (hu : Big X.A) : OpR X (compareOp .Eq) (rOp2 X.K fun d e => if min d.dep e.dep ≤ 180 then some (.d (.bl (d.eq e))) else none) := by
  intro pins s σ H x y v u Q I rx ry h
  obtain ⟨G, ι, c, d, e, w, sr, v1, v2, he, q⟩ := h
  simp only at he
  split at he
  · rename_i hl
    cases he
    obtain ⟨as, r1⟩ := Dp.reads I _ x v (v1.dv sr.sub).dp rx
    obtain ⟨bs, r2⟩ := Dp.reads I _ y u (v2.dv sr.sub).dp ry
    exact (eqA d e X.A s v u as bs r1 r2 (by unfold Big at hu; omega)).2 _ _ _ _ ⟨.bl _, H, I, rfl, q.now sr (.bl _)⟩
  · cases he
theorem cmp_ne (hu : Big X.A) : OpR X (compareOp .NotEq) (rOp2 X.K fun d e => if min d.dep e.dep ≤ 180 then some (.d (.bl (!d.eq e))) else none) := by
  intro pins s σ H x y v u Q I rx ry h
  obtain ⟨G, ι, c, d, e, w, sr, v1, v2, he, q⟩ := h
  simp only at he
  split at he
  · rename_i hl
    cases he
    obtain ⟨as, r1⟩ := Dp.reads I _ x v (v1.dv sr.sub).dp rx
    obtain ⟨bs, r2⟩ := Dp.reads I _ y u (v2.dv sr.sub).dp ry
    exact neA d e X.A s v u as bs r1 r2 (by unfold Big at hu; omega) _ _ _ _ ⟨.bl _, H, I, rfl, q.now sr (.bl _)⟩
  · cases he
/-! x in xs -/
section
noncomputable def eIn (h : Heap) (x : D) (u : Value) : Bool := @decide (∃ (d : D) (as : List Addr), Reads h u d.py as ∧ d.eq x = true) (Classical.propDecidable _)
theorem eIn_of {h : Heap} {x d : D} {u : Value} {as : List Addr} (r : Reads h u d.py as) : eIn h x u = d.eq x := by
  unfold eIn
  by_cases e : d.eq x = true
  · rw [e]; exact @decide_eq_true _ (Classical.propDecidable _) ⟨d, as, r, e⟩
  · rw [show d.eq x = false by simpa using e]
    refine @decide_eq_false _ (Classical.propDecidable _) fun ⟨d', as', r', e'⟩ => e ?_
    rw [rd_uniq d d' u as as' r r']; exact e'
theorem any_eIn {h : Heap} {x : D} : ∀ {ds : List D} {us : List Value} {as : List Addr}, ReadsAll h us (D.pys ds) as → us.any (eIn h x) = inD x ds
  | [], _, _, r => by simp only [D.pys] at r; cases r; rfl
  | d :: ds, _, _, r => by
    simp only [D.pys] at r
    cases r with
    | cons a b => rw [List.any_cons, eIn_of a, any_eIn b]; rfl
theorem at_eIn {A : Around} {s : Shared} {x : D} {v : Value} {bs : List Addr} (rx : Reads s.heap v x.py bs) (hu : A.units + x.dep < cLine) : ∀ {ds : List D} {us : List Value} {as : List Addr}, ReadsAll s.heap us (D.pys ds) as → ∀ u ∈ us, SeqAt.EqAt A s u v (eIn s.heap x u)
  | [], _, _, r => fun u hm => by simp only [D.pys] at r; cases r; cases hm
  | d :: ds, _, _, r => fun u hm => by
    simp only [D.pys] at r
    cases r with
    | cons a b =>
      rcases List.mem_cons.mp hm with rfl | hm
      · rw [eIn_of a]; exact (eqA d x A s u v _ bs a rx (by omega)).1
      · exact at_eIn rx hu b u hm
end
section
variable {pins : List (Addr × Obj)} {s : Shared} {σ : L2.St} {G H : Hp} {ι : List Addr} {c : Cells} {x y : V} {v u : Value} {d : D} {xs : List D} {E : Value → Shared → Prop}
theorem in_gen (hu : Big X.A) (neg : Bool) {Q : Value → Shared → Prop} (I : Inv X pins σ H s) (sr : SR X.K G ι H c) (rx : RelV x v) (ry : RelV y u) (v1 : Vw X.K G H x d) (hd : d.dep ≤ 180)
    (h2 : (Vw X.K G H y (.lst xs)) ∨ (Vw X.K G H y (.tup xs))) (q : Q (.bool (if neg then !inD d xs else inD d xs)) s) :
    wpAny (model X.prog X.w) X.A (compareOp (if neg then .NotIn else .In) v u) Q E s := by
  obtain ⟨bs, r1⟩ := Dp.reads I _ x v (v1.dv sr.sub).dp rx
  have hu' : X.A.in1.units + d.dep < cLine := by rw [Around.in1_units]; unfold Big at hu; omega
  rcases h2 with h2 | h2
  · obtain ⟨a, ys, rfl, rd, dv⟩ := h2.lstE
    cases ry
    obtain ⟨_, its, n, vs, _, e⟩ := exact_list I rd
    obtain ⟨as, r2⟩ := Dp.readsAll I _ ys its (dv.mono sr.sub).dp vs
    have hl : s.heap.IsList a its.toArray := ⟨_, e, rfl, n, rfl⟩
    have q' : Q (.bool (if neg then !its.toArray.any (eIn s.heap d) else its.toArray.any (eIn s.heap d))) s := by
      rw [show its.toArray.any (eIn s.heap d) = its.any (eIn s.heap d) by simp, any_eIn r2]; exact q
    cases neg with
    | false => exact SeqAt.in_listAt (eIn s.heap d) hl (fun w hw => at_eIn r1 hu' r2 w (by simpa using hw)) q'
    | true => exact SeqAt.notIn_listAt (eIn s.heap d) hl (fun w hw => at_eIn r1 hu' r2 w (by simpa using hw)) q'
  · obtain ⟨a, ys, rfl, sq, dv⟩ := h2.tupE
    cases ry
    obtain ⟨its, vs, hl, _⟩ := I.tuple (sqT_same sr.sub sq)
    obtain ⟨as, r2⟩ := Dp.readsAll I _ ys its (dv.mono sr.sub).dp vs
    have q' : Q (.bool (if neg then !its.toArray.any (eIn s.heap d) else its.toArray.any (eIn s.heap d))) s := by
      rw [show its.toArray.any (eIn s.heap d) = its.any (eIn s.heap d) by simp, any_eIn r2]; exact q
    cases neg with
    | false => exact SeqAt.in_tupleAt (eIn s.heap d) hl (fun w hw => at_eIn r1 hu' r2 w (by simpa using hw)) q'
    | true => exact SeqAt.notIn_tupleAt (eIn s.heap d) hl (fun w hw => at_eIn r1 hu' r2 w (by simpa using hw)) q'
theorem Vw.isN (h : Vw X.K G H x d) : decide (x = .non) = d.isN := by
  cases d with
  | non => cases h.nonE; rfl
  | bl b => cases h.blE; rfl
  | int b => cases h.intE; rfl
  | str b => cases h.strE; rfl
  | tup b => obtain ⟨a, ys, rfl, _⟩ := h.tupE; rfl
  | lst b => obtain ⟨a, ys, rfl, _⟩ := h.lstE; rfl
end
def cmpW (o : CmpOp) (d e : D) : Option W := (cmpD o d e).map fun k => .d (.bl k)
theorem op_cmp (hu : Big X.A) (o : CmpOp) : OpR X (compareOp o) (rOp2 X.K (cmpW o)) := by
  intro pins s σ H x y v u Q I rx ry h
  obtain ⟨G, ι, c, d, e, w, sr, v1, v2, he, q⟩ := h
  unfold cmpW cmpD at he
  split at he
  · exact cmp_eq hu pins s σ H x y v u Q I rx ry ⟨G, ι, c, d, e, w, sr, v1, v2, by (split at he <;> simp_all), q⟩
  · exact cmp_ne hu pins s σ H x y v u Q I rx ry ⟨G, ι, c, d, e, w, sr, v1, v2, by (split at he <;> simp_all), q⟩
  · cases he; cases v1.intE; cases v2.intE
    exact op_lt pins s σ H _ _ v u Q I rx ry ⟨_, _, rfl, rfl, q.now sr (.bl _)⟩
  · cases he; cases v1.intE; cases v2.intE
    exact op_le pins s σ H _ _ v u Q I rx ry ⟨_, _, rfl, rfl, q.now sr (.bl _)⟩
  · cases he; cases v1.intE; cases v2.intE
    exact op_gt pins s σ H _ _ v u Q I rx ry ⟨_, _, rfl, rfl, q.now sr (.bl _)⟩
  · cases he; cases v1.intE; cases v2.intE
    exact op_ge pins s σ H _ _ v u Q I rx ry ⟨_, _, rfl, rfl, q.now sr (.bl _)⟩
  · cases he; cases v1.strE; cases v2.strE
    exact op_lt_str pins s σ H _ _ v u Q I rx ry ⟨_, _, rfl, rfl, q.now sr (.bl _)⟩
  · cases he; cases v1.strE; cases v2.strE
    exact op_le_str pins s σ H _ _ v u Q I rx ry ⟨_, _, rfl, rfl, q.now sr (.bl _)⟩
  · cases he; cases v1.strE; cases v2.strE
    exact op_gt_str pins s σ H _ _ v u Q I rx ry ⟨_, _, rfl, rfl, q.now sr (.bl _)⟩
  · cases he; cases v1.strE; cases v2.strE
    exact op_ge_str pins s σ H _ _ v u Q I rx ry ⟨_, _, rfl, rfl, q.now sr (.bl _)⟩
  · split at he
    · rename_i hl
      cases he
      exact in_gen hu false I sr rx ry v1 hl (.inl v2) ⟨.bl _, H, I, rfl, q.now sr (.bl _)⟩
    · cases he
  · split at he
    · rename_i hl
      cases he
      exact in_gen hu false I sr rx ry v1 hl (.inr v2) ⟨.bl _, H, I, rfl, q.now sr (.bl _)⟩
    · cases he
  · cases he; cases v1.strE; cases v2.strE
    exact op_in_str pins s σ H _ _ v u Q I rx ry ⟨_, _, rfl, rfl, q.now sr (.bl _)⟩
  · split at he
    · rename_i hl
      cases he
      exact in_gen hu true I sr rx ry v1 hl (.inl v2) ⟨.bl _, H, I, rfl, q.now sr (.bl _)⟩
    · cases he
  · split at he
    · rename_i hl
      cases he
      exact in_gen hu true I sr rx ry v1 hl (.inr v2) ⟨.bl _, H, I, rfl, q.now sr (.bl _)⟩
    · cases he
  · cases he; cases v1.strE; cases v2.strE
    exact op_notin_str pins s σ H _ _ v u Q I rx ry ⟨_, _, rfl, rfl, q.now sr (.bl _)⟩
  · cases he; cases v2.nonE
    exact op_isN pins s σ H _ _ v u Q I rx ry ⟨rfl, by rw [v1.isN]; exact q.now sr (.bl _)⟩
  · cases he; cases v2.nonE
    exact op_notN pins s σ H _ _ v u Q I rx ry ⟨rfl, by rw [v1.isN]; exact q.now sr (.bl _)⟩
  · cases he

/-! ### items, slices -/
theorem atI_at {α β : Type} {xs : List α} {ys : List β} (hl : xs.length = ys.length) {i : Int} {x : α} (h : atI xs i = some x) : ∃ j : Nat, xs[j]? = some x ∧ ∀ y, ys[j]? = some y → atI ys i = some y := by
  unfold atI at h ⊢
  rw [hl] at h
  cases e : ixN ys.length i with
  | none => rw [e] at h; cases h
  | some j => rw [e] at h; exact ⟨j, h, fun y hy => hy⟩
def rIxO (K : PySem.W.Frag) : R2 := rOp2 K fun d e => (idxD d e).map .d
theorem ix_all : IxR X (rIxO X.K) := by
  intro value slice pins s σ H x y v u Q I rx ry h hs
  obtain ⟨G, ι, c, d, e, w, sr, v1, v2, he, q⟩ := h
  simp only [idxD] at he
  split at he
  · rename_i xs i
    cases v2.intE
    obtain ⟨a, ys, rfl, h1, d1⟩ := v1.lstE
    unfold seqAt at he
    cases e : atI xs i with
    | none => rw [e] at he; cases he
    | some z =>
      rw [e] at he; cases he
      obtain ⟨j, hj, hy⟩ := atI_at d1.length.symm e
      obtain ⟨y', h2, h3⟩ := d1.at hj
      exact ix_list value slice pins s σ H _ _ v u Q I rx ry ⟨a, ys, i, y', rfl, rfl, .inl h1, hy _ h2, q.now sr h3⟩ hs
  · rename_i xs i
    cases v2.intE
    obtain ⟨a, ys, rfl, h1, d1⟩ := v1.tupE
    unfold seqAt at he
    cases e : atI xs i with
    | none => rw [e] at he; cases he
    | some z =>
      rw [e] at he; cases he
      obtain ⟨j, hj, hy⟩ := atI_at d1.length.symm e
      obtain ⟨y', h2, h3⟩ := d1.at hj
      exact ix_tup value slice pins s σ H _ _ v u Q I rx ry ⟨a, ys, i, y', rfl, rfl, sqT_same sr.sub h1, hy _ h2, q.now sr h3⟩ hs
  · rename_i z i
    cases v1.strE
    cases v2.intE
    split at he
    · rename_i hl
      cases e : atI z.cps.toList i with
      | none => rw [e] at he; cases he
      | some k =>
        rw [e] at he; cases he
        exact ix_str value slice pins s σ H _ _ v u Q I rx ry ⟨z, i, k, rfl, rfl, by rw [← line_eq]; exact hl, e, q.now sr (.str _)⟩ hs
    · cases he
  · cases he
def VwS (K : PySem.W.Frag) (G H : Hp) (x : V) (d : D) : Prop := Vw K G H x d ∨ ∃ a ys xs, x = .ref a ∧ d = .lst xs ∧ SqL K H a ys ∧ Dvs K G ys xs
theorem vwS_of {K : PySem.W.Frag} {O : Addr → Prop} {G H : Hp} {ι : List Addr} {c : Cells} (s : SR K G ι H c) {w : W} {v : V} {d : D} (r : WR K O G ι H w v) (e : viewS c w = some d) : VwS K G H v d := by
  cases w with
  | sq xs => cases e; obtain ⟨a, ys, e1, e2, e3⟩ := r; exact .inr ⟨a, ys, xs, e1, rfl, sqL_same s.sub e2, e3⟩
  | d x => exact .inl (vw_of s r e)
  | ref n => exact .inl (vw_of s r e)
  | fl xs => exact .inl (vw_of s r e)
  | fd xs => exact .inl (vw_of s r e)
theorem VwS.lstE {K : PySem.W.Frag} {G H : Hp} {x : V} {xs : List D} (h : VwS K G H x (.lst xs)) : ∃ a ys, x = .ref a ∧ SqL K H a ys ∧ Dvs K G ys xs := by
  rcases h with h | ⟨a, ys, xs', e1, e2, e3, e4⟩
  · obtain ⟨a, ys, e, r, q⟩ := h.lstE
    exact ⟨a, ys, e, .inl r, q⟩
  · cases e2; exact ⟨a, ys, e1, e3, e4⟩
theorem VwS.tupP {K : PySem.W.Frag} {G H : Hp} {x : V} {xs : List D} (h : VwS K G H x (.tup xs)) : ∃ a ys, x = .ref a ∧ TpP K G a ys ∧ Dvs K G ys xs := by
  rcases h with h | ⟨a, ys, xs', e1, e2, e3, e4⟩
  · exact h.tupP
  · cases e2
theorem VwS.tupE {K : PySem.W.Frag} {G H : Hp} {x : V} {xs : List D} (h : VwS K G H x (.tup xs)) : ∃ a ys, x = .ref a ∧ SqT K G a ys ∧ Dvs K G ys xs := by
  rcases h with h | ⟨a, ys, xs', e1, e2, e3, e4⟩
  · exact h.tupE
  · cases e2
def rSlO (K : PySem.W.Frag) : V → Option Int → Option Int → Hp → VK → Prop := fun x lo hi H Q => ∃ G ι c d w, SR K G ι H c ∧ VwS K G H x d ∧ slcD d lo hi = some w ∧ Fin K G H ι c w Q
theorem Dvs.cut {K : PySem.W.Frag} {G : Hp} {ys : List V} {xs : List D} (d : Dvs K G ys xs) (lo hi : Option Int) : Dvs K G (cutV ys lo hi) (cutL xs lo hi) := by
  unfold cutV cutL
  rw [d.length]
  exact (d.drop _).take _
theorem sl_all : SlR X (rSlO X.K) := by
  intro pins s σ H x v vl vu lo hi sl Q I rx hs pl pu h
  obtain ⟨G, ι, c, d, w, sr, v1, he, q⟩ := h
  unfold slcD at he
  split at he
  · cases he
    obtain ⟨a, ys, rfl, h1, d1⟩ := v1.lstE
    exact sl_list pins s σ H _ v vl vu lo hi sl Q I rx hs pl pu ⟨a, ys, rfl, h1, q.lst sr (d1.cut lo hi)⟩
  · cases he
    rename_i xs
    obtain ⟨a, ys, rfl, h1, d1⟩ := v1.tupP
    refine sl_tupF pins s σ H _ v vl vu lo hi sl Q I rx hs pl pu ⟨a, ys, rfl, sqT_same sr.sub h1.sqT, fun w => ?_, fun _ => q.tup sr (d1.cut lo hi)⟩
    have e : cutL xs lo hi = xs := by
      unfold cutL
      rw [← d1.length, w.1, w.2, List.drop_zero, d1.length, Nat.sub_zero, List.take_length]
    rw [e] at q
    exact q.now sr (.tup h1 d1)
  · split at he
    · rename_i z hl
      cases he
      have v1 : Vw X.K G H x (.str z) := by
        rcases v1 with v1 | ⟨_, _, _, _, z', _⟩
        · exact v1
        · cases z'
      cases v1.strE
      refine sl_str pins s σ H _ v vl vu lo hi sl Q I rx hs pl pu ⟨_, rfl, hl, ?_⟩
      have e : cutS z lo hi = ⟨(cutL z.cps.toList lo hi).toArray⟩ := by
        unfold cutS cutL
        rw [Array.length_toList]; rfl
      rw [e]
      exact q.now sr (.str _)
    · cases he
  · cases he

/-! ### dicts -/
theorem key_of_v {K : PySem.W.Frag} {G H : Hp} {k : D} {y : V} {z : L2.Key} (h : Vw K G H y k) (e : keyD k = some z) : y = kV z := by
  cases k <;> simp only [keyD] at e <;> cases e
  · exact h.intE
  · exact h.strE
theorem kvs_get {K : PySem.W.Frag} {G : Hp} {z : L2.Key} {k : D} (hk : keyD k = some z) : ∀ {ys : List (L2.Key × V)} {kvs : List (D × D)} {x : D}, Kvs K G ys kvs → dGet kvs k = some x → ∃ v, valV ys z = some v ∧ Dv K G v x
  | [], [], _, _, e => by simp [dGet] at e
  | [], _ :: _, _, h, _ => by cases h
  | _ :: _, [], _, h, _ => by cases h
  | p :: ys, q :: kvs, x, h, e => by
    cases h with
    | cons a b =>
      obtain ⟨qa, qv⟩ := q
      simp only [dGet] at e
      rw [a.1, hk] at e
      by_cases hz : p.1 = z
      · rw [if_pos (by rw [hz])] at e
        cases e
        exact ⟨p.2, valV_pos hz, a.2⟩
      · rw [if_neg (fun q => hz (Option.some.inj q))] at e
        rw [valV_neg hz]
        exact kvs_get hk b e
theorem kvs_any {K : PySem.W.Frag} {G : Hp} {z : L2.Key} {k : D} (hk : keyD k = some z) : ∀ {ys : List (L2.Key × V)} {kvs : List (D × D)}, Kvs K G ys kvs → (ys.any fun p => decide (p.1 = z)) = kvs.any fun p => decide (keyD p.1 = keyD k)
  | [], [], _ => rfl
  | [], _ :: _, h => by cases h
  | _ :: _, [], h => by cases h
  | p :: ys, q :: kvs, h => by
    cases h with
    | cons a b =>
      simp only [List.any_cons]
      rw [kvs_any hk b, a.1, hk]
      congr 1
      rw [Bool.eq_iff_iff]; simp
theorem kvs_map {K : PySem.W.Frag} {G : Hp} {z : L2.Key} {k x : D} {v : V} (hk : keyD k = some z) (hv : Dv K G v x) : ∀ {ys : List (L2.Key × V)} {kvs : List (D × D)}, Kvs K G ys kvs →
    Kvs K G (ys.map fun kv => if kv.1 = z then (kv.1, v) else kv) (kvs.map fun p => if keyD p.1 = keyD k then (p.1, x) else p)
  | [], [], _ => .nil
  | [], _ :: _, h => by cases h
  | _ :: _, [], h => by cases h
  | p :: ys, q :: kvs, h => by
    cases h with
    | cons a b =>
      simp only [List.map_cons]
      refine .cons ?_ (kvs_map hk hv b)
      rw [a.1, hk]
      by_cases hz : p.1 = z
      · rw [if_pos hz, if_pos (by rw [hz])]; exact ⟨a.1, hv⟩
      · rw [if_neg hz, if_neg (fun q => hz (Option.some.inj q))]; exact a
theorem paired_append {α β : Type} {F : α → β → Prop} : ∀ {a : List α} {b : List β} {c : List α} {d : List β}, Paired F a b → Paired F c d → Paired F (a ++ c) (b ++ d)
  | _, _, _, _, .nil, h => h
  | _, _, _, _, .cons x y, h => .cons x (paired_append y h)
theorem kvs_put {K : PySem.W.Frag} {G : Hp} {z : L2.Key} {k x : D} {v : V} (hk : keyD k = some z) (hv : Dv K G v x) {ys : List (L2.Key × V)} {kvs : List (D × D)} (h : Kvs K G ys kvs) : Kvs K G (putK ys z v) (dPut kvs k x) := by
  unfold putK dPut
  rw [kvs_any hk h]
  by_cases hc : (kvs.any fun p => decide (keyD p.1 = keyD k)) = true
  · rw [if_pos hc, if_pos hc]; exact kvs_map hk hv h
  · rw [if_neg hc, if_neg hc]; exact paired_append h (.cons ⟨hk, hv⟩ .nil)
theorem kvs_merge {K : PySem.W.Frag} {G : Hp} : ∀ {more : List (L2.Key × V)} {rs : List (D × D)} {ys : List (L2.Key × V)} {kvs : List (D × D)}, Kvs K G more rs → Kvs K G ys kvs → Kvs K G (mergeK ys more) (dMerge kvs rs)
  | [], [], _, _, _, h => h
  | [], _ :: _, _, _, h, _ => by cases h
  | _ :: _, [], _, _, h, _ => by cases h
  | p :: more, (qk, qv) :: rs, ys, kvs, h, h2 => by
    cases h with
    | cons a b =>
      show Kvs K G (mergeK (putK ys p.1 p.2) more) (dMerge (dPut kvs qk qv) rs)
      exact kvs_merge (more := more) (rs := rs) b (kvs_put a.1 a.2 h2)
theorem ix_dict (hu : X.A.units + 1 < cLine) : IxR X (fun x y H Q => ∃ a v, x = .ref a ∧ DGet H a y (some v) ∧ Q v H) := by
  intro value slice pins s σ H x y v u Q I rx ry h hs
  obtain ⟨a, z, rfl, g, q⟩ := h
  cases rx
  exact PyProof.Rows.tail_any (dict_typeIs I g) PySem.F.slot_dict_getitem.lookup (d_getItem hu I g ry fun w' s' I' r' => ⟨z, H, I', r', q⟩) hs

/-! ### truth -/
theorem tru_of {K : PySem.W.Frag} {O : Addr → Prop} {G H : Hp} {ι : List Addr} {c : Cells} (s : SR K G ι H c) {w : W} {v : V} {k : Bool} (r : WR K O G ι H w v) (e : truW c w = some k) : TruV K v H k := by
  unfold truW at e
  cases hv : view c w with
  | some d =>
    rw [hv] at e
    have h := vw_of s r hv
    cases d with
    | non => cases e; cases h.nonE; rfl
    | bl b => cases e; cases h.blE; rfl
    | int i => cases e; cases h.intE; rfl
    | str z =>
      cases h.strE
      simp only [D.truO] at e
      split at e
      · rename_i hl
        cases e
        exact ⟨by rw [← line_eq]; exact hl, by rw [Bool.eq_iff_iff]; simp⟩
      · cases e
    | tup xs =>
      cases e
      obtain ⟨a, ys, rfl, h1, d1⟩ := h.tupE
      exact .inr (.inl ⟨ys, sqT_same s.sub h1, by cases d1 <;> rfl⟩)
    | lst xs =>
      cases e
      obtain ⟨a, ys, rfl, h1, d1⟩ := h.lstE
      exact .inl ⟨ys, .inl h1, by cases d1 <;> rfl⟩
  | none =>
    rw [hv] at e
    cases hd : viewD c w with
    | none => rw [hd] at e; cases e
    | some kvs =>
      rw [hd] at e; cases e
      obtain ⟨a, ys, rfl, h1, d1⟩ := vwD_of s r hd
      exact .inr (.inr ⟨ys, h1, by cases d1 <;> rfl⟩)
end
end Lf
end

section
set_option maxHeartbeats 4000000
/-! Each form of expression, by its parts. -/
namespace Lf
open PySem PySem.Spec PyProof.Rows L2
/-- as a test -/
def asB (f : En → Cells → Res (W × Cells)) : En → Cells → Res (Bool × Cells) := fun env c => f env c >>= fun r => ofO (truW r.2 r.1) >>= fun k => .ok (k, r.2)
section
variable {X : Cx} {C : Ct} {a b e : Expr} {pos : Pos} {f g : En → Cells → Res (W × Cells)}

theorem j_non {j : Nat} : PE X (.Constant .none j pos) (tE C fun _ c => .ok (.d .non, c)) := peI pe_non fun σ H Q ⟨G, ι, env, c, s, en, h⟩ => h.now s (v := V.non) Dv.non
theorem j_bl {j : Nat} {k : Bool} : PE X (.Constant (.bool k) j pos) (tE C fun _ c => .ok (.d (.bl k), c)) := peI pe_bl fun σ H Q ⟨G, ι, env, c, s, en, h⟩ => h.now s (v := V.bl k) (Dv.bl k)
theorem j_int {j : Nat} {k : Int} : PE X (.Constant (.int k) j pos) (tE C fun _ c => .ok (.d (.int k), c)) := peI pe_int fun σ H Q ⟨G, ι, env, c, s, en, h⟩ => h.now s (v := V.int k) (Dv.int k)
theorem j_str {j : Nat} {k : Str} : PE X (.Constant (.str k) j pos) (tE C fun _ c => .ok (.d (.str k), c)) := peI pe_str fun σ H Q ⟨G, ι, env, c, s, en, h⟩ => h.now s (v := V.str k) (Dv.str k)
theorem j_var {i : Nat} {x : Str} (hN : X.N[i]? = some x) (hv : Vis X.env.scope x) (hd : (x == ("__debug__" : Str)) = false) (hcd : (x == ("__classdict__" : Str)) = false) :
    PE X (.Name x pos) (tE C fun env c => match env[i]? with
      | some (some w) => .ok (w, c)
      | _ => .no) := by
  refine peI (pe_var hN hv hd hcd) fun σ H Q ⟨G, ι, env, c, s, en, h⟩ => ?_
  show ∃ v, σ[i]? = some (some v) ∧ Q v H
  dsimp only at h
  split at h
  · rename_i w hw
    obtain ⟨hs, v, h1, h2⟩ := en.2 i w hw
    exact ⟨v, h1, h.now s (h2.slot hs)⟩
  · exact h.elim
theorem j_glb {x : Str} {d : D} {v : V} {u : Value} (hg : Gl X x) (hm : X.mg x = some u) (r : RelV v u) (dv : Dv C.K (fun _ => none) v d) (hd : (x == ("__debug__" : Str)) = false) :
    PE X (.Name x pos) (tE C fun _ c => .ok (.d d, c)) := by
  refine peI (pe_glob hg hm r hd) fun σ H Q ⟨G, ι, env, c, s, en, h⟩ => ?_
  exact h.now s (dv.mono (G := fun _ => none) (fun a o q => by cases q))

theorem re_op {f : D → D → Option W} {G H G2 H2 : Hp} {ι : List Addr} {σ : L2.St} {c : Cells} {w1 w2 : W} {x y : V} {Q : VK} {O1 O2 : Addr → Prop} (e : Ex ι G H G2 H2) (s : SR C.K G2 ι H2 c) (r1 : WR C.K O1 G2 ι H2 w1 x) (r2 : WR C.K O2 G2 ι H2 w2 y)
    (h : RE C (WR C.K) G ι H σ (match view c w1, view c w2 with
      | some d, some e => ofO (f d e) >>= fun w => .ok (w, c)
      | _, _ => .no) Q) : rOp2 C.K f x y H2 Q := by
  split at h
  · rename_i d d' hd he
    obtain ⟨w, hw, h⟩ := RE.opt h
    exact ⟨G2, ι, c, d, d', w, s, vw_of s r1 hd, vw_of s r2 he, hw, fun G' H' v a b z => h.later (e.trans a) b (z.weak e.kp)⟩
  · exact h.elim
theorem j_bin {o : Operator} (hK : X.K = C.K) (ha : PE X a (tE C f)) (hb : PE X b (tE C g)) :
    PE X (.BinOp a o b pos) (tE C fun env c => f env c >>= fun r => g env r.2 >>= fun q => match view q.2 r.1, view q.2 q.1 with
      | some x, some y => ofO (binD o x y) >>= fun w => .ok (w, q.2)
      | _, _ => .no) := by
  refine peI (pe_op (hK ▸ op_bin o) ha hb) fun σ H Q ⟨G, ι, env, c, s, en, h⟩ => ?_
  refine ⟨G, ι, env, c, s, en, RE.imp (RE.bind h) fun v H1 ⟨G1, c1, w1, e1, s1, r1, h1⟩ => ?_⟩
  refine ⟨G1, ι, env, c1, s1, en.keep e1, RE.imp (RE.bind (h1.from e1)) fun u H2 ⟨G2, c2, w2, e2, s2, r2, h2⟩ => ?_⟩
  exact re_op e2 s2 (r1.keep e2) r2 h2
theorem cmp_as_op {o : CmpOp} {w1 w2 : W} {c : Cells} : (match view c w1, view c w2 with
      | some x, some y => ofO (cmpD o x y) >>= fun k => Res.ok (W.d (.bl k), c)
      | _, _ => .no) = (match view c w1, view c w2 with
      | some d, some e => ofO (cmpW o d e) >>= fun w => .ok (w, c)
      | _, _ => .no) := by
  split
  · simp only [cmpW]
    rename_i x y _ _
    cases cmpD o x y <;> rfl
  · rfl
theorem j_cmp {o : CmpOp} (hK : X.K = C.K) (hu : Big X.A) (ha : PE X a (tE C f)) (hb : PE X b (tE C g)) (hm : behindInMarks o b = false) :
    PE X (.Compare a [o] [b] pos) (tE C fun env c => f env c >>= fun r => g env r.2 >>= fun q => match view q.2 r.1, view q.2 q.1 with
      | some x, some y => ofO (cmpD o x y) >>= fun k => .ok (.d (.bl k), q.2)
      | _, _ => .no) := by
  refine peI (pe_cmpR (hK ▸ op_cmp hu o) ha hb hm) fun σ H Q ⟨G, ι, env, c, s, en, h⟩ => ?_
  refine ⟨G, ι, env, c, s, en, RE.imp (RE.bind h) fun v H1 ⟨G1, c1, w1, e1, s1, r1, h1⟩ => ?_⟩
  refine ⟨G1, ι, env, c1, s1, en.keep e1, RE.imp (RE.bind (h1.from e1)) fun u H2 ⟨G2, c2, w2, e2, s2, r2, h2⟩ => ?_⟩
  dsimp only at h2
  rw [cmp_as_op] at h2
  exact re_op e2 s2 (r1.keep e2) r2 h2
theorem rcmp_test {K : PySem.W.Frag} {o : CmpOp} {x y : V} {H : Hp} {Q1 : VK} {Q2 : Bool → Hp → Prop} (h : rOp2 K (cmpW o) x y H Q1) (i : ∀ k H', Q1 (.bl k) H' → Q2 k H') :
    rOp2 K (cmpW o) x y H fun x H' => ∃ k, x = .bl k ∧ Q2 k H' := by
  obtain ⟨G, ι, c, d, e, w, s, v1, v2, hw, q⟩ := h
  refine ⟨G, ι, c, d, e, w, s, v1, v2, hw, fun G' H' v a b z => ?_⟩
  unfold cmpW at hw
  cases hk : cmpD o d e with
  | none => rw [hk] at hw; cases hw
  | some k =>
    rw [hk] at hw; cases hw
    have z' : Dv K G' v (.bl k) := z
    cases z'
    exact ⟨k, rfl, i k H' (q G' H' _ a b (Dv.bl k))⟩
theorem bl_tru {G H G1 H1 : Hp} {ι : List Addr} {σ : L2.St} {c : Cells} {w : W} {k : Bool} {Q : Bool → Hp → Prop} {O : Addr → Prop} (e : Ex ι G H G1 H1) (s : SR C.K G1 ι H1 c) (r : WR C.K O G1 ι H1 w (.bl k))
    (h : RE C Eqv G ι H σ (ofO (truW c w) >>= fun k => .ok (k, c)) Q) : Q k H1 := by
  have e0 : w = .d (.bl k) := by
    cases w with
    | d x => cases (show Dv C.K G1 (.bl k) x from r); rfl
    | ref n => obtain ⟨a, _, z⟩ := r; cases z
    | fl xs => obtain ⟨a, _, z, _⟩ := r; cases z
    | fd xs => obtain ⟨a, _, z, _⟩ := r; cases z
    | sq xs => obtain ⟨a, _, z, _⟩ := r; cases z
  subst e0
  exact h.later e s rfl
theorem t_cmp {o : CmpOp} (hK : X.K = C.K) (hu : Big X.A) (ha : PE X a (tE C f)) (hb : PE X b (tE C g)) (hm : behindInMarks o b = false) :
    PT X (.Compare a [o] [b] pos) (tB C (asB fun env c => f env c >>= fun r => g env r.2 >>= fun q => match view q.2 r.1, view q.2 q.1 with
      | some x, some y => ofO (cmpD o x y) >>= fun k => .ok (.d (.bl k), q.2)
      | _, _ => .no)) := by
  refine ptI (pt_cmpR (hK ▸ op_cmp hu o) ha hb hm) fun σ H Q ⟨G, ι, env, c, s, en, h⟩ => ?_
  have h := RE.bind (rel := WR C.K) h
  refine ⟨G, ι, env, c, s, en, RE.imp (RE.bind h) fun v H1 ⟨G1, c1, w1, e1, s1, r1, h1⟩ => ?_⟩
  refine ⟨G1, ι, env, c1, s1, en.keep e1, RE.imp (RE.bind (h1.from e1)) fun u H2 ⟨G2, c2, w2, e2, s2, r2, h2⟩ => ?_⟩
  dsimp only at h2
  rw [cmp_as_op] at h2
  exact rcmp_test (re_op e2 s2 (r1.keep e2) r2 h2) fun k H' ⟨G', c', b, e', s', r', h'⟩ => bl_tru e' s' r' h'
/-- an expression of any other form, as a test -/
theorem t_of (hK : X.K = C.K) (ha : PE X a (tE C f)) (he : ∀ whole, isTrue a X.env whole = (do let v ← whole; standAt a.pos; holding [v] (truthy v))) : PT X a (tB C (asB f)) := by
  refine ptI (pt_truth ha he) fun σ H Q ⟨G, ι, env, c, s, en, h⟩ => ⟨G, ι, env, c, s, en, RE.imp (RE.bind (rel := WR C.K) h) fun v H1 ⟨G1, c1, w1, e1, s1, r1, h1⟩ => ?_⟩
  obtain ⟨k, hk, h1⟩ := RE.opt h1
  exact ⟨k, hK ▸ tru_of s1 r1 hk, h1.later e1 s1 rfl⟩
theorem j_neg (ha : PE X a (tE C f)) : PE X (.UnaryOp .USub a pos) (tE C fun env c => f env c >>= fun r => match view r.2 r.1 with
    | some (.int i) => .ok (.d (.int (-i)), r.2)
    | _ => .no) := by
  refine peI (pe_un un_neg ha) fun σ H Q ⟨G, ι, env, c, s, en, h⟩ => ?_
  refine ⟨G, ι, env, c, s, en, RE.imp (RE.bind h) fun v H1 ⟨G1, c1, w1, e1, s1, r1, h1⟩ => ?_⟩
  dsimp only at h1
  split at h1
  · rename_i i hv
    cases (vw_of s1 r1 hv).intE
    exact ⟨i, rfl, h1.later e1 s1 (v := V.int (-i)) (Dv.int _)⟩
  · exact h1.elim
theorem j_not (hK : X.K = C.K) (ha : PE X a (tE C f)) : PE X (.UnaryOp .Not a pos) (tE C fun env c => f env c >>= fun r => ofO (truW r.2 r.1) >>= fun k => .ok (.d (.bl (!k)), r.2)) := by
  refine peI (pe_notT ha) fun σ H Q ⟨G, ι, env, c, s, en, h⟩ => ?_
  refine ⟨G, ι, env, c, s, en, RE.imp (RE.bind h) fun v H1 ⟨G1, c1, w1, e1, s1, r1, h1⟩ => ?_⟩
  obtain ⟨k, hk, h1⟩ := RE.opt h1
  exact ⟨k, hK ▸ tru_of s1 r1 hk, h1.later e1 s1 (v := V.bl (!k)) (Dv.bl _)⟩
theorem t_not (ha : PT X a (tB C (asB f))) : PT X (.UnaryOp .Not a pos) (tB C (asB fun env c => f env c >>= fun r => ofO (truW r.2 r.1) >>= fun k => .ok (.d (.bl (!k)), r.2))) := by
  refine ptI (pt_not ha) fun σ H Q ⟨G, ι, env, c, s, en, h⟩ => ⟨G, ι, env, c, s, en, ?_⟩
  simp only [asB] at h ⊢
  cases hf : f env c with
  | no => rw [hf] at h; exact h
  | rs x y z => rw [hf] at h; exact h
  | ok r =>
    rw [hf] at h
    simp only [Res.bind_ok] at h ⊢
    cases ht : truW r.2 r.1 with
    | none => rw [ht] at h; exact h
    | some k =>
      rw [ht] at h
      simp only [ofO_some, Res.bind_ok, truW, view, D.truO, D.tru] at h ⊢
      exact fun G' H' v a b z => h G' H' (!v) a b (congrArg (!·) z)
theorem j_and {rest : List Expr} (hK : X.K = C.K) (ha : PE X a (tE C f)) (hb : PE X (.BoolOp .And (b :: rest) pos) (tE C g)) : PE X (.BoolOp .And (a :: b :: rest) pos) (tE C fun env c =>
    f env c >>= fun r => ofO (truW r.2 r.1) >>= fun k => if k = true then g env r.2 else .ok (r.1, r.2)) := by
  refine peI (pe_andT ha hb) fun σ H Q ⟨G, ι, env, c, s, en, h⟩ => ?_
  refine ⟨G, ι, env, c, s, en, RE.imp (RE.bind h) fun v H1 ⟨G1, c1, w1, e1, s1, r1, h1⟩ => ?_⟩
  obtain ⟨k, hk, h1⟩ := RE.opt h1
  refine ⟨k, hK ▸ tru_of s1 r1 hk, ?_⟩
  cases k with
  | true => rw [if_pos rfl] at h1 ⊢; exact ⟨G1, ι, env, c1, s1, en.keep e1, h1.from e1⟩
  | false => rw [if_neg Bool.false_ne_true] at h1 ⊢; exact h1.later e1 s1 r1
theorem j_or {rest : List Expr} (hK : X.K = C.K) (ha : PE X a (tE C f)) (hb : PE X (.BoolOp .Or (b :: rest) pos) (tE C g)) : PE X (.BoolOp .Or (a :: b :: rest) pos) (tE C fun env c =>
    f env c >>= fun r => ofO (truW r.2 r.1) >>= fun k => if k = true then .ok (r.1, r.2) else g env r.2) := by
  refine peI (pe_orT ha hb) fun σ H Q ⟨G, ι, env, c, s, en, h⟩ => ?_
  refine ⟨G, ι, env, c, s, en, RE.imp (RE.bind h) fun v H1 ⟨G1, c1, w1, e1, s1, r1, h1⟩ => ?_⟩
  obtain ⟨k, hk, h1⟩ := RE.opt h1
  refine ⟨k, hK ▸ tru_of s1 r1 hk, ?_⟩
  cases k with
  | true => rw [if_pos rfl] at h1 ⊢; exact h1.later e1 s1 r1
  | false => rw [if_neg Bool.false_ne_true] at h1 ⊢; exact ⟨G1, ι, env, c1, s1, en.keep e1, h1.from e1⟩
end
end Lf
end

section
set_option maxHeartbeats 4000000
/-! Further forms: tests joined, rows of values, displays, calls of built-ins, items, slices. -/
namespace Lf
open PySem PySem.Spec PyProof.Rows L2
section
variable {X : Cx} {C : Ct} {a b e : Expr} {pos : Pos} {f g h' : En → Cells → Res (W × Cells)}
theorem j_one {op : PySem.BoolOp} (ha : PE X a (tE C f)) : PE X (.BoolOp op [a] pos) (tE C f) := pe_one ha
theorem w_one {op : PySem.BoolOp} (ha : PT X a (tB C (asB f))) : PW X (.BoolOp op [a] pos) (tB C (asB f)) := by
  cases op
  · exact pw_and1 ha
  · exact pw_or1 ha
theorem w_and {rest : List Expr} (ha : PT X a (tB C (asB f))) (hb : PW X (.BoolOp .And (b :: rest) pos) (tB C (asB g))) : PW X (.BoolOp .And (a :: b :: rest) pos) (tB C (asB fun env c =>
    f env c >>= fun r => ofO (truW r.2 r.1) >>= fun k => if k = true then g env r.2 else .ok (r.1, r.2))) := by
  refine pwI (pw_and ha hb) fun σ H Q ⟨G, ι, env, c, s, en, h⟩ => ⟨G, ι, env, c, s, en, ?_⟩
  simp only [asB] at h ⊢
  cases hf : f env c with
  | no => rw [hf] at h; exact h
  | rs x y z => rw [hf] at h; exact h
  | ok r =>
    rw [hf] at h
    simp only [Res.bind_ok] at h ⊢
    cases ht : truW r.2 r.1 with
    | none => rw [ht] at h; exact h
    | some k =>
      rw [ht] at h
      simp only [ofO_some, Res.bind_ok] at h ⊢
      intro G1 H1 v e1 s1 z
      cases z
      cases k with
      | true => simp only [if_true] at h ⊢; exact ⟨G1, ι, env, r.2, s1, en.keep e1, h.from e1⟩
      | false =>
        simp only [Bool.false_eq_true, if_false, Res.bind_ok, ht, ofO_some] at h ⊢
        exact h.later e1 s1 rfl
theorem w_or {rest : List Expr} (ha : PT X a (tB C (asB f))) (hb : PW X (.BoolOp .Or (b :: rest) pos) (tB C (asB g))) : PW X (.BoolOp .Or (a :: b :: rest) pos) (tB C (asB fun env c =>
    f env c >>= fun r => ofO (truW r.2 r.1) >>= fun k => if k = true then .ok (r.1, r.2) else g env r.2)) := by
  refine pwI (pw_or ha hb) fun σ H Q ⟨G, ι, env, c, s, en, h⟩ => ⟨G, ι, env, c, s, en, ?_⟩
  simp only [asB] at h ⊢
  cases hf : f env c with
  | no => rw [hf] at h; exact h
  | rs x y z => rw [hf] at h; exact h
  | ok r =>
    rw [hf] at h
    simp only [Res.bind_ok] at h ⊢
    cases ht : truW r.2 r.1 with
    | none => rw [ht] at h; exact h
    | some k =>
      rw [ht] at h
      simp only [ofO_some, Res.bind_ok] at h ⊢
      intro G1 H1 v e1 s1 z
      cases z
      cases k with
      | false => simp only [Bool.false_eq_true, if_false] at h ⊢; exact ⟨G1, ι, env, r.2, s1, en.keep e1, h.from e1⟩
      | true =>
        simp only [if_true, Res.bind_ok, ht, ofO_some] at h ⊢
        exact h.later e1 s1 rfl
theorem j_ife {t : Expr} (ht : PT X t (tB C (asB f))) (ha : PE X a (tE C g)) (hb : PE X b (tE C h')) : PE X (.IfExp t a b pos) (tE C fun env c =>
    f env c >>= fun r => ofO (truW r.2 r.1) >>= fun k => if k = true then g env r.2 else h' env r.2) := by
  refine peI (pe_ifExp ht ha hb) fun σ H Q ⟨G, ι, env, c, s, en, h⟩ => ⟨G, ι, env, c, s, en, ?_⟩
  simp only [asB]
  dsimp only at h
  cases hf : f env c with
  | no => rw [hf] at h; exact h
  | rs x y z => rw [hf] at h; exact h
  | ok r =>
    rw [hf] at h
    simp only [Res.bind_ok] at h ⊢
    cases ht : truW r.2 r.1 with
    | none => rw [ht] at h; exact h
    | some k =>
      rw [ht] at h
      simp only [ofO_some, Res.bind_ok] at h ⊢
      intro G1 H1 v e1 s1 z
      cases z
      cases k with
      | true => simp only [if_true] at h ⊢; exact ⟨G1, ι, env, r.2, s1, en.keep e1, h.from e1⟩
      | false => simp only [Bool.false_eq_true, if_false] at h ⊢; exact ⟨G1, ι, env, r.2, s1, en.keep e1, h.from e1⟩

/-! ### kept in other data -/
theorem frzW_ok {G0 H0 G H : Hp} {ι : List Addr} {c : Cells} {w w' : W} {v : V} (e : Ex ι G0 H0 G H) (s : SR C.K G ι H c) (r : WR C.K (dm H0) G ι H w v) (hw : frzW w = some w') :
    ∃ G', Ex ι G0 H0 G' H ∧ SR C.K G' ι H c ∧ Same G G' ∧ WR C.K (dm H0) G' ι H w' v ∧ slotW w' := by
  cases w with
  | d x => cases hw; exact ⟨G, e, s, fun _ _ h => h, r, trivial⟩
  | ref n => cases hw; exact ⟨G, e, s, fun _ _ h => h, r, trivial⟩
  | sq n => cases hw; exact ⟨G, e, s, fun _ _ h => h, r, trivial⟩
  | fd k => cases hw
  | fl xs =>
    cases hw
    obtain ⟨p, ys, rfl, g1, g2, g3, g4, g5⟩ := r
    refine ⟨upd G p (.lst ys), ⟨e.g.trans (sameG g1), fun q u hq => ?_, e.fr, e.kp⟩, s.keepG g4 g1 g2, sameG g1, .lst (.inl upd_same) (g5.mono (sameG g1)), trivial⟩
    by_cases z : q = p
    · subst z
      refine .inr (.inl ?_)
      cases hz : H0 q with
      | none => rfl
      | some o => exact absurd (show dm H0 q by unfold dm; rw [hz]; simp) g3
    · rw [upd_ne z] at hq; exact e.gn q u hq

/-! ### rows of values -/
theorem WR.same {O : Addr → Prop} {G G' H : Hp} {ι : List Addr} (g : Same G G') : ∀ {w : W} {v : V}, slotW w → WR C.K O G ι H w v → WR C.K O G' ι H w v
  | .d _, _, _, h => Dv.mono g h
  | .ref _, _, _, h => h
  | .sq _, _, _, ⟨a, ys, e1, e2, e3⟩ => ⟨a, ys, e1, sqL_same g e2, e3.mono g⟩
  | .fl _, _, h, _ => h.elim
  | .fd _, _, h, _ => h.elim
theorem l_nil : PA X [] (tA C fun _ c => .ok ([], c)) := paI pa_nil fun σ H Q ⟨G, ι, env, c, s, en, h⟩ => h.now s (v := []) WRs.nil
theorem l_cons {es : List Expr} {fl : En → Cells → Res (List W × Cells)} (ha : PE X a (tE C f)) (hr : PA X es (tA C fl)) (hs : ∀ env, starEach (a :: es) env = (false, eval a env) :: starEach es env) :
    PA X (a :: es) (tA C fun env c => f env c >>= fun r => ofO (frzW r.1) >>= fun w => fl env r.2 >>= fun q => .ok (w :: q.1, q.2)) := by
  refine paI (pa_cons ha hr (hs _)) fun σ H Q ⟨G, ι, env, c, s, en, h⟩ => ?_
  refine ⟨G, ι, env, c, s, en, RE.imp (RE.bind h) fun v H1 ⟨G1, c1, w1, e1, s1, r1, h1⟩ => ?_⟩
  obtain ⟨w, hw, h1⟩ := RE.opt h1
  obtain ⟨G2, e2, s2, g2, r2, sl⟩ := frzW_ok e1 s1 r1 hw
  refine ⟨G2, ι, env, c1, s2, en.keep e2, RE.imp (RE.bind (h1.from e2)) fun vs H2 ⟨G3, c3, ws, e3, s3, r3, h3⟩ => ?_⟩
  refine RE.later (h3.from .refl) e3 s3 (.cons ((r2.keep e3).slot sl) (r3.weak fun _ z => z))
end
end Lf
end

section
set_option maxHeartbeats 4000000
/-! Displays, calls of built-ins, items, slices. -/
namespace Lf
open PySem PySem.Spec PyProof.Rows L2
section
variable {X : Cx} {C : Ct} {a b e : Expr} {pos : Pos} {f g : En → Cells → Res (W × Cells)} {fl : En → Cells → Res (List W × Cells)} {es : List Expr}
theorem frzs_ok {O : Addr → Prop} {G H : Hp} {ι : List Addr} : ∀ {ws : List W} {vs : List V} {xs : List D}, WRs C.K O G ι H ws vs → frzs ws = some xs → Dvs C.K G vs xs
  | [], _, _, h, e => by cases h; cases e; exact .nil
  | .d x :: ws, _, _, h, e => by
    cases h with
    | cons a b =>
      simp only [frzs] at e
      split at e
      · rename_i xs hx; cases e; exact .cons a (frzs_ok b hx)
      · cases e
  | .ref _ :: _, _, _, _, e => by simp [frzs] at e
  | .fl _ :: _, _, _, _, e => by simp [frzs] at e
  | .fd _ :: _, _, _, _, e => by simp [frzs] at e
  | .sq _ :: _, _, _, _, e => by simp [frzs] at e
theorem okLen_le {xs : List D} (h : okLen xs = true) : xs.length ≤ sizeLine := by rw [← line_eq]; exact of_decide_eq_true h
theorem j_tup {k : Nat} (h : PA X es (tA C fl)) : PE X (.Tuple es k pos) (tE C fun env c => fl env c >>= fun r => ofO (frzs r.1) >>= fun xs => ofO (tupW xs) >>= fun w => .ok (w, r.2)) := by
  refine peI (pe_tupF h) fun σ H Q ⟨G, ι, env, c, s, en, h⟩ => ⟨G, ι, env, c, s, en, RE.imp (RE.bind h) fun vs H1 ⟨G1, c1, ws, e1, s1, r1, h1⟩ => ?_⟩
  obtain ⟨xs, hx, h1⟩ := RE.opt h1
  obtain ⟨w, hw, h1⟩ := RE.opt h1
  have dv := frzs_ok r1 hx
  unfold tupW at hw
  split at hw
  · rename_i hl
    cases hw
    exact ⟨by rw [dv.length]; exact okLen_le hl, Fin.tup (fun G' H' v a b z => h1.later (e1.trans a) b z) s1 dv⟩
  · cases hw
theorem j_lst (h : PA X es (tA C fl)) : PE X (.List es pos) (tE C fun env c => fl env c >>= fun r => ofO (frzs r.1) >>= fun xs => ofO (lstW xs) >>= fun w => .ok (w, r.2)) := by
  refine peI (pe_lst h) fun σ H Q ⟨G, ι, env, c, s, en, h⟩ => ⟨G, ι, env, c, s, en, RE.imp (RE.bind h) fun vs H1 ⟨G1, c1, ws, e1, s1, r1, h1⟩ => ?_⟩
  obtain ⟨xs, hx, h1⟩ := RE.opt h1
  obtain ⟨w, hw, h1⟩ := RE.opt h1
  have dv := frzs_ok r1 hx
  unfold lstW at hw
  split at hw
  · rename_i hl
    cases hw
    exact ⟨by rw [dv.length]; exact okLen_le hl, Fin.lst (fun G' H' v a b z => h1.later (e1.trans a) b (z.weak e1.kp)) s1 dv⟩
  · cases hw

/-! ### built-ins -/
abbrev Vws (K : PySem.W.Frag) (G H : Hp) : List V → List D → Prop := Paired (Vw K G H)
theorem views_ok {O : Addr → Prop} {G H : Hp} {ι : List Addr} {c : Cells} (s : SR C.K G ι H c) : ∀ {ws : List W} {vs : List V} {xs : List D}, WRs C.K O G ι H ws vs → views c ws = some xs → Vws C.K G H vs xs
  | [], _, _, h, e => by cases h; cases e; exact .nil
  | w :: ws, _, _, h, e => by
    cases h with
    | cons a b =>
      simp only [views] at e
      split at e
      · rename_i x xs h1 h2; cases e; exact .cons (vw_of s a h1) (views_ok s b h2)
      · cases e
def rBi (K : PySem.W.Frag) (b : Bi) : List V → Hp → VK → Prop := fun vs H Q => ∃ G ι c ds w, SR K G ι H c ∧ Vws K G H vs ds ∧ biD b ds = some w ∧ Fin K G H ι c w Q
/-- the built-in behind the name -/
def Bi.val : Bi → Value
  | .len => .builtin "len"
  | .tuple => .type "tuple"
  | .list => .type "list"
  | .int => .type "int"
  | .abs => .builtin "abs"
  | .repr => .builtin "repr"
  | .max2 => .builtin "max"
  | .min2 => .builtin "min"
  | .str => .type "str"
def Bi.name : Bi → Str
  | .len => "len"
  | .tuple => "tuple"
  | .list => "list"
  | .int => "int"
  | .abs => "abs"
  | .repr => "repr"
  | .max2 => "max"
  | .min2 => "min"
  | .str => "str"
theorem vws1 {K : PySem.W.Frag} {G H : Hp} {vs : List V} {d : D} (h : Vws K G H vs [d]) : ∃ v, vs = [v] ∧ Vw K G H v d := by
  cases h with | cons a b => cases b; exact ⟨_, rfl, a⟩
theorem vws2 {K : PySem.W.Frag} {G H : Hp} {vs : List V} {d e : D} (h : Vws K G H vs [d, e]) : ∃ v u, vs = [v, u] ∧ Vw K G H v d ∧ Vw K G H u e := by
  cases h with | cons a b => cases b with | cons b c => cases c; exact ⟨_, _, rfl, a, b⟩
mutual
theorem py_dep : ∀ d : D, d.py.depth = d.dep
  | .non => rfl
  | .bl _ => rfl
  | .int _ => rfl
  | .str _ => rfl
  | .tup xs => by simp only [D.py, PyData.depth, D.dep]; rw [pys_dep xs]
  | .lst xs => by simp only [D.py, PyData.depth, D.dep]; rw [pys_dep xs]
theorem pys_dep : ∀ ds : List D, PyData.depthAll (D.pys ds) = D.deps ds
  | [] => rfl
  | d :: ds => by simp only [D.pys, PyData.depthAll, D.deps]; rw [py_dep d, pys_dep ds]
end
mutual
theorem py_nodict : ∀ d : D, d.py.hasDict = false
  | .non => rfl
  | .bl _ => rfl
  | .int _ => rfl
  | .str _ => rfl
  | .tup xs => by simp only [D.py, PyData.hasDict]; exact pys_nodict xs
  | .lst xs => by simp only [D.py, PyData.hasDict]; exact pys_nodict xs
theorem pys_nodict : ∀ ds : List D, PyData.hasDictAll (D.pys ds) = false
  | [] => rfl
  | d :: ds => by simp only [D.pys, PyData.hasDictAll]; rw [py_nodict d, pys_nodict ds]; rfl
end
theorem repr_any {prog : Program} {w : World} {A : Around} {E : Value → Shared → Prop} {s : Shared} {Q : Value → Shared → Prop} {v : Value} {d : D} {as : List Addr} (hu : Big A) (hg : A.guards = some []) (r : Reads s.heap v d.py as) (hr : d.repOk = true)
    (hQ : ∀ h' u tk, (∀ b o, s.heap.get? b = some o → h'.get? b = some o) → Q (.str d.shown u) { s with heap := h', toks := tk }) : wpAny (model prog w) A (call (.builtin "repr") [v]) Q E s := by
  unfold D.repOk at hr
  simp only [Bool.and_eq_true, decide_eq_true_eq] at hr
  obtain ⟨⟨h1, h2⟩, h3⟩ := hr
  have h3 : d.py.shown.length ≤ sizeLine := by rw [← line_eq]; exact h3
  have same : ∀ b o, s.heap.get? b = some o → s.heap.get? b = some o := fun _ _ h => h
  have hd := py_dep d
  cases d with
  | non =>
    simp only [D.py] at r; cases r
    exact PySem.P.repr_of_none (by have := hQ s.heap s.toks (s.toks + 1) same; simpa only [D.shown, D.py, PyData.shown] using this)
  | bl b =>
    simp only [D.py] at r; cases r
    exact PySem.P.repr_of_bool (by have := hQ s.heap s.toks (s.toks + 1) same; simpa only [D.shown, D.py, PyData.shown] using this)
  | int i =>
    simp only [D.py] at r; cases r
    exact PySem.P.repr_of_int (by simpa [D.py, PyData.showable] using h2) (by have := hQ s.heap s.toks (s.toks + 1) same; simpa only [D.shown, D.py, PyData.shown] using this)
  | str x =>
    simp only [D.py] at r; cases r
    exact PySem.P.repr_of_str (by have := hQ s.heap s.toks (s.toks + 1) same; simpa only [D.shown, D.py, PyData.shown] using this) (by simpa only [D.py, PyData.shown] using h3)
  | tup xs =>
    have r' := r
    simp only [D.py] at r; cases r
    exact repr_of_reads' r' h2 (fun q => absurd q (by rw [py_nodict]; exact nofun)) hg (by rw [hd]; unfold Big at hu; omega) same hQ h3
  | lst xs =>
    have r' := r
    simp only [D.py] at r; cases r
    exact repr_of_reads' r' h2 (fun q => absurd q (by rw [py_nodict]; exact nofun)) hg (by rw [hd]; unfold Big at hu; omega) same hQ h3
theorem call_bi (hc : X.calm = true) (hu : Big X.A) (hg : X.A.guards = some []) (b : Bi) : CallR X b.val (rBi X.K b) := by
  intro pins s σ H vs us Q I r h
  obtain ⟨G, ι, c, ds, w, sr, v1, hw, q⟩ := h
  unfold biD at hw
  split at hw
  · cases hw
    obtain ⟨v, rfl, x1⟩ := vws1 v1
    obtain ⟨a, ys, rfl, h1, d1⟩ := x1.lstE
    exact call_len pins s σ H _ us Q I r ⟨_, ys.length, rfl, .inl ⟨ys, .inl h1, rfl⟩, by rw [d1.length]; exact q.now sr (.int _)⟩
  · cases hw
    obtain ⟨v, rfl, x1⟩ := vws1 v1
    obtain ⟨a, ys, rfl, h1, d1⟩ := x1.tupE
    exact call_len pins s σ H _ us Q I r ⟨_, ys.length, rfl, .inr ⟨ys, sqT_same sr.sub h1, rfl⟩, by rw [d1.length]; exact q.now sr (.int _)⟩
  · split at hw
    · rename_i hl
      cases hw
      obtain ⟨v, rfl, x1⟩ := vws1 v1
      cases x1.strE
      exact call_len_str pins s σ H _ us Q I r ⟨_, rfl, by rw [← line_eq]; exact hl, q.now sr (.int _)⟩
    · cases hw
  · cases hw
    obtain ⟨v, rfl, x1⟩ := vws1 v1
    obtain ⟨a, ys, rfl, h1, d1⟩ := x1.lstE
    exact call_tupleF pins s σ H _ us Q I r ⟨a, ys, rfl, .inl ⟨.inl h1, q.tup sr d1⟩⟩
  · cases hw
    obtain ⟨v, rfl, x1⟩ := vws1 v1
    obtain ⟨a, ys, rfl, h1, d1⟩ := x1.tupP
    exact call_tupleF pins s σ H _ us Q I r ⟨a, ys, rfl, .inr ⟨sqT_same sr.sub h1.sqT, q.now sr (.tup h1 d1)⟩⟩
  · cases hw
    obtain ⟨v, rfl, x1⟩ := vws1 v1
    obtain ⟨a, ys, rfl, h1, d1⟩ := x1.lstE
    exact call_list_of pins s σ H _ us Q I r ⟨a, ys, rfl, .inl (.inl h1), q.lst sr d1⟩
  · cases hw
    obtain ⟨v, rfl, x1⟩ := vws1 v1
    obtain ⟨a, ys, rfl, h1, d1⟩ := x1.tupE
    exact call_list_of pins s σ H _ us Q I r ⟨a, ys, rfl, .inr (sqT_same sr.sub h1), q.lst sr d1⟩
  · cases hw
    obtain ⟨v, rfl, x1⟩ := vws1 v1
    cases x1.intE
    exact call_int1 pins s σ H _ us Q I r (.inl ⟨_, rfl, q.now sr (.int _)⟩)
  · cases hw
    obtain ⟨v, rfl, x1⟩ := vws1 v1
    cases x1.blE
    exact call_int1 pins s σ H _ us Q I r (.inr ⟨_, rfl, q.now sr (.int _)⟩)
  · cases hw
    obtain ⟨v, rfl, x1⟩ := vws1 v1
    cases x1.intE
    exact call_abs pins s σ H _ us Q I r ⟨_, rfl, q.now sr (.int _)⟩
  · split at hw
    · rename_i hr
      cases hw
      obtain ⟨v, rfl, x1⟩ := vws1 v1
      obtain ⟨u, rfl, rx⟩ := vals1 r
      obtain ⟨as, rd⟩ := Dp.reads I _ _ _ (x1.dv sr.sub).dp rx
      exact repr_any hu hg rd hr fun h' u tk hk => ⟨.str _, H, I.kept hk, ⟨_, rfl⟩, q.now sr (.str _)⟩
    · cases hw
  · cases hw
    obtain ⟨v, u, rfl, x1, x2⟩ := vws2 v1
    cases x1.intE; cases x2.intE
    exact call_max2 hc pins s σ H _ us Q I r ⟨_, _, rfl, q.now sr (.int _)⟩
  · cases hw
    obtain ⟨v, u, rfl, x1, x2⟩ := vws2 v1
    cases x1.intE; cases x2.intE
    exact call_min2 hc pins s σ H _ us Q I r ⟨_, _, rfl, q.now sr (.int _)⟩
  · split at hw
    · rename_i hl
      cases hw
      obtain ⟨v, rfl, x1⟩ := vws1 v1
      cases x1.intE
      exact call_str_int pins s σ H _ us Q I r ⟨_, rfl, hl, q.now sr (.str _)⟩
    · cases hw
  · cases hw
    obtain ⟨v, rfl, x1⟩ := vws1 v1
    cases x1.strE
    exact SkE.call_str_str pins s σ H _ us Q I r ⟨_, rfl, q.now sr (.str _)⟩
  · cases hw
    obtain ⟨v, rfl, x1⟩ := vws1 v1
    cases x1.blE
    obtain ⟨u, rfl, rx⟩ := vals1 r
    cases rx
    exact PySem.P.str_of_bool ⟨.str _, H, I.tok _, ⟨_, rfl⟩, q.now sr (.str _)⟩
  · cases hw
theorem j_bi {es : List Expr} {p : Pos} (hK : X.K = C.K) (hc : X.calm = true) (hu : Big X.A) (hg : X.A.guards = some []) (b : Bi) (hgl : Gl X b.name) (hm : X.mg b.name = none) (ha : PA X (e :: es) (tA C fl))
    (he : starEach (e :: es) X.env = (false, eval e X.env) :: starEach es X.env) (hpl : (backTo pos (starEach es X.env)).any (·.1) = false) :
    PE X (.Call (.Name b.name p) (e :: es) [] pos) (tE C fun env c => fl env c >>= fun r => ofO (views r.2 r.1) >>= fun xs => ofO (biD b xs) >>= fun w => .ok (w, r.2)) := by
  have base : PE X (.Call (.Name b.name p) (e :: es) [] pos) (tCB (rBi X.K b) (tA C fl)) := by
    have q := call_bi hc hu hg b
    cases b
    · exact pe_callB q hgl hm (by decide +kernel) ha (by decide) (by decide) he hpl
    · exact pe_callTy q hgl hm (by decide +kernel) ha (by decide) (by decide) he hpl
    · exact pe_callTy q hgl hm (by decide +kernel) ha (by decide) (by decide) he hpl
    · exact pe_callTy q hgl hm (by decide +kernel) ha (by decide) (by decide) he hpl
    · exact pe_callB q hgl hm (by decide +kernel) ha (by decide) (by decide) he hpl
    · exact pe_callB q hgl hm (by decide +kernel) ha (by decide) (by decide) he hpl
    · exact pe_callB q hgl hm (by decide +kernel) ha (by decide) (by decide) he hpl
    · exact pe_callB q hgl hm (by decide +kernel) ha (by decide) (by decide) he hpl
    · exact pe_callTy q hgl hm (by decide +kernel) ha (by decide) (by decide) he hpl
  refine peI base fun σ H Q ⟨G, ι, env, c, s, en, h⟩ => ⟨G, ι, env, c, s, en, RE.imp (RE.bind h) fun vs H1 ⟨G1, c1, ws, e1, s1, r1, h1⟩ => ?_⟩
  obtain ⟨xs, hx, h1⟩ := RE.opt h1
  obtain ⟨w, hw, h1⟩ := RE.opt h1
  rw [hK]
  exact ⟨G1, ι, c1, xs, w, s1, views_ok s1 r1 hx, hw, fun G' H' v a b z => h1.later (e1.trans a) b (z.weak e1.kp)⟩

/-! ### items, slices -/
theorem kvs_none {K : PySem.W.Frag} {G : Hp} {k : D} (hk : keyD k = none) : ∀ {ys : List (L2.Key × V)} {kvs : List (D × D)}, Kvs K G ys kvs → dGet kvs k = none
  | [], [], _ => rfl
  | [], _ :: _, h => by cases h
  | _ :: _, [], h => by cases h
  | p :: ys, (qa, qv) :: kvs, h => by
    cases h with
    | cons a b =>
      simp only [dGet]
      rw [a.1, hk, if_neg nofun]
      exact kvs_none hk b
theorem j_idx (hK : X.K = C.K) (hu : Big X.A) (ha : PE X a (tE C f)) (hb : PE X b (tE C g)) (hs : PlainIx b) : PE X (.Subscript a b pos) (tE C fun env c => f env c >>= fun r => g env r.2 >>= fun q =>
    match viewD q.2 r.1, view q.2 q.1 with
    | some kvs, some k => ofO (dGet kvs k) >>= fun x => .ok (.d x, q.2)
    | none, some k => (match view q.2 r.1 with
      | some x => ofO (idxD x k) >>= fun y => .ok (.d y, q.2)
      | none => .no)
    | _, _ => .no) := by
  have hr : IxR X (fun x y H Q => rIxO X.K x y H Q ∨ ∃ a v, x = .ref a ∧ DGet H a y (some v) ∧ Q v H) := ix_all.or (ix_dict (by unfold Big at hu; omega))
  refine peI (pe_ix hr ha hb hs) fun σ H Q ⟨G, ι, env, c, s, en, h⟩ => ?_
  refine ⟨G, ι, env, c, s, en, RE.imp (RE.bind h) fun v H1 ⟨G1, c1, w1, e1, s1, r1, h1⟩ => ?_⟩
  refine ⟨G1, ι, env, c1, s1, en.keep e1, RE.imp (RE.bind (h1.from e1)) fun u H2 ⟨G2, c2, w2, e2, s2, r2, h2⟩ => ?_⟩
  have r1 := r1.keep e2
  dsimp only at h2
  split at h2
  · rename_i kvs k hd hk
    obtain ⟨x, hx, h2⟩ := RE.opt h2
    obtain ⟨p, ys, rfl, hp, kv⟩ := vwD_of s2 r1 hd
    have vk := vw_of s2 r2 hk
    cases hz : keyD k with
    | none =>
      exact absurd hx (by rw [kvs_none hz kv]; exact nofun)
    | some z =>
      obtain ⟨v, hv, dv⟩ := kvs_get hz kv hx
      refine .inr ⟨p, v, rfl, .inl ⟨ys, z, .inl hp, key_of_v vk hz, hv.symm⟩, h2.later e2 s2 dv⟩
  · rename_i k hd hk
    split at h2
    · rename_i x hx
      obtain ⟨y, hy, h2⟩ := RE.opt h2
      rw [hK]
      exact .inl ⟨G2, ι, c2, x, k, .d y, s2, vw_of s2 r1 hx, vw_of s2 r2 hk, by simp only [hy, Option.map_some], fun G' H' v a b z => h2.later (e2.trans a) b z⟩
    · exact h2.elim
  · exact h2.elim
theorem o_nop : PO X none (tO C fun _ c => .ok (none, c)) := poI po_none fun σ H Q ⟨G, ι, env, c, s, en, h⟩ => h.now s rfl
theorem o_sb (ha : PE X a (tE C f)) : PO X (some a) (tO C fun env c => f env c >>= fun r => match view r.2 r.1 with
    | some (.int i) => .ok (some i, r.2)
    | _ => .no) := by
  refine poI (po_some ha) fun σ H Q ⟨G, ι, env, c, s, en, h⟩ => ⟨G, ι, env, c, s, en, RE.imp (RE.bind h) fun v H1 ⟨G1, c1, w1, e1, s1, r1, h1⟩ => ?_⟩
  dsimp only at h1
  split at h1
  · rename_i i hv
    cases (vw_of s1 r1 hv).intE
    exact ⟨i, rfl, h1.later e1 s1 rfl⟩
  · exact h1.elim
theorem j_slc {lo hi : Option Expr} {fo go : En → Cells → Res (Option Int × Cells)} {p2 : Pos} (hK : X.K = C.K) (ha : PE X a (tE C f)) (hl : PO X lo (tO C fo)) (hh : PO X hi (tO C go)) : PE X (.Subscript a (.Slice lo hi none p2) pos) (tE C fun env c =>
    f env c >>= fun r => fo env r.2 >>= fun l => go env l.2 >>= fun h => match viewS h.2 r.1 with
    | some x => ofO (slcD x l.1 h.1) >>= fun w => .ok (w, h.2)
    | none => .no) := by
  refine peI (pe_slice (hK ▸ sl_all) ha hl hh) fun σ H Q ⟨G, ι, env, c, s, en, h⟩ => ?_
  refine ⟨G, ι, env, c, s, en, RE.imp (RE.bind h) fun v H1 ⟨G1, c1, w1, e1, s1, r1, h1⟩ => ?_⟩
  refine ⟨G1, ι, env, c1, s1, en.keep e1, RE.imp (RE.bind (h1.from e1)) fun l H2 ⟨G2, c2, l2, e2, s2, r2, h2⟩ => ?_⟩
  refine ⟨G2, ι, env, c2, s2, (en.keep e1).keep e2, RE.imp (RE.bind (h2.from e2)) fun u H3 ⟨G3, c3, u2, e3, s3, r3, h3⟩ => ?_⟩
  cases r2; cases r3
  dsimp only at h3
  split at h3
  · rename_i x hx
    obtain ⟨w, hw, h3⟩ := RE.opt h3
    exact ⟨G3, ι, c3, x, w, s3, vwS_of s3 ((r1.keep e2).keep e3) hx, hw, fun G' H' v a b z => h3.later (e3.trans a) b (z.weak e3.kp)⟩
  · exact h3.elim
end
end Lf
end

section
set_option maxHeartbeats 4000000
/-! Statements. -/
namespace Lf
open PySem PySem.Spec PyProof.Rows L2
/-- from one state to a later one, with new cells -/
structure Ext (ι ι' : List Addr) (G H G' H' : Hp) : Prop where
  ex : Ex ι G H G' H'
  ap : ∃ e, ι' = ι ++ e ∧ ∀ a ∈ e, H a = none
section
variable {ι ι1 ι2 : List Addr} {G H G1 H1 G2 H2 : Hp}
theorem Ext.refl : Ext ι ι G H G H := ⟨.refl, [], by simp, by simp⟩
theorem Ext.of (e : Ex ι G H G1 H1) : Ext ι ι G H G1 H1 := ⟨e, [], by simp, by simp⟩
theorem Ext.trans (a : Ext ι ι1 G H G1 H1) (b : Ext ι1 ι2 G1 H1 G2 H2) : Ext ι ι2 G H G2 H2 := by
  obtain ⟨ea, e1, rfl, n1⟩ := a
  obtain ⟨eb, e2, rfl, n2⟩ := b
  have hn : ∀ {x : Addr}, H1 x = none → H x = none := fun {x} h => by
    cases e : H x with
    | none => rfl
    | some o => exact absurd h (ea.kp x (by rw [e]; simp))
  refine ⟨⟨ea.g.trans eb.g, fun x o h => ?_, fun x o h n => ?_, fun x h => eb.kp x (ea.kp x h)⟩, e1 ++ e2, by simp, fun x hx => ?_⟩
  · rcases eb.gn x o h with q | q | q
    · exact ea.gn x o q
    · exact .inr (.inl (hn q))
    · rcases List.mem_append.mp q with q | q
      · exact .inr (.inr q)
      · exact .inr (.inl (n1 x q))
  · refine eb.fr x o (ea.fr x o h n) fun q => ?_
    rcases List.mem_append.mp q with q | q
    · exact n q
    · have := n1 x q; rw [h] at this; cases this
  · rcases List.mem_append.mp hx with q | q
    · exact n1 x q
    · exact hn (n2 x q)
end
section
variable {K : PySem.W.Frag} {O : Addr → Prop} {ι : List Addr} {G H : Hp} {c : Cells}
theorem WR.more {e : List Addr} : ∀ {w : W} {v : V}, slotW w → WR K O G ι H w v → WR K O G (ι ++ e) H w v
  | .d _, _, _, h => h
  | .ref n, _, _, ⟨a, h1, h2⟩ => ⟨a, by rw [List.getElem?_append_left (List.getElem?_eq_some_iff.mp h1).1]; exact h1, h2⟩
  | .sq _, _, _, h => h
  | .fl _, _, h, _ => h.elim
  | .fd _, _, h, _ => h.elim
theorem EnR.more {e : List Addr} {env : En} {σ : L2.St} (h : EnR K G ι H env σ) : EnR K G (ι ++ e) H env σ :=
  ⟨h.1, fun i w q => let ⟨s, v, a, b⟩ := h.2 i w q; ⟨s, v, a, b.more s⟩⟩
theorem WR.heap {O' : Addr → Prop} {H' : Hp} : ∀ {w : W} {v : V}, slotW w → WR K O G ι H w v → WR K O' G ι H' w v
  | .d _, _, _, h => h
  | .ref _, _, _, h => h
  | .sq _, _, _, h => h
  | .fl _, _, h, _ => h.elim
  | .fd _, _, h, _ => h.elim
theorem EnR.heap {H' : Hp} {env : En} {σ : L2.St} (h : EnR K G ι H env σ) : EnR K G ι H' env σ :=
  ⟨h.1, fun i w q => let ⟨s, v, a, b⟩ := h.2 i w q; ⟨s, v, a, b.heap s⟩⟩
theorem EnR.same {G' : Hp} (g : Same G G') {env : En} {σ : L2.St} (h : EnR K G ι H env σ) : EnR K G' ι H env σ :=
  ⟨h.1, fun i w q => let ⟨s, v, a, b⟩ := h.2 i w q; ⟨s, v, a, b.same (C := ⟨K, fun _ _ _ _ _ => True, fun _ _ _ _ => True⟩) g s⟩⟩
theorem EnR.later {ι1 : List Addr} {G1 H1 : Hp} (e : Ext ι ι1 G H G1 H1) {env : En} {σ : L2.St} (h : EnR K G ι H env σ) : EnR K G1 ι1 H1 env σ := by
  obtain ⟨ex, e1, rfl, _⟩ := e
  exact (h.keep ex).more
theorem EnR.put {env : En} {σ : L2.St} {i : Nat} {w : W} {v : V} (h : EnR K G ι H env σ) (s : slotW w) (r : WR K O G ι H w v) : EnR K G ι H (env.set i (some w)) (σ.set i (some v)) := by
  refine ⟨by simp [h.1], fun j u q => ?_⟩
  by_cases hj : i = j
  · subst hj
    have hl : i < env.length := by
      have := (List.getElem?_eq_some_iff.mp q).1
      simpa using this
    rw [List.getElem?_set_self hl] at q
    cases q
    exact ⟨s, v, List.getElem?_set_self (by rw [← h.1]; exact hl), r.heap s⟩
  · rw [List.getElem?_set_ne hj] at q
    obtain ⟨a, u', b, d⟩ := h.2 j u q
    exact ⟨a, u', by rw [List.getElem?_set_ne hj]; exact b, d⟩
theorem SR.alloc (s : SR K G ι H c) {a : Addr} {x : Cell} (g : G a = none) (n : a ∉ ι) (h : H a ≠ none) (r : CellR K G H a x) : SR K G (ι ++ [a]) H (c ++ [x]) := by
  refine ⟨s.sub, by simp [s.len], ?_, fun b hb => ?_, fun k y b h1 h2 => ?_⟩
  · rw [List.nodup_append]
    exact ⟨s.nd, by simp, fun b hb d hd => by simp at hd; subst hd; exact fun e => n (e ▸ hb)⟩
  · rcases List.mem_append.mp hb with q | q
    · exact s.has b q
    · simp at q; subst q; exact h
  · by_cases hk : k < c.length
    · rw [List.getElem?_append_left hk] at h1
      rw [List.getElem?_append_left (by rw [s.len]; exact hk)] at h2
      exact s.cel k y b h1 h2
    · have hk' : k = c.length := by
        have := (List.getElem?_eq_some_iff.mp h1).1
        simp at this; omega
      subst hk'
      rw [List.getElem?_append_right (Nat.le_refl _)] at h1
      rw [← s.len, List.getElem?_append_right (Nat.le_refl _)] at h2
      simp at h1 h2
      subst h1; subst h2
      exact ⟨fun _ => g, r⟩
end
section
variable (C : Ct)
def RS (G : Hp) (ι : List Addr) (H : Hp) (r : Res (Fl × En × Cells)) (D : Ends) : Prop := match r with
  | .ok (fl, env', c') => ∀ G' ι' H' σ', Ext ι ι' G H G' H' → SR C.K G' ι' H' c' → EnR C.K G' ι' H' env' σ' → (match fl with
    | .nx => D.nx σ' H'
    | .bk => D.bk σ' H'
    | .ct => D.ct σ' H'
    | .ret w => ∀ v, WR C.K (dm H) G' ι' H' w v → D.rt v H')
  | .rs x y c' => ∀ G' ι' H' σ' cls d, Ext ι ι' G H G' H' → SR C.K G' ι' H' c' → C.Z x y cls d H' → C.W cls d σ' H'
  | .no => False
def tS (f : En → Cells → Res (Fl × En × Cells)) : TS := fun D σ H => ∃ G ι env c, SR C.K G ι H c ∧ EnR C.K G ι H env σ ∧ RS C G ι H (f env c) D
/-- a store: w, told from the state (G₀, H₀) on, into a place -/
def tG (st : W → En → Cells → Res (En × Cells)) : TG := fun v σ H Q => ∃ Gz Hz G ι env c w, Ex ι Gz Hz G H ∧ SR C.K G ι H c ∧ EnR C.K G ι H env σ ∧ WR C.K (dm Hz) G ι H w v ∧ (match st w env c with
  | .ok (env', c') => ∀ G' ι' H' σ', Ext ι ι' Gz Hz G' H' → SR C.K G' ι' H' c' → EnR C.K G' ι' H' env' σ' → Q σ' H'
  | .rs x y c' => ∀ G' ι' H' σ' cls d, Ext ι ι' Gz Hz G' H' → SR C.K G' ι' H' c' → C.Z x y cls d H' → C.W cls d σ' H'
  | .no => False)
end
section
variable {C : Ct} {ι ι1 : List Addr} {G H G1 H1 : Hp} {σ : L2.St} {β γ : Type} {rel : Rl β γ} {X : Cx} {pos : Pos}
theorem RS.from {r : Res (Fl × En × Cells)} {D : Ends} (e : Ext ι ι1 G H G1 H1) (h : RS C G ι H r D) : RS C G1 ι1 H1 r D := by
  cases r with
  | ok p =>
    obtain ⟨fl, env', c'⟩ := p
    intro G' ι' H' σ' a b d
    have q := h G' ι' H' σ' (e.trans a) b d
    cases fl with
    | nx => exact q
    | bk => exact q
    | ct => exact q
    | ret w => exact fun v z => q v (z.weak e.ex.kp)
  | rs x y c => exact fun G' ι' H' σ' cls d a b z => h G' ι' H' σ' cls d (e.trans a) b z
  | no => exact h
theorem RS.bind {r : Res (β × Cells)} {k : β × Cells → Res (Fl × En × Cells)} {D : Ends} (h : RS C G ι H (r >>= k) D) :
    RE C rel G ι H σ r fun v H' => ∃ G' c' b, Ex ι G H G' H' ∧ SR C.K G' ι H' c' ∧ rel (dm H) G' ι H' b v ∧ RS C G ι H (k (b, c')) D := by
  cases r with
  | ok p => exact fun G' H' v e s w => ⟨G', p.2, p.1, e, s, w, h⟩
  | rs x y c => exact fun G' H' cls d a b z => h G' ι H' σ cls d (.of a) b z
  | no => exact h
theorem RS.opt {α : Type} {o : Option α} {k : α → Res (Fl × En × Cells)} {D : Ends} (h : RS C G ι H (ofO o >>= k) D) : ∃ a, o = some a ∧ RS C G ι H (k a) D := by
  cases o with
  | none => exact False.elim h
  | some a => exact ⟨a, rfl, h⟩
theorem s_nil : PSs X [] (tS C fun env c => .ok (.nx, env, c)) := pssI pss_nil fun D σ H ⟨G, ι, env, c, s, en, h⟩ => h G ι H σ .refl s en
theorem s_pass : PS X (.Pass pos) (tS C fun env c => .ok (.nx, env, c)) := psI ps_pass fun D σ H ⟨G, ι, env, c, s, en, h⟩ => h G ι H σ .refl s en
theorem s_brk : PS X (.Break pos) (tS C fun env c => .ok (.bk, env, c)) := psI ps_break fun D σ H ⟨G, ι, env, c, s, en, h⟩ => h G ι H σ .refl s en
theorem s_cnt : PS X (.Continue pos) (tS C fun env c => .ok (.ct, env, c)) := psI ps_continue fun D σ H ⟨G, ι, env, c, s, en, h⟩ => h G ι H σ .refl s en
theorem s_cons {st : Stmt} {sts : List Stmt} {f g : En → Cells → Res (Fl × En × Cells)} (h1 : PS X st (tS C f)) (h2 : PSs X sts (tS C g)) : PSs X (st :: sts) (tS C fun env c => f env c >>= fun r => match r.1 with
    | .nx => g r.2.1 r.2.2
    | _ => .ok r) := by
  refine pssI (pss_cons h1 h2) fun D σ H ⟨G, ι, env, c, s, en, h⟩ => ⟨G, ι, env, c, s, en, ?_⟩
  dsimp only at h
  cases hf : f env c with
  | no => rw [hf] at h; exact h
  | rs x y z => rw [hf] at h; exact h
  | ok r =>
    obtain ⟨fl, env', c'⟩ := r
    rw [hf] at h
    intro G1 ι1 H1 σ1 e1 s1 en1
    cases fl with
    | nx => exact ⟨G1, ι1, env', c', s1, en1, RS.from e1 h⟩
    | bk => exact h G1 ι1 H1 σ1 e1 s1 en1
    | ct => exact h G1 ι1 H1 σ1 e1 s1 en1
    | ret w => exact h G1 ι1 H1 σ1 e1 s1 en1
theorem s_ret {e : Expr} {f : En → Cells → Res (W × Cells)} (he : PE X e (tE C f)) : PS X (.Return (some e) pos) (tS C fun env c => f env c >>= fun r => .ok (.ret r.1, env, r.2)) := by
  refine psI (ps_ret he) fun D σ H ⟨G, ι, env, c, s, en, h⟩ => ⟨G, ι, env, c, s, en, RE.imp (RS.bind (rel := WR C.K) h) fun v H1 ⟨G1, c1, w1, e1, s1, r1, h1⟩ => ?_⟩
  exact h1 G1 ι H1 σ (.of e1) s1 (en.keep e1) v r1
theorem s_ex {e : Expr} {f : En → Cells → Res (W × Cells)} (he : PE X e (tE C f)) (hs : swapsWith e none pos.line X.env = pure false) : PS X (.Expr e pos) (tS C fun env c => f env c >>= fun r => .ok (.nx, env, r.2)) := by
  refine psI (ps_expr he hs) fun D σ H ⟨G, ι, env, c, s, en, h⟩ => ⟨G, ι, env, c, s, en, RE.imp (RS.bind (rel := WR C.K) h) fun v H1 ⟨G1, c1, w1, e1, s1, r1, h1⟩ => ?_⟩
  exact h1 G1 ι H1 σ (.of e1) s1 (en.keep e1)
theorem s_ife {t : Expr} {a b : List Stmt} {f : En → Cells → Res (W × Cells)} {g h' : En → Cells → Res (Fl × En × Cells)} (ht : PT X t (tB C (asB f))) (ha : PSs X a (tS C g)) (hb : PSs X b (tS C h')) : PS X (.If t a b pos) (tS C fun env c =>
    f env c >>= fun r => ofO (truW r.2 r.1) >>= fun k => if k = true then g env r.2 else h' env r.2) := by
  refine psI (ps_if ht ha hb) fun D σ H ⟨G, ι, env, c, s, en, h⟩ => ⟨G, ι, env, c, s, en, ?_⟩
  dsimp only at h
  simp only [asB]
  cases hf : f env c with
  | no => rw [hf] at h; exact h
  | rs x y z => rw [hf] at h; exact fun G' H' cls d a b z => h G' ι H' σ cls d (.of a) b z
  | ok r =>
    rw [hf] at h
    simp only [Res.bind_ok] at h ⊢
    cases ht : truW r.2 r.1 with
    | none => rw [ht] at h; exact h
    | some k =>
      rw [ht] at h
      simp only [ofO_some, Res.bind_ok] at h ⊢
      intro G1 H1 v e1 s1 z
      cases z
      cases k with
      | true => simp only [if_true] at h ⊢; exact ⟨G1, ι, env, r.2, s1, en.keep e1, RS.from (.of e1) h⟩
      | false => simp only [Bool.false_eq_true, if_false] at h ⊢; exact ⟨G1, ι, env, r.2, s1, en.keep e1, RS.from (.of e1) h⟩

/-! ### stores -/
theorem s_asg {tg e : Expr} {f : En → Cells → Res (W × Cells)} {st : W → En → Cells → Res (En × Cells)} (he : PE X e (tE C f)) (hg : PG X tg (tG C st)) (hs : swapsWithSole [tg] e pos.line X.env = pure false) (hw : swappedStores [tg] e X.env = pure none)
    (h1 : (assignEach [tg] X.env).map (·.2) = [assign tg X.env]) : PS X (.Assign [tg] e pos) (tS C fun env c => f env c >>= fun r => st r.1 env r.2 >>= fun q => .ok (.nx, q.1, q.2)) := by
  refine psI (ps_asg he hg hs hw h1) fun D σ H ⟨G, ι, env, c, s, en, h⟩ => ⟨G, ι, env, c, s, en, RE.imp (RS.bind (rel := WR C.K) h) fun v H1 ⟨G1, c1, w1, e1, s1, r1, h1⟩ => ?_⟩
  refine ⟨G, H, G1, ι, env, c1, w1, e1, s1, en.keep e1, r1, ?_⟩
  dsimp only at h1
  cases hq : st w1 env c1 with
  | no => rw [hq] at h1; exact h1
  | rs x y z => rw [hq] at h1; exact h1
  | ok q => rw [hq] at h1; exact fun G' ι' H' σ' a b d => h1 G' ι' H' σ' a b d
theorem setW_some {env env' : En} {i : Nat} {w : W} (h : setW env i w = some env') : i < env.length ∧ env' = env.set i (some w) := by
  unfold setW at h
  split at h
  · rename_i hi; cases h; exact ⟨hi, rfl⟩
  · cases h
theorem putW_ok {Gz Hz : Hp} {c c' : Cells} {env env' : En} {i : Nat} {w : W} {v : V} (e : Ext ι ι1 Gz Hz G H) (s : SR C.K G ι1 H c) (en : EnR C.K G ι1 H env σ) (r : WR C.K (dm Hz) G ι1 H w v) (h : putW i w env c = some (env', c')) :
    ∃ ex, Ext ι (ι1 ++ ex) Gz Hz G H ∧ SR C.K G (ι1 ++ ex) H c' ∧ EnR C.K G (ι1 ++ ex) H env' (σ.set i (some v)) ∧ (∀ a ∈ ex, v = .ref a) ∧ (slotW w → ex = []) := by
  have fresh : ¬ slotW w → ∀ {a : Addr} {x : Cell} {u : W}, v = .ref a → G a = none → a ∉ ι1 → ¬ dm Hz a → H a ≠ none → CellR C.K G H a x → u = .ref c.length → ∀ en', setW env i u = some en' → en' = env' → c' = c ++ [x] →
      ∃ ex, Ext ι (ι1 ++ ex) Gz Hz G H ∧ SR C.K G (ι1 ++ ex) H c' ∧ EnR C.K G (ι1 ++ ex) H env' (σ.set i (some v)) ∧ (∀ a ∈ ex, v = .ref a) ∧ (slotW w → ex = []) := by
    intro nsl a x u hv g1 g2 g3 g4 g5 hu en' hs he hc
    subst hv; subst hu; subst he; subst hc
    obtain ⟨hi, rfl⟩ := setW_some hs
    obtain ⟨ex, e1, rfl, n1⟩ := e
    have ha : Hz a = none := by
      cases z : Hz a with
      | none => rfl
      | some o => exact absurd (show dm Hz a by unfold dm; rw [z]; simp) g3
    refine ⟨[a], ⟨ex, e1 ++ [a], by simp, fun b hb => ?_⟩, s.alloc g1 g2 g4 g5, EnR.put (O := fun _ => True) en.more trivial ⟨a, ?_, rfl⟩, by simp, fun z => absurd z nsl⟩
    · rcases List.mem_append.mp hb with q | q
      · exact n1 b q
      · simp at q; subst q; exact ha
    · rw [← s.len, List.getElem?_append_right (Nat.le_refl _)]; simp
  cases w with
  | d x =>
    simp only [putW] at h
    split at h
    · rename_i en' he; cases h
      obtain ⟨hi, rfl⟩ := setW_some he
      exact ⟨[], by simpa using e, by simpa using s, by simpa using EnR.put (w := .d x) en trivial r, by simp, fun _ => rfl⟩
    · cases h
  | ref n =>
    simp only [putW] at h
    split at h
    · rename_i en' he; cases h
      obtain ⟨hi, rfl⟩ := setW_some he
      exact ⟨[], by simpa using e, by simpa using s, by simpa using EnR.put (w := .ref n) en trivial r, by simp, fun _ => rfl⟩
    · cases h
  | sq n =>
    simp only [putW] at h
    split at h
    · rename_i en' he; cases h
      obtain ⟨hi, rfl⟩ := setW_some he
      exact ⟨[], by simpa using e, by simpa using s, by simpa using EnR.put (w := .sq n) en trivial r, by simp, fun _ => rfl⟩
    · cases h
  | fl xs =>
    simp only [putW] at h
    split at h
    · rename_i en' he; cases h
      obtain ⟨a, ys, hv, g1, g2, g3, g4, g5⟩ := r
      exact fresh (fun z => z) (x := .lst xs) hv g1 g2 g3 (by rw [g4]; simp) ⟨ys, g4, g5⟩ rfl _ he rfl rfl
    · cases h
  | fd kvs =>
    simp only [putW] at h
    split at h
    · rename_i en' he; cases h
      obtain ⟨a, ys, hv, g1, g2, g3, g4, g5⟩ := r
      exact fresh (fun z => z) (x := .dct kvs) hv g1 g2 g3 (by rw [g4]; simp) ⟨ys, g4, g5⟩ rfl _ he rfl rfl
    · cases h
theorem readyG_ok {Gz Hz : Hp} {c : Cells} {g : Lf.G} {w w' : W} {v : V} (e : Ex ι Gz Hz G H) (s : SR C.K G ι H c) (r : WR C.K (dm Hz) G ι H w v) (h : readyG g w = some w') :
    ∃ G', Ex ι Gz Hz G' H ∧ SR C.K G' ι H c ∧ Same G G' ∧ WR C.K (dm Hz) G' ι H w' v := by
  have fz : frzW w = some w' → ∃ G', Ex ι Gz Hz G' H ∧ SR C.K G' ι H c ∧ Same G G' ∧ WR C.K (dm Hz) G' ι H w' v := fun q => by
    obtain ⟨G', a, b, d, r', _⟩ := frzW_ok e s r q
    exact ⟨G', a, b, d, r'⟩
  cases g with
  | nm i =>
    cases w with
    | fd kvs => simp only [readyG] at h; cases h; exact ⟨G, e, s, fun _ _ h => h, r⟩
    | d _ => exact fz (by simpa only [readyG] using h)
    | ref _ => exact fz (by simpa only [readyG] using h)
    | sq _ => exact fz (by simpa only [readyG] using h)
    | fl _ => exact fz (by simpa only [readyG] using h)
  | al i =>
    cases w with
    | fd kvs => simp only [readyG] at h; cases h; exact ⟨G, e, s, fun _ _ h => h, r⟩
    | fl kvs => simp only [readyG] at h; cases h; exact ⟨G, e, s, fun _ _ h => h, r⟩
    | d _ => exact fz (by simpa only [readyG] using h)
    | ref _ => exact fz (by simpa only [readyG] using h)
    | sq _ => exact fz (by simpa only [readyG] using h)
  | pt p => cases w <;> simp [readyG] at h
  | star a b d => cases w <;> simp [readyG] at h
  | unl p => cases w <;> simp [readyG] at h
  | ix a b => cases w <;> simp [readyG] at h
theorem name_tell {F : Fns} {g : Lf.G} {i : Nat} (hg : g = .nm i ∨ g = .al i) {v : V} {σ : L2.St} {H : Hp} {Q : L2.St → Hp → Prop} (h : tG C (storeG F g) v σ H Q) : gName i v σ H Q := by
  obtain ⟨Gz, Hz, G, ι, env, c, w, e, sr, en, rw', h⟩ := h
  have h : match (ofO (readyG g w) >>= fun w' => ofO (putW i w' env c) : Res (En × Cells)) with
    | .ok (env', c') => ∀ G' ι' H' σ', Ext ι ι' Gz Hz G' H' → SR C.K G' ι' H' c' → EnR C.K G' ι' H' env' σ' → Q σ' H'
    | .rs x y c' => ∀ G' ι' H' σ' cls d, Ext ι ι' Gz Hz G' H' → SR C.K G' ι' H' c' → C.Z x y cls d H' → C.W cls d σ' H'
    | .no => False := by
    rcases hg with rfl | rfl
    · exact h
    · exact h
  cases hr : readyG g w with
  | none => rw [hr] at h; exact h.elim
  | some w' =>
    rw [hr] at h
    cases hp : putW i w' env c with
    | none => simp only [ofO_some, Res.bind_ok, hp, ofO_none] at h
    | some q =>
      simp only [ofO_some, Res.bind_ok, hp] at h
      obtain ⟨G', e', s', g', r'⟩ := readyG_ok e sr rw' hr
      obtain ⟨ex, e2, s2, en2, _⟩ := putW_ok (.of e') s' (en.same g') r' hp
      exact h G' _ H _ e2 s2 en2
theorem g_name {F : Fns} {g : Lf.G} {i : Nat} {x : Str} (hg : g = .nm i ∨ g = .al i) (hN : X.N.Nodup) (hi : X.N[i]? = some x) (hx : Loc X.env.scope x) (hf : X.fn x = true ∨ X.env.scope.names.lookup x = some .local) : PG X (.Name x pos) (tG C (storeG F g)) :=
  ⟨fun pins s σ H v u Q I r h => (pg_name hN hi hx hf).run pins s σ H v u Q I r (name_tell hg h)⟩
end
end Lf
end

section
set_option maxHeartbeats 4000000
/-! Targets: patterns, stars, items. -/
namespace Lf
open PySem PySem.Spec PySem.Calls PyProof.Rows L2
section
variable {prog : Program} {w : World} {A : Around} {E : Value → Shared → Prop} {s : Shared}
/-- what a star gets: the middle as a new list; everything that stood stands -/
theorem star_tuple {l : Addr} {items : Array Value} {n i : Nat} {Q : List Value → Shared → Prop} (hl : IsTup s.heap l items) (hh : A.handled = none) (hi : i < n) (hn : n ≤ items.size + 1) (hz : items.size ≤ 16384)
    (h : ∀ (h' : Heap) (tk : Nat), (∀ b o, s.heap.get? b = some o → h'.get? b = some o) → Q (items.toList.take i ++ [.ref h'.objs.size] ++ (items.toList.drop i).drop (items.size + 1 - n))
      { s with heap := h'.push { cls := .type "list", data := .seq ((items.toList.drop i).take (items.size + 1 - n)).toArray }, toks := tk }) : wpAny (model prog w) A (unpackItems (.ref l) n (some i)) Q E s := by
  obtain ⟨o, ho, _⟩ := id hl
  have lt := Heap.lt_size ho
  have ne : l ≠ s.heap.objs.size := Nat.ne_of_lt lt
  unfold unpackItems
  refine wpAny_bind ?_
  unfold notIterableAtAll
  refine wpAny_bind (wpAny_specialOf hl.typeIs slot_tuple_iter.lookup ?_)
  refine wpAny_pure ?_
  simp only [Bool.false_eq_true, if_false]
  refine wpAny_bind (wpAny_holding (iter_tuple hl ?_))
  refine wpAny_bind (wpAny_holding (draw_tuple ne i 0 _ _ ⟨_, Heap.get?_push_size _ rfl, rfl, rfl⟩ (hl.push _) (by omega) fun h₁ it₁ k₁ => ?_))
  have l₁ : IsTup h₁ l items := (hl.push _).extBut k₁.extBut ne
  rw [Nat.zero_add] at it₁
  obtain ⟨oi, hoi, _⟩ := id it₁
  obtain ⟨ol, hol, _⟩ := id l₁
  have len1 : (items.toList.take i).length = i := by rw [List.length_take, Array.length_toList]; omega
  have len2 : (items.toList.drop i).length = items.size - i := by rw [List.length_drop, Array.length_toList]
  simp only [List.drop_zero]
  rw [if_neg (by rw [len1]; omega)]
  refine wpAny_bind (wpAny_holding (PySem.W.kun_collect (s := { s with heap := h₁ }) (T := "tuple_iterator") (.inr (.inr (.inr rfl))) (Walks.tuple (A := A.in1) hh s.heap.objs.size l ne items)
    (fun j u st => st.1.typeIs) (k := i) (by omega) ⟨it₁, l₁⟩ (Heap.lt_size hoi) (Heap.lt_size hol) (fun h₂ tk k₂ => ?_) (by rw [sizeLine_eq]; omega)))
  have mid : (items.toList.drop i).length - (n - 1 - i) = items.size + 1 - n := by rw [len2]; omega
  dsimp only
  rw [if_neg (by rw [len2]; omega), mid]
  refine wpAny_bind (wpAny_newList (wpAny_pure (h h₂ tk fun b o e => ?_)) (by rw [List.length_take, len2, sizeLine_eq]; omega))
  have hb : b ≠ s.heap.objs.size := Nat.ne_of_lt (Heap.lt_size e)
  exact k₂ b o hb (k₁.extBut b o hb (Heap.get?_push_of_some _ e))
theorem star_list {l : Addr} {items : Array Value} {n i : Nat} {Q : List Value → Shared → Prop} (hl : s.heap.IsList l items) (hh : A.handled = none) (hi : i < n) (hn : n ≤ items.size + 1) (hz : items.size ≤ 16384)
    (h : ∀ (h' : Heap) (tk : Nat), (∀ b o, s.heap.get? b = some o → h'.get? b = some o) → Q (items.toList.take i ++ [.ref h'.objs.size] ++ (items.toList.drop i).drop (items.size + 1 - n))
      { s with heap := h'.push { cls := .type "list", data := .seq ((items.toList.drop i).take (items.size + 1 - n)).toArray }, toks := tk }) : wpAny (model prog w) A (unpackItems (.ref l) n (some i)) Q E s := by
  obtain ⟨o, ho, _⟩ := id hl
  have lt := Heap.lt_size ho
  have ne : l ≠ s.heap.objs.size := Nat.ne_of_lt lt
  unfold unpackItems
  refine wpAny_bind ?_
  unfold notIterableAtAll
  refine wpAny_bind (wpAny_specialOf hl.typeIs slot_list_iter.lookup ?_)
  refine wpAny_pure ?_
  simp only [Bool.false_eq_true, if_false]
  refine wpAny_bind (wpAny_holding (wpAny_pyIter_list hl ?_))
  refine wpAny_bind (wpAny_holding (PySem.W.kun_draw ne i 0 _ _ ⟨_, Heap.get?_push_size _ rfl, rfl, rfl⟩ (hl.push _) (by omega) fun h₁ it₁ k₁ => ?_))
  have l₁ : h₁.IsList l items := (hl.push _).extBut k₁.extBut ne
  rw [Nat.zero_add] at it₁
  obtain ⟨oi, hoi, _⟩ := id it₁
  obtain ⟨ol, hol, _⟩ := id l₁
  have len1 : (items.toList.take i).length = i := by rw [List.length_take, Array.length_toList]; omega
  have len2 : (items.toList.drop i).length = items.size - i := by rw [List.length_drop, Array.length_toList]
  simp only [List.drop_zero]
  rw [if_neg (by rw [len1]; omega)]
  refine wpAny_bind (wpAny_holding (PySem.W.kun_collect (s := { s with heap := h₁ }) (T := "list_iterator") (.inr (.inr (.inl rfl))) (Walks.list (A := A.in1) hh s.heap.objs.size l ne items)
    (fun j u st => st.1.typeIs) (k := i) (by omega) ⟨it₁, l₁⟩ (Heap.lt_size hoi) (Heap.lt_size hol) (fun h₂ tk k₂ => ?_) (by rw [sizeLine_eq]; omega)))
  have mid : (items.toList.drop i).length - (n - 1 - i) = items.size + 1 - n := by rw [len2]; omega
  dsimp only
  rw [if_neg (by rw [len2]; omega), mid]
  refine wpAny_bind (wpAny_newList (wpAny_pure (h h₂ tk fun b o e => ?_)) (by rw [List.length_take, len2, sizeLine_eq]; omega))
  have hb : b ≠ s.heap.objs.size := Nat.ne_of_lt (Heap.lt_size e)
  exact k₂ b o hb (k₁.extBut b o hb (Heap.get?_push_of_some _ e))
end
section
variable {X : Cx} {C : Ct} {pos : Pos}
def gStar (K : PySem.W.Frag) (n i : Nat) (t : TGs) : TG := fun v σ H Q => ∃ a xs, v = .ref a ∧ (SqL K H a xs ∨ SqT K H a xs) ∧ n ≤ xs.length + 1 ∧ i < n ∧ xs.length ≤ 16384 ∧
  ∀ p, H p = none → t (xs.take i ++ [.ref p] ++ (xs.drop i).drop (xs.length + 1 - n)) σ (upd H p (.lst ((xs.drop i).take (xs.length + 1 - n)))) Q
theorem pg_star {es ts : List Expr} {k n i : Nat} {t : TGs} (hc : X.calm = true) (h : PGs X ts t) (hm : (assignEach es X.env).map (·.2) = (assignEach ts X.env).map (·.2)) (hn : (assignEach es X.env).length = n) (hi : (assignEach es X.env).findIdx? (·.1) = some i) :
    PG X (.Tuple es k pos) (gStar X.K n i t) := by
  refine ⟨fun pins s σ H v u Q I r hw => ?_⟩
  obtain ⟨a, xs, rfl, hq, h1, h2, h3, hw⟩ := hw
  cases r
  rw [PyProof.Rows.assign_Tuple]
  refine wpAny_bind (wpAny_standAt ?_)
  unfold unpack
  rw [hn, hi, hm]
  have go : ∀ (its : List Value), Vals xs its → ∀ (h' : Heap) (tk : Nat), (∀ b o, s.heap.get? b = some o → h'.get? b = some o) →
      wpAny (model X.prog X.w) X.A (assignInOrder ((assignEach ts X.env).map (·.2)) (its.toArray.toList.take i ++ [.ref h'.objs.size] ++ (its.toArray.toList.drop i).drop (its.toArray.size + 1 - n))) (fun _ s' => ∃ σ' H', Inv X pins σ' H' s' ∧ Q σ' H') X.xe
        { s with heap := h'.push { cls := .type "list", data := .seq ((its.toArray.toList.drop i).take (its.toArray.size + 1 - n)).toArray }, toks := tk } := by
    intro its rv h' tk kp
    have hl := rv.length
    have I1 : Inv X pins σ H { s with heap := h', toks := tk } := I.kept kp
    have rv2 := (rv.drop i).take (xs.length + 1 - n)
    have I2 := I1.lnew (t' := tk) rv2 (by rw [List.length_take, List.length_drop, sizeLine_eq]; omega)
    simp only [List.size_toArray, ← hl] at I2 ⊢
    refine h.run pins _ σ _ _ _ Q I2 ?_ (hw _ I1.fresh)
    exact ((rv.take i).append (Paired.cons (show RelV (V.ref h'.objs.size) (Value.ref h'.objs.size) from rfl) Paired.nil)).append ((rv.drop i).drop _)
  rcases hq with hq | hq
  · obtain ⟨its, rv, p, _⟩ := I.list hq
    have hl := rv.length
    exact wpAny_bind (wpAny_holding (star_list p.isList (I.ok.hd hc) h2 (by simp only [List.size_toArray]; omega) (by simp only [List.size_toArray]; omega) (go its rv)))
  · obtain ⟨its, rv, p, _⟩ := I.tuple hq
    have hl := rv.length
    exact wpAny_bind (wpAny_holding (star_tuple p (I.ok.hd hc) h2 (by simp only [List.size_toArray]; omega) (by simp only [List.size_toArray]; omega) (go its rv)))

/-! ### patterns -/
def Pt.slots : Pt → List Nat
  | .nm i => [i]
  | .tup p => p.slots
  | .nil => []
  | .cons p q => p.slots ++ q.slots
/-- the same but in these slots -/
def Off (l : List Nat) (σ σ' : L2.St) : Prop := σ'.length = σ.length ∧ ∀ i, i ∉ l → σ'[i]? = σ[i]?
theorem Off.mono {l l' : List Nat} {σ σ' : L2.St} (h : Off l σ σ') (i : ∀ x, x ∈ l → x ∈ l') : Off l' σ σ' := ⟨h.1, fun k hk => h.2 k fun z => hk (i k z)⟩
theorem Off.trans {l : List Nat} {σ σ1 σ2 : L2.St} (a : Off l σ σ1) (b : Off l σ1 σ2) : Off l σ σ2 := ⟨b.1.trans a.1, fun k hk => (b.2 k hk).trans (a.2 k hk)⟩
def tPq (C : Ct) (p : Pt) : TG := fun v σ H Q => ∃ G ι env c d, SR C.K G ι H c ∧ EnR C.K G ι H env σ ∧ Dv C.K G v d ∧ ∃ env', bindP p d env = some env' ∧ ∀ σ', EnR C.K G ι H env' σ' → Off p.slots σ σ' → Q σ' H
def tPqs (C : Ct) (p : Pt) : TGs := fun vs σ H Q => ∃ G ι env c ds, SR C.K G ι H c ∧ EnR C.K G ι H env σ ∧ Dvs C.K G vs ds ∧ ∃ env', bindPs p ds env = some env' ∧ ∀ σ', EnR C.K G ι H env' σ' → Off p.slots σ σ' → Q σ' H
theorem pgI {e : Expr} {t t' : TG} (h : PG X e t) (i : ∀ v σ H Q, t' v σ H Q → t v σ H Q) : PG X e t' := ⟨fun pins s σ H v u Q I r q => h.run pins s σ H v u Q I r (i v σ H Q q)⟩
theorem pgsI {e : List Expr} {t t' : TGs} (h : PGs X e t) (i : ∀ v σ H Q, t' v σ H Q → t v σ H Q) : PGs X e t' := ⟨fun pins s σ H v u Q I r q => h.run pins s σ H v u Q I r (i v σ H Q q)⟩
theorem q_nm {i : Nat} {x : Str} (hN : X.N.Nodup) (hi : X.N[i]? = some x) (hx : Loc X.env.scope x) (hf : X.fn x = true ∨ X.env.scope.names.lookup x = some .local) : PG X (.Name x pos) (tPq C (.nm i)) := by
  refine pgI (pg_name hN hi hx hf) fun v σ H Q ⟨G, ι, env, c, d, s, en, dv, env', hb, k⟩ => ?_
  simp only [bindP] at hb
  split at hb
  · cases hb
    exact k _ (EnR.put (O := fun _ => True) (w := .d d) en trivial dv) ⟨by simp, fun j hj => List.getElem?_set_ne (fun e => hj (by simp [Pt.slots, e]))⟩
  · cases hb
theorem q_nil : PGs X [] (tPqs C .nil) := pgsI pgs_nil fun v σ H Q ⟨G, ι, env, c, ds, s, en, dv, env', hb, k⟩ => by
  cases ds with
  | nil => cases dv; simp only [bindPs] at hb; cases hb; exact ⟨rfl, k _ en ⟨rfl, fun _ _ => rfl⟩⟩
  | cons d ds => simp [bindPs] at hb
theorem q_cons {e : Expr} {es : List Expr} {p q : Pt} (h1 : PG X e (tPq C p)) (h2 : PGs X es (tPqs C q)) (hs : (assignEach (e :: es) X.env).map (·.2) = assign e X.env :: (assignEach es X.env).map (·.2)) : PGs X (e :: es) (tPqs C (.cons p q)) := by
  refine pgsI (pgs_cons h1 h2 hs) fun v σ H Q ⟨G, ι, env, c, ds, s, en, dv, env', hb, k⟩ => ?_
  cases ds with
  | nil => simp [bindPs] at hb
  | cons d ds =>
    cases dv with
    | cons a b =>
      simp only [bindPs] at hb
      cases h : bindP p d env with
      | none => rw [h] at hb; cases hb
      | some e1 =>
        rw [h] at hb
        exact ⟨_, _, rfl, G, ι, env, c, d, s, en, a, e1, h, fun σ1 en1 o1 => ⟨G, ι, e1, c, ds, s, en1, b, env', hb, fun σ2 en2 o2 => k σ2 en2 ((o1.mono fun x hx => List.mem_append_left _ hx).trans (o2.mono fun x hx => List.mem_append_right _ hx))⟩⟩
theorem q_len {es : List Expr} : ∀ {p : Pt} {ds : List D} {env env' : En}, bindPs p ds env = some env' → ∀ {n : Nat}, (∀ ds' env1 env2, bindPs p ds' env1 = some env2 → ds'.length = n) → ds.length = n := fun h _ k => k _ _ _ h
def Pt.len : Pt → Nat
  | .cons _ q => q.len + 1
  | _ => 0
theorem bindPs_len : ∀ (p : Pt) {ds : List D} {env env' : En}, bindPs p ds env = some env' → ds.length = p.len
  | .nil, [], _, _, _ => rfl
  | .nil, _ :: _, _, _, h => by simp [bindPs] at h
  | .nm _, _, _, _, h => by simp [bindPs] at h
  | .tup _, _, _, _, h => by simp [bindPs] at h
  | .cons p q, [], _, _, h => by simp [bindPs] at h
  | .cons p q, d :: ds, env, env', h => by
    simp only [bindPs] at h
    split at h
    · simp only [List.length_cons, Pt.len]; rw [bindPs_len q h]
    · cases h
theorem q_tup {es : List Expr} {k : Nat} {p : Pt} (hK : X.K = C.K) (hc : X.calm = true) (h : PGs X es (tPqs C p)) (hn : (assignEach es X.env).length = p.len) (hst : (assignEach es X.env).findIdx? (·.1) = none) : PG X (.Tuple es k pos) (tPq C (.tup p)) := by
  refine pgI (pg_tup hc h hn hst) fun v σ H Q ⟨G, ι, env, c, d, s, en, dv, env', hb, k⟩ => ?_
  cases d <;> simp only [bindP] at hb <;> try (cases hb; done)
  rename_i ds
  cases dv with
  | tup r b => exact ⟨_, _, rfl, hK ▸ sqT_same s.sub r.sqT, by rw [b.length]; exact bindPs_len p hb, G, ι, env, c, ds, s, en, b, env', hb, k⟩

/-! ### stores told -/
def RG (C : Ct) (Gz : Hp) (ι : List Addr) (Hz : Hp) (r : Res (En × Cells)) (Q : L2.St → Hp → Prop) : Prop := match r with
  | .ok (env', c') => ∀ G' ι' H' σ', Ext ι ι' Gz Hz G' H' → SR C.K G' ι' H' c' → EnR C.K G' ι' H' env' σ' → Q σ' H'
  | .rs x y c' => ∀ G' ι' H' σ' cls d, Ext ι ι' Gz Hz G' H' → SR C.K G' ι' H' c' → C.Z x y cls d H' → C.W cls d σ' H'
  | .no => False
section
variable {Gz Hz G H : Hp} {ι : List Addr} {Q : L2.St → Hp → Prop} {β γ : Type} {rel : Rl β γ} {σ : L2.St}
theorem RG.opt {α : Type} {o : Option α} {k : α → Res (En × Cells)} (h : RG C Gz ι Hz (ofO o >>= k) Q) : ∃ a, o = some a ∧ RG C Gz ι Hz (k a) Q := by
  cases o with
  | none => exact False.elim h
  | some a => exact ⟨a, rfl, h⟩
theorem RG.bind {r : Res (β × Cells)} {k : β × Cells → Res (En × Cells)} (h : RG C Gz ι Hz (r >>= k) Q) : RE C rel Gz ι Hz σ r fun v H' => ∃ G' c' b, Ex ι Gz Hz G' H' ∧ SR C.K G' ι H' c' ∧ rel (dm Hz) G' ι H' b v ∧ RG C Gz ι Hz (k (b, c')) Q := by
  cases r with
  | ok p => exact fun G' H' v e s w => ⟨G', p.2, p.1, e, s, w, h⟩
  | rs x y c => exact fun G' H' cls d a b z => h G' ι H' σ cls d (.of a) b z
  | no => exact h
end
theorem g_pt {e : Expr} {F : Fns} {p : Pt} (h : PG X e (tPq C (.tup p))) : PG X e (tG C (storeG F (.pt (.tup p)))) := by
  refine pgI h fun v σ H Q ⟨Gz, Hz, G, ι, env, c, w, e0, s, en, r, k⟩ => ?_
  have k : RG C Gz ι Hz (storeG F (.pt (.tup p)) w env c) Q := k
  simp only [storeG] at k
  obtain ⟨x, hx, k1⟩ := RG.opt k
  obtain ⟨env', he, k2⟩ := RG.opt k1
  clear k k1
  have vw := vw_of s r hx
  cases x <;> simp only [bindP] at he <;> try (cases he; done)
  obtain ⟨a, ys, rfl, h1, h2⟩ := vw.tupP
  exact ⟨G, ι, env, c, _, s, en, .tup h1 h2, env', by simpa only [bindP] using he, fun σ' en' _ => k2 G ι H σ' (.of e0) s en'⟩
/-- names from a list -/
theorem g_unl {es : List Expr} {kk : Nat} {F : Fns} {p : Pt} (hK : X.K = C.K) (hc : X.calm = true) (h : PGs X es (tPqs C p)) (hn : (assignEach es X.env).length = p.len) (hst : (assignEach es X.env).findIdx? (·.1) = none) : PG X (.Tuple es kk pos) (tG C (storeG F (.unl p))) := by
  refine pgI (pg_unl hc h hn hst) fun v σ H Q ⟨Gz, Hz, G, ι, env, c, w, e0, s, en, r, k⟩ => ?_
  have k : RG C Gz ι Hz (storeG F (.unl p) w env c) Q := k
  simp only [storeG] at k
  cases hv : view c w with
  | none => rw [hv] at k; exact k.elim
  | some x =>
    rw [hv] at k
    cases x with
    | lst xs =>
      obtain ⟨env', he, k⟩ := RG.opt k
      obtain ⟨a, ys, rfl, h1, h2⟩ := (vw_of s r hv).lstE
      exact ⟨a, ys, rfl, .inl h1, by rw [h2.length]; exact bindPs_len p he, G, ι, env, c, xs, s, en, h2, env', he, fun σ' en' _ => k G ι H σ' (.of e0) s en'⟩
    | non => exact k.elim
    | bl _ => exact k.elim
    | int _ => exact k.elim
    | str _ => exact k.elim
    | tup _ => exact k.elim
end
end Lf
end

section
set_option maxHeartbeats 4000000
/-! Stars, items stored, several names at once; loops. -/
namespace Lf
open PySem PySem.Spec PySem.Calls PyProof.Rows L2
section
variable {X : Cx} {C : Ct} {pos : Pos}
theorem g_star {es ts : List Expr} {kk n i : Nat} {F : Fns} {p : Pt} (hK : X.K = C.K) (hc : X.calm = true) (h : PGs X ts (tPqs C p)) (hm : (assignEach es X.env).map (·.2) = (assignEach ts X.env).map (·.2)) (hn : (assignEach es X.env).length = n)
    (hi : (assignEach es X.env).findIdx? (·.1) = some i) : PG X (.Tuple es kk pos) (tG C (storeG F (.star p n i))) := by
  refine pgI (pg_star hc h hm hn hi) fun v σ H Q ⟨Gz, Hz, G, ι, env, c, w, e0, s, en, r, k⟩ => ?_
  have k : RG C Gz ι Hz (storeG F (.star p n i) w env c) Q := k
  simp only [storeG] at k
  cases hv : starXs c w with
  | none => rw [hv] at k; exact k.elim
  | some xs =>
    rw [hv] at k
    dsimp only at k
    split at k
    · rename_i hl
      obtain ⟨env', he, k1⟩ := RG.opt k
      clear k
      have base : ∃ a ys, v = .ref a ∧ (SqL C.K H a ys ∨ SqT C.K H a ys) ∧ Dvs C.K G ys xs := by
        unfold starXs at hv
        split at hv
        · rename_i zs hz; cases hv
          obtain ⟨a, ys, e1, h1, h2⟩ := (vw_of s r hz).lstE
          exact ⟨a, ys, e1, .inl (.inl h1), h2⟩
        · rename_i zs hz; cases hv
          obtain ⟨a, ys, e1, h1, h2⟩ := (vw_of s r hz).tupE
          exact ⟨a, ys, e1, .inr (sqT_same s.sub h1), h2⟩
        · cases hv
      obtain ⟨a, ys, rfl, hq, dv⟩ := base
      have ln := dv.length
      refine ⟨a, ys, rfl, by rw [hK]; exact hq, by omega, hl.2.1, by omega, fun q hq => ?_⟩
      have hG := s.sub.free hq
      have sm : Same G (upd G q (.lst ((ys.drop i).take (ys.length + 1 - n)))) := sameG hG
      have d1 := dv.mono sm
      refine ⟨_, ι, env, c, _, s.tup hq _, (en.same sm).heap, ?_, env', he, fun σ' en' _ => k1 _ ι _ σ' (.of (e0.trans (Ex.tup hq hG _))) (s.tup hq _) en'⟩
      rw [← ln]
      exact ((d1.take i).append (.cons (.lst (.inl upd_same) ((d1.drop i).take _)) .nil)).append ((d1.drop i).drop _)
    · exact k.elim
theorem paired_len {α β : Type} {F : α → β → Prop} : ∀ {a : List α} {b : List β}, Paired F a b → a.length = b.length
  | _, _, .nil => rfl
  | _, _, .cons _ y => by simp [paired_len y]
theorem nd_at {α : Type} : ∀ {l : List α} {i j : Nat}, l.Nodup → (hi : i < l.length) → (hj : j < l.length) → l[i] = l[j] → i = j
  | x :: l, 0, 0, _, _, _, _ => rfl
  | x :: l, 0, j + 1, h, hi, hj, e => by
    have := (List.nodup_cons.mp h).1
    simp at e
    exact absurd (e ▸ List.getElem_mem _) this
  | x :: l, i + 1, 0, h, hi, hj, e => by
    have := (List.nodup_cons.mp h).1
    simp at e
    exact absurd (e ▸ List.getElem_mem _) this
  | x :: l, i + 1, j + 1, h, hi, hj, e => by
    simp at e
    rw [nd_at (List.nodup_cons.mp h).2 _ _ e]
theorem RG.from {Gz Hz G H : Hp} {ι ι1 : List Addr} {Q : L2.St → Hp → Prop} {r : Res (En × Cells)} (e : Ext ι ι1 Gz Hz G H) (h : RG C Gz ι Hz r Q) : RG C G ι1 H r Q := by
  cases r with
  | ok p => exact fun G' ι' H' σ' a b c => h G' ι' H' σ' (e.trans a) b c
  | rs x y c => exact fun G' ι' H' σ' cls d a b z => h G' ι' H' σ' cls d (e.trans a) b z
  | no => exact h
/-- a cell turned -/
theorem SR.turn {K : PySem.W.Frag} {G H : Hp} {ι : List Addr} {c : Cells} (s : SR K G ι H c) {n : Nat} {a : Addr} {x y : Cell} {o : HO} (hc : c[n]? = some x) (hx : x ≠ .gone) (hi : ι[n]? = some a) (r : CellR K G (upd H a o) a y) :
    SR K G ι (upd H a o) (c.set n y) ∧ Ex ι G H G (upd H a o) := by
  have ga : G a = none := (s.cel n x a hc hi).1 hx
  have mem : a ∈ ι := List.mem_of_getElem? hi
  refine ⟨⟨fun b u h => ?_, by simp [s.len], s.nd, fun b hb => ?_, fun k z b h1 h2 => ?_⟩, ⟨fun _ _ h => h, fun _ _ h => .inl h, fun b u h n => ?_, fun b h => ?_⟩⟩
  · rw [upd_ne (fun e => by rw [e, ga] at h; cases h)]; exact s.sub b u h
  · by_cases e : b = a
    · subst e; rw [upd_same]; simp
    · rw [upd_ne e]; exact s.has b hb
  · by_cases e : n = k
    · subst e
      have hl : n < c.length := (List.getElem?_eq_some_iff.mp hc).1
      rw [List.getElem?_set_self hl] at h1
      cases h1
      rw [hi] at h2; cases h2
      exact ⟨fun _ => ga, r⟩
    · rw [List.getElem?_set_ne e] at h1
      have hx := s.cel k z b h1 h2
      have ne : b ≠ a := fun q => by
        subst q
        obtain ⟨l1, q1⟩ := List.getElem?_eq_some_iff.mp hi
        obtain ⟨l2, q2⟩ := List.getElem?_eq_some_iff.mp h2
        exact e (nd_at s.nd l1 l2 (q1.trans q2.symm))
      refine ⟨hx.1, ?_⟩
      cases z with
      | gone => trivial
      | lst xs => obtain ⟨ys, a1, a2⟩ := hx.2; exact ⟨ys, by rw [upd_ne ne]; exact a1, a2⟩
      | lk xs => obtain ⟨ys, a1, a2⟩ := hx.2; exact ⟨ys, by rw [upd_ne ne]; exact a1, a2⟩
      | dct xs => obtain ⟨ys, a1, a2⟩ := hx.2; exact ⟨ys, by rw [upd_ne ne]; exact a1, a2⟩
  · rw [upd_ne (fun e => n (by rw [e]; exact mem))]; exact h
  · by_cases e : b = a
    · subst e; rw [upd_same]; simp
    · rw [upd_ne e]; exact h
def rSetA : TSet := fun o i v H Q => rSetL o i v H Q ∨ rSetD o i v H Q
theorem set_any (hu : Big X.A) : PSet X rSetA := by
  intro pins s σ H o i v ov iv u Q I ro ri rv h
  rcases h with h | h
  · exact set_list pins s σ H o i v ov iv u Q I ro ri rv h
  · exact set_dict (by unfold Big at hu; omega) pins s σ H o i v ov iv u Q I ro ri rv h
theorem frz_W {w : W} {x : D} (h : frz w = some x) : frzW w = some (.d x) := by
  cases w <;> simp only [frz] at h <;> cases h <;> rfl
def noSl : Expr → Bool
  | .Slice _ _ _ _ => false
  | _ => true
theorem g_ix {o i : Expr} {F : Fns} {to ti : T} (hu : Big X.A) (hn : noSl i = true) (ho : PE X o (tE C (evE F to))) (hi : PE X i (tE C (evE F ti))) : PG X (.Subscript o i pos) (tG C (storeG F (.ix to ti))) := by
  refine pgI (pg_sub ho hi (set_any hu) fun v => by cases i <;> first | rfl | cases hn) fun v σ H Q ⟨Gz, Hz, G, ι, env, c, w, e0, s, en, r, k⟩ => ?_
  have k : RG C Gz ι Hz (storeG F (.ix to ti) w env c) Q := k
  simp only [storeG] at k
  obtain ⟨x, hx, k⟩ := RG.opt k
  obtain ⟨G1, e1, s1, g1, r1, _⟩ := frzW_ok e0 s r (frz_W hx)
  have dv : Dv C.K G1 v x := r1
  refine ⟨G1, ι, env, c, s1, en.same g1, RE.imp (RG.bind (rel := WR C.K) (k.from (.of e1))) fun u H2 ⟨G2, c2, w2, e2, s2, r2, k2⟩ => ?_⟩
  dsimp only at k2
  refine ⟨G2, ι, env, c2, s2, (en.same g1).keep e2, RE.imp (RG.bind (rel := WR C.K) (k2.from (.of e2))) fun y H3 ⟨G3, c3, w3, e3, s3, r3, k3⟩ => ?_⟩
  dsimp only at k3
  obtain ⟨d, hd, k4⟩ := RG.opt k3
  obtain ⟨c', hp, k5⟩ := RG.opt k4
  clear k k2 k3 k4
  have en3 := ((en.same g1).keep e2).keep e3
  have dv3 : Dv C.K G3 v x := (dv.mono e2.g).mono e3.g
  have vk := vw_of s3 r3 hd
  have r2' := r2.keep e3
  cases w2 with
  | d _ => simp [putIx] at hp
  | fl _ => simp [putIx] at hp
  | fd _ => simp [putIx] at hp
  | sq _ => simp [putIx] at hp
  | ref n =>
    obtain ⟨a, ha, rfl⟩ := r2'
    have go : ∀ {z z' : Cell} {o : HO}, c3[n]? = some z → z ≠ .gone → CellR C.K G3 (upd H3 a o) a z' → c' = c3.set n z' → Q σ (upd H3 a o) := fun {z z' o} h1 h2 h3 h4 => by
      subst h4
      obtain ⟨s4, e4⟩ := s3.turn h1 h2 ha h3
      exact k5 G3 ι _ σ (.of (e3.trans e4)) s4 (en3.keep e4)
    simp only [putIx] at hp
    split at hp
    · rename_i xs hc
      split at hp
      · rename_i i
        split at hp
        · rename_i j hj
          cases hp
          obtain ⟨a', h1, _, ys, h2, h3⟩ := s3.cell hc
          rw [ha] at h1; cases h1
          cases (vk.dv s3.sub)
          exact .inl ⟨a, ys, i, j, rfl, rfl, h2, by rw [h3.length]; exact hj, go (z' := .lst (xs.set j x)) hc nofun ⟨_, upd_same, h3.set dv3 j⟩ rfl⟩
        · cases hp
      · cases hp
    · rename_i kvs hc
      split at hp
      · rename_i hk
        cases hp
        obtain ⟨a', h1, _, ys, h2, h3⟩ := s3.cell hc
        rw [ha] at h1; cases h1
        cases hz : keyD d with
        | none => rw [hz] at hk; simp at hk
        | some z =>
          have hy := key_of_v vk hz
          subst hy
          exact .inr ⟨a, _, rfl, .k h2 (by rw [paired_len h3]; exact hk.2), go (z' := .dct (dPut kvs d x)) hc nofun ⟨_, upd_same, kvs_put hz dv3 h3⟩ rfl⟩
      · cases hp
    · cases hp
end
end Lf
end

section
set_option maxHeartbeats 4000000
/-! What is walked; loops. -/
namespace Lf
open PySem PySem.Spec PySem.Calls PyProof.Rows L2
/-- J gives the items one by one while the lock holds -/
def Src (K : PySem.W.Frag) (ι0 : List Addr) (lk : Lk) (items : List D) (G0 : Hp) (J : It) : Prop :=
  ∀ (G : Hp) (ι : List Addr) (H : Hp) (c : Cells) (e : List Addr), ι = ι0 ++ e → Same G0 G → SR K G ι H c → okLk lk items c = true →
    (∀ i, i < items.length → J.go i H) ∧ J.stop items.length H ∧ ∀ (i : Nat) (x : V) (H' : Hp) (d : D), items[i]? = some d → J.yld i H x H' → ∃ G1, Ex ι G H G1 H' ∧ SR K G1 ι H' c ∧ Dv K G1 x d
def RI (C : Ct) (G : Hp) (ι : List Addr) (H : Hp) (σ : L2.St) (r : Res (List D × Lk × Cells)) (R : It → Hp → Prop) : Prop := match r with
  | .ok (items, lk, c') => ∀ G' H' J, Ex ι G H G' H' → SR C.K G' ι H' c' → Src C.K ι lk items G' J → R J H'
  | .rs x y c' => ∀ G' H' cls d, Ex ι G H G' H' → SR C.K G' ι H' c' → C.Z x y cls d H' → C.W cls d σ H'
  | .no => False
def tI (C : Ct) (f : En → Cells → Res (List D × Lk × Cells)) : TI := fun σ H R => ∃ G ι env c, SR C.K G ι H c ∧ EnR C.K G ι H env σ ∧ RI C G ι H σ (f env c) R
theorem piI {X : Cx} {tg e : Expr} {t t' : TI} (h : PI X tg e t) (i : ∀ σ H Q, t' σ H Q → t σ H Q) : PI X tg e t' := ⟨fun pins s σ H Q I q => h.run pins s σ H Q I (i σ H Q q)⟩
section
variable {X : Cx} {C : Ct} {pos : Pos}
theorem unlock_ok {K : PySem.W.Frag} {G H : Hp} {ι : List Addr} {c c' : Cells} {lk : Lk} {items : List D} (s : SR K G ι H c) (h : unlock lk items c = some c') : SR K G ι H c' := by
  cases lk with
  | none => cases h; exact s
  | some p =>
    obtain ⟨n, b⟩ := p
    simp only [unlock] at h
    split at h
    · rename_i ho
      cases h
      cases b with
      | false => exact s
      | true =>
        simp only [okLk] at ho
        split at ho
        · rename_i ys hc
          rw [if_pos rfl]
          refine ⟨s.sub, by simp [s.len], s.nd, s.has, fun k z a h1 h2 => ?_⟩
          by_cases e : n = k
          · subst e
            rw [List.getElem?_set_self (List.getElem?_eq_some_iff.mp hc).1] at h1
            cases h1
            have q := s.cel n _ a hc h2
            have := D.sames_eq ho
            subst this
            exact ⟨fun _ => q.1 nofun, q.2⟩
          · rw [List.getElem?_set_ne e] at h1
            exact s.cel k z a h1 h2
        · cases ho
    · cases h
theorem s_for {tg iter : Expr} {body : List Stmt} {f : En → Cells → Res (List D × Lk × Cells)} {g : En → Cells → Res (Fl × En × Cells)} {p : Pt} (hp : PassesOwn (model X.prog X.w) X.A X.env X.xe) (hc : X.calm = true)
    (hi : PI X tg iter (tI C f)) (hg : PG X tg (tPq C p)) (hb : PSs X body (tS C g)) (hs : ∀ x, foldedSetIterable iter X.env x = pure x) : PS X (.For tg iter body [] pos) (tS C fun env c =>
      f env c >>= fun r => forTurns (okLk r.2.1 r.1) (fun x e c' => ofO (bindP p x e) >>= fun e' => g e' c') r.1 env r.2.2 >>= fun q => ofO (unlock r.2.1 r.1 q.2.2) >>= fun c' => .ok (q.1, q.2.1, c')) := by
  refine psI (ps_for hp hc hi hg hb hs) fun Y σ H ⟨G, ι, env, c, s, en, h⟩ => ⟨G, ι, env, c, s, en, ?_⟩
  dsimp only at h
  cases hf : f env c with
  | no => rw [hf] at h; exact h
  | rs x y z => rw [hf] at h; exact fun G' H' cls d a b z => h G' ι H' σ cls d (.of a) b z
  | ok r =>
    obtain ⟨items, lk, c1⟩ := r
    rw [hf] at h
    intro G1 H1 J e1 s1 src
    have h := RS.from (.of e1) h
    simp only [Res.bind_ok] at h
    let B : D → En → Cells → Res (Fl × En × Cells) := fun x e c' => ofO (bindP p x e) >>= fun e' => g e' c'
    let K : Fl × En × Cells → Res (Fl × En × Cells) := fun q => ofO (unlock lk items q.2.2) >>= fun c' => .ok (q.1, q.2.1, c')
    have h : RS C G1 ι H1 (forTurns (okLk lk items) B items env c1 >>= K) Y := h
    let Pv : Nat → L2.St → Hp → Prop := fun i σ' H' => ∃ G' ι' env' c', Ext ι ι' G1 H1 G' H' ∧ SR C.K G' ι' H' c' ∧ EnR C.K G' ι' H' env' σ' ∧ RS C G1 ι H1 (forTurns (okLk lk items) B (items.drop i) env' c' >>= K) Y
    refine ⟨fun i m σ' H' => m = items.length - i ∧ i ≤ items.length ∧ Pv i σ' H', ⟨items.length, by simp, Nat.zero_le _, G1, ι, env, c1, .refl, s1, en.keep e1, by simpa using h⟩, ?_⟩
    rintro i m σ' H' ⟨rfl, hi, G2, ι2, env2, c2, e2, s2, en2, h2⟩
    obtain ⟨ex, ee, ei, ne⟩ := e2
    have src2 := src G2 ι2 H' c2 ee ei ex.g s2
    by_cases hlt : i < items.length
    · have hd : items.drop i = items[i] :: items.drop (i + 1) := List.drop_eq_getElem_cons hlt
      rw [hd] at h2
      simp only [forTurns] at h2
      split at h2
      · rename_i ck
        obtain ⟨go, _, yl⟩ := src2 ck
        refine .inr ⟨go i hlt, Pv (i + 1), fun σ'' H'' pv => ⟨items.length - (i + 1), by omega, rfl, hlt, pv⟩, fun x H3 y => ?_⟩
        obtain ⟨G3, e3, s3, dv⟩ := yl i x H3 items[i] (List.getElem?_eq_getElem hlt) y
        have e23 : Ext ι ι2 G1 H1 G3 H3 := (Ext.mk ex ⟨ee, ei, ne⟩).trans (.of e3)
        cases hb : bindP p items[i] env2 with
        | none => simp only [B, hb] at h2; exact h2.elim
        | some env3 =>
          refine ⟨G3, ι2, env2, c2, _, s3, en2.keep e3, dv, env3, hb, fun σ3 en3 _ => ⟨G3, ι2, env3, c2, s3, en3, ?_⟩⟩
          simp only [B, hb, ofO_some, Res.bind_ok] at h2
          cases hg : g env3 c2 with
          | no => rw [hg] at h2; exact h2
          | rs x y z => rw [hg] at h2; exact fun G' ι' H' σ' cls d a b z => h2 G' ι' H' σ' cls d (e23.trans a) b z
          | ok q =>
            obtain ⟨fl, env4, c4⟩ := q
            rw [hg] at h2
            intro G4 ι4 H4 σ4 e4 s4 en4
            cases fl with
            | nx => exact ⟨G4, ι4, env4, c4, e23.trans e4, s4, en4, h2⟩
            | ct => exact ⟨G4, ι4, env4, c4, e23.trans e4, s4, en4, h2⟩
            | bk =>
              obtain ⟨c5, hu, h3⟩ := RS.opt h2
              exact h3 G4 ι4 H4 σ4 (e23.trans e4) (unlock_ok s4 hu) en4
            | ret w =>
              obtain ⟨c5, hu, h3⟩ := RS.opt h2
              exact fun v z => h3 G4 ι4 H4 σ4 (e23.trans e4) (unlock_ok s4 hu) en4 v (z.weak e23.ex.kp)
      · exact h2.elim
    · have ei' : i = items.length := by omega
      subst ei'
      rw [List.drop_length] at h2
      simp only [forTurns] at h2
      split at h2
      · rename_i ck
        obtain ⟨_, st, _⟩ := src2 ck
        obtain ⟨c5, hu, h3⟩ := RS.opt h2
        exact .inl ⟨st, h3 G2 ι2 H' σ' ⟨ex, ee, ei, ne⟩ (unlock_ok s2 hu) en2⟩
      · exact h2.elim
theorem s_whl {t : Expr} {body : List Stmt} {f : En → Cells → Res (Bool × Cells)} {g : En → Cells → Res (Fl × En × Cells)} {n : Nat} (hp : PassesOwn (model X.prog X.w) X.A X.env X.xe) (ht : PT X t (tB C f)) (hb : PSs X body (tS C g)) :
    PS X (.While t body [] pos) (tS C fun env c => whTurns f g n env c) := by
  refine psI (ps_while hp ht hb) fun D σ H ⟨G, ι, env, c, s, en, h⟩ => ?_
  refine ⟨fun m σ' H' => ∃ G' ι' env' c', SR C.K G' ι' H' c' ∧ EnR C.K G' ι' H' env' σ' ∧ RS C G' ι' H' (whTurns f g m env' c') D, ⟨n, G, ι, env, c, s, en, h⟩, ?_⟩
  rintro m σ1 H1 ⟨G1, ι1, env1, c1, s1, en1, h1⟩
  cases m with
  | zero => exact h1.elim
  | succ m =>
    simp only [whTurns] at h1
    refine ⟨G1, ι1, env1, c1, s1, en1, RE.imp (RS.bind (rel := Eqv) h1) fun b H2 ⟨G2, c2, b', e2, s2, eb, h2⟩ => ?_⟩
    have eb : b' = b := eb
    subst eb
    dsimp only at h2
    have h2 := RS.from (.of e2) h2
    clear h1
    cases b' with
    | false =>
      simp only [Bool.false_eq_true, if_false] at h2 ⊢
      exact h2 G2 ι1 H2 σ1 .refl s2 (en1.keep e2)
    | true =>
      simp only [if_true] at h2 ⊢
      refine ⟨_, fun σ' H' w => ⟨m, Nat.lt_succ_self _, w⟩, G2, ι1, env1, c2, s2, en1.keep e2, ?_⟩
      cases hg : g env1 c2 with
      | no => rw [hg] at h2; exact h2
      | rs x y z => rw [hg] at h2; exact h2
      | ok q =>
        obtain ⟨fl, env4, c4⟩ := q
        rw [hg] at h2
        intro G4 ι4 H4 σ4 e4 s4 en4
        cases fl with
        | nx => exact ⟨G4, ι4, env4, c4, s4, en4, RS.from e4 h2⟩
        | ct => exact ⟨G4, ι4, env4, c4, s4, en4, RS.from e4 h2⟩
        | bk => exact h2 G4 ι4 H4 σ4 e4 s4 en4
        | ret w => exact h2 G4 ι4 H4 σ4 e4 s4 en4

/-! ### comprehensions -/
theorem wipe_at (σ : L2.St) : ∀ (vs : List Nat) (i : Nat), (wipe σ vs)[i]? = if i ∈ vs then (if i < σ.length then some none else none) else σ[i]?
  | [], i => by simp [wipe]
  | v :: vs, i => by
    unfold wipe
    by_cases e : v = i
    · subst e
      rw [List.getElem?_set]
      simp [wipe_length]
    · rw [List.getElem?_set_ne e, wipe_at σ vs i]
      have : (i ∈ v :: vs) ↔ i ∈ vs := by
        rw [List.mem_cons]
        exact ⟨fun z => z.elim (fun q => absurd q.symm e) id, .inr⟩
      simp only [this]
theorem wipe_off {σ σ' : L2.St} {l vs : List Nat} (h : Off l (wipe σ vs) σ') (i : ∀ x, x ∈ l → x ∈ vs) : wipe σ' vs = wipe σ vs := by
  apply List.ext_getElem?
  intro k
  have e : σ'.length = σ.length := by rw [h.1, wipe_length]
  rw [wipe_at, wipe_at, e]
  by_cases hk : k ∈ vs
  · rw [if_pos hk, if_pos hk]
  · rw [if_neg hk, if_neg hk, h.2 k (fun z => hk (i k z)), wipe_at, if_neg hk]
theorem clear_ok {K : PySem.W.Frag} {G H : Hp} {ι : List Addr} {env : En} {σ : L2.St} (en : EnR K G ι H env σ) : ∀ own : List Nat, EnR K G ι H (clearO own env) (wipe σ own)
  | [] => en
  | v :: vs => by
    have h := clear_ok en vs
    show EnR K G ι H ((clearO vs env).set v none) ((wipe σ vs).set v none)
    refine ⟨by simp [h.1], fun j w q => ?_⟩
    by_cases e : v = j
    · subst e
      rw [List.getElem?_set] at q
      simp at q
    · rw [List.getElem?_set_ne e] at q ⊢
      exact h.2 j w q
/-- where nothing is raised -/
def Ct.q (C : Ct) : Ct := ⟨C.K, C.Z, fun _ _ _ _ => False⟩
theorem ts_nil : PTs X [] (tB C fun _ c => .ok (true, c)) := ⟨fun pins s σ H Q I ⟨G, ι, env, c, sr, en, h⟩ => pts_nil.run pins s σ H Q I (RE.now (rel := Eqv) h sr rfl)⟩
theorem ts_one {e : Expr} {f : En → Cells → Res (Bool × Cells)} (h : PT X e (tB C f)) : PTs X [e] (tB C f) := pts_one h
/-- a thing nobody else holds, changed -/
theorem SR.other {K : PySem.W.Frag} {G H : Hp} {ι : List Addr} {c : Cells} (s : SR K G ι H c) {a : Addr} (g : G a = none) (n : a ∉ ι) (o : HO) : SR K G ι (upd H a o) c := by
  refine ⟨fun b u h => ?_, s.len, s.nd, fun b hb => ?_, fun k z b h1 h2 => ?_⟩
  · rw [upd_ne (fun e => by rw [e, g] at h; cases h)]; exact s.sub b u h
  · rw [upd_ne (show b ≠ a from fun e => n (e ▸ hb))]; exact s.has b hb
  · have ne : b ≠ a := fun e => n (e ▸ List.mem_of_getElem? h2)
    have hx := s.cel k z b h1 h2
    refine ⟨hx.1, ?_⟩
    cases z with
    | gone => trivial
    | lst xs => obtain ⟨ys, a1, a2⟩ := hx.2; exact ⟨ys, by rw [upd_ne ne]; exact a1, a2⟩
    | lk xs => obtain ⟨ys, a1, a2⟩ := hx.2; exact ⟨ys, by rw [upd_ne ne]; exact a1, a2⟩
    | dct xs => obtain ⟨ys, a1, a2⟩ := hx.2; exact ⟨ys, by rw [upd_ne ne]; exact a1, a2⟩
theorem Ex.other {ι : List Addr} {G H G' H' : Hp} (e : Ex ι G H G' H') {a : Addr} (h : H a = none) (o : HO) : Ex ι G H G' (upd H' a o) := by
  refine ⟨e.g, e.gn, fun b u q n => ?_, fun b q => ?_⟩
  · rw [upd_ne (fun z => by rw [z, h] at q; cases q)]; exact e.fr b u q n
  · by_cases z : b = a
    · subst z; rw [upd_same]; simp
    · rw [upd_ne z]; exact e.kp b q
/-- what a comprehension does -/
def lcF (own : List Nat) (p : Pt) (f : En → Cells → Res (List D × Lk × Cells)) (ft : En → Cells → Res (Bool × Cells)) (fe : En → Cells → Res (W × Cells)) : En → Cells → Res (W × Cells) := fun env c => f env c >>= fun r =>
      lcTurns (okLk r.2.1 r.1) (fun x c => ofO (bindP p x (clearO own env)) >>= fun env' => ft env' c >>= fun k =>
        if k.1 = true then fe env' k.2 >>= fun w => ofO (frz w.1) >>= fun y => .ok (some y, w.2) else .ok (none, k.2)) r.1 r.2.2 [] >>= fun q =>
      ofO (unlock r.2.1 r.1 q.2) >>= fun c' => .ok (.fl q.1, c')
theorem lc_tell {vs : List Nat} {f : En → Cells → Res (List D × Lk × Cells)} {ft : En → Cells → Res (Bool × Cells)} {fe : En → Cells → Res (W × Cells)} {p : Pt} (hp : ∀ x, x ∈ p.slots → x ∈ vs) {σ : L2.St} {H : Hp} {Q : VK}
    (hh : tE C (lcF vs p f ft fe) σ H Q) : tLc (tI C f) (tPq C.q p) (tB C.q ft) (tE C.q fe) vs σ H Q := by
  obtain ⟨G, ι, env, c, s, en, h⟩ := hh
  refine ⟨G, ι, env, c, s, en, ?_⟩
  unfold lcF at h
  cases hf : f env c with
  | no => rw [hf] at h; exact h
  | rs x y z => rw [hf] at h; exact h
  | ok r =>
    obtain ⟨items, lk, c1⟩ := r
    rw [hf] at h
    intro G1 H1 J e1 s1 src Da hDa
    have h := RE.from e1 h
    simp only [Res.bind_ok] at h
    let B : D → Cells → Res (Option D × Cells) := fun x c => ofO (bindP p x (clearO vs env)) >>= fun env' => ft env' c >>= fun k =>
        if k.1 = true then fe env' k.2 >>= fun w => ofO (frz w.1) >>= fun y => .ok (some y, w.2) else .ok (none, k.2)
    let K : List D × Cells → Res (W × Cells) := fun q => ofO (unlock lk items q.2) >>= fun c' => .ok (.fl q.1, c')
    have h : RE C (WR C.K) G1 ι H1 σ (lcTurns (okLk lk items) B items c1 [] >>= K) Q := h
    have hG : G1 Da = none := s1.sub.free hDa
    have hι : Da ∉ ι := fun z => s1.has _ z hDa
    have e0 : Ex ι G1 H1 G1 (upd H1 Da (.lst [])) := Ex.grow hDa _
    have en1 := clear_ok (en.keep e1) vs
    let Pv : Nat → Hp → Prop := fun i H' => ∃ G' c' acc ys, Ex ι G1 H1 G' H' ∧ G' Da = none ∧ SR C.K G' ι H' c' ∧ H' Da = some (.lst ys) ∧ Dvs C.K G' ys acc ∧ RE C (WR C.K) G1 ι H1 σ (lcTurns (okLk lk items) B (items.drop i) c' acc >>= K) Q
    refine ⟨fun i m H' => m = items.length - i ∧ i ≤ items.length ∧ Pv i H', ⟨items.length, by simp, Nat.zero_le _, G1, c1, [], [], e0, hG, s1.grow hDa _, upd_same, .nil, by simpa using h⟩, ?_⟩
    rintro i m H' ⟨rfl, hi, G2, c2, acc, ys, e2, hG2, s2, hD, dvs, h2⟩
    have src2 := src G2 ι H' c2 [] (by simp) e2.g s2
    by_cases hlt : i < items.length
    · have hd : items.drop i = items[i] :: items.drop (i + 1) := List.drop_eq_getElem_cons hlt
      rw [hd] at h2
      simp only [lcTurns] at h2
      split at h2
      · rename_i ck
        obtain ⟨go, _, yl⟩ := src2 ck
        refine .inr ⟨go i hlt, Pv (i + 1), fun H'' pv => ⟨items.length - (i + 1), by omega, rfl, hlt, pv⟩, fun x H3 y => ?_⟩
        obtain ⟨G3, e3, s3, dv⟩ := yl i x H3 items[i] (List.getElem?_eq_getElem hlt) y
        have e23 := e2.trans e3
        cases hb : bindP p items[i] (clearO vs env) with
        | none => simp only [B, hb, ofO_none, Res.bind_no] at h2; exact h2.elim
        | some env3 =>
          have en3 := en1.keep e23
          refine ⟨G3, ι, _, c2, _, s3, en3, dv, env3, hb, fun σ3 en3 off => ⟨wipe_off off hp, G3, ι, env3, c2, s3, en3, ?_⟩⟩
          simp only [B, hb, ofO_some, Res.bind_ok] at h2
          cases ht : ft env3 c2 with
          | no => rw [ht] at h2; exact h2.elim
          | rs x y z => rw [ht] at h2; exact h2.elim
          | ok k =>
            obtain ⟨b, c3⟩ := k
            rw [ht] at h2
            intro G4 H4 b' e4 s4 eb
            cases eb
            have e24 := e23.trans e4
            simp only [Res.bind_ok] at h2
            cases b with
            | false =>
              simp only [Bool.false_eq_true, if_false] at h2 ⊢
              exact ⟨G4, c3, acc, ys, e24, (e3.trans e4).clear hG2 hD hι, s4, (e3.trans e4).fr _ _ hD hι, dvs.mono (e3.trans e4).g, h2⟩
            | true =>
              simp only [if_true] at h2 ⊢
              refine ⟨G4, ι, env3, c3, s4, en3.keep e4, ?_⟩
              cases he : fe env3 c3 with
              | no => rw [he] at h2; exact h2.elim
              | rs x y z => rw [he] at h2; exact h2.elim
              | ok w =>
                obtain ⟨w, c4⟩ := w
                rw [he] at h2
                intro G5 H5 v e5 s5 rw'
                simp only [Res.bind_ok] at h2
                cases hy : frz w with
                | none => rw [hy] at h2; exact h2.elim
                | some y =>
                  rw [hy] at h2
                  simp only [ofO_some, Res.bind_ok] at h2
                  split at h2
                  · rename_i hl
                    have e25 := e24.trans e5
                    have hD5 : H5 Da = some (.lst ys) := ((e3.trans e4).trans e5).fr _ _ hD hι
                    obtain ⟨G6, e6, s6, g6, r6, _⟩ := frzW_ok (C := C) e5 s5 rw' (frz_W hy)
                    have e26 := (e3.trans e4).trans e6
                    have g6 := e26.clear hG2 hD hι
                    have r6 : Dv C.K G6 v y := r6
                    exact ⟨ys, hD5, by rw [dvs.length]; exact hl, G6, c4, _, _, (e2.trans e26).other hDa _, g6, s6.other g6 hι _, upd_same, (dvs.mono e26.g).append (.cons r6 .nil), h2⟩
                  · exact h2.elim
      · exact h2.elim
    · have ei' : i = items.length := by omega
      subst ei'
      rw [List.drop_length] at h2
      simp only [lcTurns] at h2
      split at h2
      · rename_i ck
        obtain ⟨_, st, _⟩ := src2 ck
        obtain ⟨c5, hu, h3⟩ := RE.opt h2
        exact .inl ⟨st, h3.later e2 (unlock_ok s2 hu) ⟨Da, ys, rfl, hG2, hι, fun z => z hDa, hD, dvs⟩⟩
      · exact h2.elim
theorem j_lc {elt tg iter : Expr} {ifs : List Expr} {scope : Scope} {own : List (Str × Nat)} {f : En → Cells → Res (List D × Lk × Cells)} {ft : En → Cells → Res (Bool × Cells)} {fe : En → Cells → Res (W × Cells)} {p : Pt} (hc : X.calm = true) (hN : X.N.Nodup)
    (hi : PI X tg iter (tI C f)) (ok : BlkOk X.N X.env.scope scope own) (hp : ∀ x, x ∈ p.slots → x ∈ own.map (·.2))
    (hg : ∀ (s : Shared) (H : Hp) (A : Addr) (cl : List (Str × Addr)) (fp : List Addr), PG (X.blk s H scope (compEnvC scope cl A X.env) fp) tg (tPq C.q p))
    (ht : ∀ (s : Shared) (H : Hp) (A : Addr) (cl : List (Str × Addr)) (fp : List Addr), PTs (X.blk s H scope (compEnvC scope cl A X.env) fp) ifs (tB C.q ft))
    (he : ∀ (s : Shared) (H : Hp) (A : Addr) (cl : List (Str × Addr)) (fp : List Addr), PE (X.blk s H scope (compEnvC scope cl A X.env) fp) elt (tE C.q fe)) (hs : ∀ x, foldedSetIterable iter X.env x = pure x) :
    PE X (.ListComp elt [⟨tg, iter, ifs, 0⟩] scope pos) (tE C (lcF (own.map (·.2)) p f ft fe)) := peI (pe_lc hc hN hi ok hg ht he hs) fun σ H Q h => lc_tell hp h
end
end Lf
end

section
set_option maxHeartbeats 4000000
/-! Where what is walked comes from. -/
namespace Lf
open PySem PySem.Spec PySem.Calls PyProof.Rows L2
section
variable {X : Cx} {C : Ct} {pos : Pos} {tg : Expr}
def iAny (K : PySem.W.Frag) (tl : TE) : TI := fun σ H R => tl σ H fun x H1 =>
  (∃ a xs, x = .ref a ∧ SqL K H1 a xs ∧ R (Itl K a) H1) ∨ (∃ a xs, x = .ref a ∧ SqT K H1 a xs ∧ R (Itt K a) H1) ∨ ∃ z, x = .str z ∧ R (Its z) H1
theorem pi_any {l : Expr} {tl : TE} (hl : PE X l tl) : PI X tg l (iAny X.K tl) := by
  constructor
  intro pins s σ H R I h
  apply thn (hl.run pins s σ H _ I h)
  rintro v s1 ⟨x, H1, J, rel, q⟩
  rcases q with ⟨a, xs, rfl, sq, q⟩ | ⟨a, xs, rfl, sq, q⟩ | ⟨z, rfl, q⟩
  · cases rel
    obtain ⟨its, _, pl, _⟩ := J.list sq
    exact wpAny_pyIter_list pl.isList (pi_one (tk := s1.toks) J _ (turn_list a _) ⟨_, Heap.get?_push_size _ rfl, rfl, rfl⟩ q)
  · cases rel
    obtain ⟨its, _, pl, _⟩ := J.tuple sq
    exact wpAny_pyIter_tuple (show s1.heap.IsTuple a its.toArray from pl) (pi_one (tk := s1.toks) J _ (turn_tuple a _) ⟨_, Heap.get?_push_size _ rfl, rfl, rfl⟩ q)
  · obtain ⟨t, rfl⟩ := rel
    by_cases ha : z.cps.all (· < 128) = true
    · exact wpAny_pyIter_ascii ha (pi_one (tk := s1.toks) J _ (turn_str _ z t _ (.inl rfl)) ⟨_, Heap.get?_push_size _ rfl, rfl, rfl⟩ q)
    · exact wpAny_pyIter_wide (Bool.eq_false_iff.mpr ha) (pi_one (tk := s1.toks) J _ (turn_str _ z t _ (.inr rfl)) ⟨_, Heap.get?_push_size _ rfl, rfl, rfl⟩ q)
section
variable {G H G1 H1 : Hp} {ι : List Addr} {σ : L2.St} {β γ : Type} {rel : Rl β γ} {R : It → Hp → Prop}
theorem RI.bind {r : Res (β × Cells)} {k : β × Cells → Res (List D × Lk × Cells)} (h : RI C G ι H σ (r >>= k) R) : RE C rel G ι H σ r fun v H' => ∃ G' c' b, Ex ι G H G' H' ∧ SR C.K G' ι H' c' ∧ rel (dm H) G' ι H' b v ∧ RI C G ι H σ (k (b, c')) R := by
  cases r with
  | ok p => exact fun G' H' v e s w => ⟨G', p.2, p.1, e, s, w, h⟩
  | rs x y c => exact fun G' H' cls d a b z => h G' H' cls d a b z
  | no => exact h
theorem RI.opt {α : Type} {o : Option α} {k : α → Res (List D × Lk × Cells)} (h : RI C G ι H σ (ofO o >>= k) R) : ∃ a, o = some a ∧ RI C G ι H σ (k a) R := by
  cases o with
  | none => exact False.elim h
  | some a => exact ⟨a, rfl, h⟩
theorem RI.from {r : Res (List D × Lk × Cells)} (e : Ex ι G H G1 H1) (h : RI C G ι H σ r R) : RI C G1 ι H1 σ r R := by
  cases r with
  | ok p => exact fun G' H' J a b c => h G' H' J (e.trans a) b c
  | rs x y c => exact fun G' H' cls d a b z => h G' H' cls d (e.trans a) b z
  | no => exact h
end
section
variable {K : PySem.W.Frag} {G : Hp} {ι : List Addr}
theorem seq_at {G H : Hp} {ys : List V} {items : List D} {i : Nat} {x : V} {d : D} (h : Dvs K G ys items) (e : items[i]? = some d) (f : ys[i]? = some x) : Dv K G x d := by
  obtain ⟨d', e', h'⟩ := h.at' f
  rw [e] at e'
  cases e'
  exact h'
theorem src_list {a : Addr} {ys : List V} {items : List D} (h : Rd G a (.lst ys)) (q : Dvs K G ys items) : Src K ι none items G (Itl K a) := by
  intro G' ι' H c e _ sm s _
  have sq : SqL K H a ys := .inl (rd_same s.sub (rd_same sm h))
  have ln := q.length
  refine ⟨fun i hi => ⟨ys, ys[i]'(by omega), sq, by simp⟩, ⟨ys, sq, by omega⟩, fun i x H' d hd hy => ?_⟩
  obtain ⟨rfl, hy⟩ := hy
  exact ⟨G', .refl, s, seq_at (H := H') (q.mono sm) hd (hy ys sq)⟩
theorem src_tup {a : Addr} {ys : List V} {items : List D} (h : SqT K G a ys) (q : Dvs K G ys items) : Src K ι none items G (Itt K a) := by
  intro G' ι' H c e _ sm s _
  have sq : SqT K H a ys := sqT_same s.sub (sqT_same sm h)
  have ln := q.length
  refine ⟨fun i hi => ⟨ys, ys[i]'(by omega), sq, by simp⟩, ⟨ys, sq, by omega⟩, fun i x H' d hd hy => ?_⟩
  obtain ⟨rfl, hy⟩ := hy
  exact ⟨G', .refl, s, seq_at (H := H') (q.mono sm) hd (hy ys sq)⟩
theorem src_str {z : Str} : Src K ι none (z.cps.toList.map fun c => .str ⟨#[c]⟩) G (Its z) := by
  intro G' ι' H c e _ sm s _
  refine ⟨fun i hi => by simpa [Its] using hi, by simp [Its], fun i x H' d hd hy => ?_⟩
  obtain ⟨rfl, k, hk, rfl⟩ := hy
  refine ⟨G', .refl, s, ?_⟩
  rw [List.getElem?_map, Array.getElem?_toList, hk] at hd
  cases hd
  exact .str _
theorem src_cell {n : Nat} {b : Bool} {a : Addr} {items : List D} (h : ι[n]? = some a) : Src K ι (some (n, b)) items G (Itl K a) := by
  intro G' ι' H c e eι sm s ok
  simp only [okLk] at ok
  split at ok
  · rename_i zs hc
    have := D.sames_eq ok
    subst this
    obtain ⟨a', h1, _, ys, h2, q⟩ := s.cell hc
    rw [eι, List.getElem?_append_left (List.getElem?_eq_some_iff.mp h).1, h] at h1
    cases h1
    have sq : SqL K H a ys := .inl (.inl h2)
    have ln := q.length
    refine ⟨fun i hi => ⟨ys, ys[i]'(by omega), sq, by simp⟩, ⟨ys, sq, by omega⟩, fun i x H' d hd hy => ?_⟩
    obtain ⟨rfl, hy⟩ := hy
    exact ⟨G', .refl, s, seq_at (H := H') q hd (hy ys sq)⟩
  · cases ok
theorem src_rng {lo : Int} {n : Nat} : Src K ι none (rngL lo n) G (Itr lo n) := by
  intro G' ι' H c e _ sm s _
  refine ⟨fun i hi => by simpa [rngL, Itr] using hi, by simp [rngL, Itr], fun i x H' d hd hy => ?_⟩
  obtain ⟨rfl, rfl⟩ := hy
  refine ⟨G', .refl, s, ?_⟩
  unfold rngL at hd
  rw [List.getElem?_map] at hd
  by_cases hi : i < n
  · rw [List.getElem?_range hi] at hd
    cases hd
    exact .int _
  · rw [List.getElem?_eq_none (by simp; omega)] at hd
    cases hd
theorem zip_at {xs ys : List D} {i : Nat} {d : D} (h : (zipD xs ys)[i]? = some d) : ∃ x y, xs[i]? = some x ∧ ys[i]? = some y ∧ d = .tup [x, y] := by
  unfold zipD at h
  rw [List.getElem?_zipWith] at h
  cases hx : xs[i]? with
  | none => rw [hx] at h; simp at h
  | some x =>
    cases hy : ys[i]? with
    | none => rw [hx, hy] at h; simp at h
    | some y => rw [hx, hy] at h; cases h; exact ⟨x, y, rfl, rfl, rfl⟩
theorem zip_len {xs ys : List D} : (zipD xs ys).length = min xs.length ys.length := by simp [zipD]
/-- a zip's pairs, its parts A read in G -/
theorem src_zip {A : Hp → Addr → List V → Prop} (mono : ∀ {G H : Hp} {a : Addr} {xs : List V}, Same G H → A G a xs → A H a xs) {a b : Addr} {us vs : List V} {xs ys : List D} (h1 : A G a us) (q1 : Dvs K G us xs) (h2 : A G b vs) (q2 : Dvs K G vs ys) : Src K ι none (zipD xs ys) G (ItzF A a b) := by
  intro G' ι' H c e _ sm s _
  have s1 : A H a us := mono s.sub (mono sm h1)
  have s2 : A H b vs := mono s.sub (mono sm h2)
  have l1 := q1.length
  have l2 := q2.length
  rw [zip_len]
  refine ⟨fun i hi => ⟨us, vs, us[i]'(by omega), vs[i]'(by omega), s1, s2, by simp, by simp⟩, ⟨us, vs, s1, s2, by omega⟩, fun i x H' d hd hy => ?_⟩
  obtain ⟨T, o, u, v, rfl, od, hT, rfl, k1, k2⟩ := hy
  obtain ⟨d1, d2, e1, e2, rfl⟩ := zip_at hd
  refine ⟨_, Ex.tup hT (s.sub.free hT) _, s.tup hT _, ?_⟩
  have sm' : Same G' (upd G' T (.frz o (.tup [u, v]))) := sameG (s.sub.free hT)
  exact .tup (.new od) (.cons ((seq_at (H := H) (q1.mono sm) e1 (k1 us s1)).mono sm') (.cons ((seq_at (H := H) (q2.mono sm) e2 (k2 vs s2)).mono sm') .nil))
theorem sqL_mono {G H : Hp} {a : Addr} {xs : List V} (s : Same G H) (h : SqL K G a xs) : SqL K H a xs := sqL_same s h
end
theorem SR.lock {K : PySem.W.Frag} {G H : Hp} {ι : List Addr} {c : Cells} {n : Nat} {xs : List D} (s : SR K G ι H c) (h : c[n]? = some (.lst xs)) : SR K G ι H (c.set n (.lk xs)) := by
  refine ⟨s.sub, by simp [s.len], s.nd, s.has, fun k z a h1 h2 => ?_⟩
  by_cases e : n = k
  · subst e
    rw [List.getElem?_set_self (List.getElem?_eq_some_iff.mp h).1] at h1
    cases h1
    have q := s.cel n _ a h h2
    exact ⟨fun _ => q.1 nofun, q.2⟩
  · rw [List.getElem?_set_ne e] at h1
    exact s.cel k z a h1 h2
theorem i_it {e : Expr} {f : En → Cells → Res (W × Cells)} (hK : X.K = C.K) (he : PE X e (tE C f)) : PI X tg e (tI C fun env c => f env c >>= fun r => ofO (walked r.2 r.1)) := by
  refine piI (pi_any he) fun σ H R ⟨G, ι, env, c, s, en, h⟩ => ⟨G, ι, env, c, s, en, RE.imp (RI.bind (rel := WR C.K) h) fun v H1 ⟨G1, c1, w, e1, s1, r1, h1⟩ => ?_⟩
  rw [hK]
  have h0 := h1
  have h1 := h1.from e1
  dsimp only at h0 h1
  cases w with
  | d x =>
    have r1 : Dv C.K G1 v x := r1
    cases x with
    | lst xs => cases r1 with
      | lst a b => exact .inl ⟨_, _, rfl, .inl (rd_same s1.sub a), h1 G1 H1 _ .refl s1 (src_list a b)⟩
    | tup xs => cases r1 with
      | tup a b => exact .inr (.inl ⟨_, _, rfl, sqT_same s1.sub a.sqT, h1 G1 H1 _ .refl s1 (src_tup a.sqT b)⟩)
    | str z => cases r1 with
      | str => exact .inr (.inr ⟨_, rfl, h1 G1 H1 _ .refl s1 src_str⟩)
    | non => exact h1.elim
    | bl _ => exact h1.elim
    | int _ => exact h1.elim
  | fl xs =>
    obtain ⟨G2, e2, s2, g2, r2, _⟩ := frzW_ok e1 s1 r1 (w' := .d (.lst xs)) rfl
    have r2 : Dv C.K G2 v (.lst xs) := r2
    cases r2 with
    | lst a b => exact .inl ⟨_, _, rfl, .inl (rd_same s2.sub a), h0 G2 H1 _ e2 s2 (src_list a b)⟩
  | fd _ => exact h1.elim
  | sq _ => exact h1.elim
  | ref n =>
    obtain ⟨a, ha, rfl⟩ := r1
    simp only [walked] at h1
    split at h1
    · rename_i xs hc
      obtain ⟨a', z1, _, ys, z2, z3⟩ := s1.cell hc
      rw [ha] at z1; cases z1
      exact .inl ⟨a, ys, rfl, .inl (.inl z2), h1 G1 H1 _ .refl (s1.lock hc) (src_cell ha)⟩
    · rename_i xs hc
      obtain ⟨a', z1, _, ys, z2, z3⟩ := s1.cell hc
      rw [ha] at z1; cases z1
      exact .inl ⟨a, ys, rfl, .inl (.inl z2), h1 G1 H1 _ .refl s1 (src_cell ha)⟩
    · exact h1.elim
theorem i_rng1 {a : Expr} {f : En → Cells → Res (List W × Cells)} {p : Pos} (hg : Gl X "range") (hm : X.mg "range" = none) (ha : PA X [a] (tA C f)) (hs : starEach [a] X.env = [(false, eval a X.env)]) :
    PI X tg (.Call (.Name "range" p) [a] [] pos) (tI C fun env c => f env c >>= fun r => ofO (views r.2 r.1) >>= fun xs => ofO (rng1 xs) >>= fun items => .ok (items, none, r.2)) := by
  refine piI (pi_range1 hg hm ha hs) fun σ H R ⟨G, ι, env, c, s, en, h⟩ => ⟨G, ι, env, c, s, en, RE.imp (RI.bind (rel := WRs C.K) h) fun v H1 ⟨G1, c1, w, e1, s1, r1, h1⟩ => ?_⟩
  have h1 := h1.from e1
  dsimp only at h1
  obtain ⟨xs, hx, h2⟩ := RI.opt h1
  obtain ⟨items, hi, h3⟩ := RI.opt h2
  have vw := views_ok s1 r1 hx
  unfold rng1 at hi
  split at hi
  · rename_i j
    split at hi
    · rename_i b
      cases hi
      obtain ⟨u, rfl, x1⟩ := vws1 vw
      have := x1.intE
      subst this
      exact ⟨j, rfl, by omega, by omega, h3 G1 H1 _ .refl s1 src_rng⟩
    · cases hi
  · cases hi
theorem i_rng2 {a b : Expr} {f : En → Cells → Res (List W × Cells)} {p : Pos} (hg : Gl X "range") (hm : X.mg "range" = none) (ha : PA X [a, b] (tA C f)) (hs : starEach [a, b] X.env = [(false, eval a X.env), (false, eval b X.env)]) (hs2 : starEach [b] X.env = [(false, eval b X.env)]) :
    PI X tg (.Call (.Name "range" p) [a, b] [] pos) (tI C fun env c => f env c >>= fun r => ofO (views r.2 r.1) >>= fun xs => ofO (rng2 xs) >>= fun items => .ok (items, none, r.2)) := by
  refine piI (pi_range2 hg hm ha hs hs2) fun σ H R ⟨G, ι, env, c, s, en, h⟩ => ⟨G, ι, env, c, s, en, RE.imp (RI.bind (rel := WRs C.K) h) fun v H1 ⟨G1, c1, w, e1, s1, r1, h1⟩ => ?_⟩
  have h1 := h1.from e1
  dsimp only at h1
  obtain ⟨xs, hx, h2⟩ := RI.opt h1
  obtain ⟨items, hi, h3⟩ := RI.opt h2
  have vw := views_ok s1 r1 hx
  unfold rng2 at hi
  split at hi
  · rename_i i j
    split at hi
    · rename_i b
      cases hi
      obtain ⟨u, v, rfl, x1, x2⟩ := vws2 vw
      have := x1.intE
      subst this
      have := x2.intE
      subst this
      exact ⟨i, j, rfl, ⟨by omega, by omega, by omega, by omega⟩, h3 G1 H1 _ .refl s1 src_rng⟩
    · cases hi
  · cases hi
theorem zipW_ok {K : PySem.W.Frag} {O : Addr → Prop} {G H : Hp} {ι : List Addr} {ws : List W} {vs : List V} {xs : List D} (r : WRs K O G ι H ws vs) (h : zipW ws = some xs) :
    ∃ a b us ts as bs, vs = [.ref a, .ref b] ∧ xs = zipD as bs ∧ Dvs K G us as ∧ Dvs K G ts bs ∧ ((Rd G a (.lst us) ∧ Rd G b (.lst ts)) ∨ (SqT K G a us ∧ SqT K G b ts)) := by
  unfold zipW at h
  split at h
  · cases h
    cases r with
    | cons a r => cases r with
      | cons b r =>
        cases r
        have a : Dv K G _ _ := a
        have b : Dv K G _ _ := b
        cases a with
        | lst a1 a2 => cases b with
          | lst b1 b2 => exact ⟨_, _, _, _, _, _, rfl, rfl, a2, b2, .inl ⟨a1, b1⟩⟩
  · cases h
    cases r with
    | cons a r => cases r with
      | cons b r =>
        cases r
        have a : Dv K G _ _ := a
        have b : Dv K G _ _ := b
        cases a with
        | tup a1 a2 => cases b with
          | tup b1 b2 => exact ⟨_, _, _, _, _, _, rfl, rfl, a2, b2, .inr ⟨a1.sqT, b1.sqT⟩⟩
  · cases h
theorem i_zip {a b : Expr} {f : En → Cells → Res (List W × Cells)} {p tpos : Pos} {elts : List Expr} {kk : Nat} (hK : X.K = C.K) (hg : Gl X "zip") (hm : X.mg "zip" = none) (ha : PA X [a, b] (tA C f)) (hs : starEach [a, b] X.env = (false, eval a X.env) :: starEach [b] X.env) (hpl : (backTo pos (starEach [b] X.env)).any (·.1) = false) :
    PI X (.Tuple elts kk tpos) (.Call (.Name "zip" p) [a, b] [] pos) (tI C fun env c => f env c >>= fun r => ofO (zipW r.1) >>= fun items => .ok (items, none, r.2)) := by
  refine piI (pi_zipF hg hm ha hs hpl) fun σ H R ⟨G, ι, env, c, s, en, h⟩ => ⟨G, ι, env, c, s, en, RE.imp (RI.bind (rel := WRs C.K) h) fun v H1 ⟨G1, c1, w, e1, s1, r1, h1⟩ => ?_⟩
  have h1 := h1.from e1
  dsimp only at h1
  obtain ⟨items, hi, h3⟩ := RI.opt h1
  rw [hK]
  obtain ⟨a, b, us, ts, as, bs, rfl, rfl, q1, q2, ⟨z1, z2⟩ | ⟨z1, z2⟩⟩ := zipW_ok r1 hi
  · exact ⟨a, b, us, ts, rfl, .inl ⟨.inl (rd_same s1.sub z1), .inl (rd_same s1.sub z2), h3 G1 H1 _ .refl s1 (src_zip (A := SqL C.K) sqL_same (.inl z1) q1 (.inl z2) q2)⟩⟩
  · exact ⟨a, b, us, ts, rfl, .inr ⟨sqT_same s1.sub z1, sqT_same s1.sub z2, h3 G1 H1 _ .refl s1 (src_zip (A := SqT C.K) sqT_same z1 q1 z2 q2)⟩⟩
end
end Lf
end

section
set_option maxHeartbeats 4000000
/-! Methods, dicts. -/
namespace Lf
open PySem PySem.Spec PySem.Calls PyProof.Rows L2
section
variable {X : Cx} {C : Ct} {pos : Pos}
theorem RE.opt0 {β γ : Type} {rel : Rl β γ} {G H : Hp} {ι : List Addr} {σ : L2.St} {o : Option (β × Cells)} {Q : γ → Hp → Prop} (h : RE C rel G ι H σ (ofO o) Q) : ∃ p, o = some p ∧ RE C rel G ι H σ (.ok p) Q := by
  cases o with
  | none => exact False.elim h
  | some a => exact ⟨a, rfl, h⟩
def Me.id : Me → String
  | .lpop => "list.pop"
  | .lapp => "list.append"
  | .lext => "list.extend"
  | .tidx => "tuple.index"
  | .supp => "str.upper"
def Me.ty : Me → String
  | .lpop | .lapp | .lext => "list"
  | .tidx => "tuple"
  | .supp => "str"
def Me.nm : Me → Str
  | .lpop => "pop"
  | .lapp => "append"
  | .lext => "extend"
  | .tidx => "index"
  | .supp => "upper"
def rMe (K : PySem.W.Frag) (m : Me) : V → List V → Hp → VK → Prop := fun x vs H Q => ∃ O G ι c w ws w' c', SR K G ι H c ∧ WR K O G ι H w x ∧ WRs K O G ι H ws vs ∧ meW c m w ws = some (w', c') ∧
  ∀ G' H' v, Ex ι G H G' H' → SR K G' ι H' c' → WR K (dm H) G' ι H' w' v → Q v H'
theorem idx_in {α : Type} [BEq α] [LawfulBEq α] {z : α} {ys : List α} (h : z ∈ ys) : ys[ys.idxOf z]? = some z := by
  rw [List.getElem?_eq_getElem (List.idxOf_lt_length_of_mem h)]
  simp
theorem idx_first {α : Type} [BEq α] [LawfulBEq α] {z : α} : ∀ {ys : List α} {m : Nat}, m < ys.idxOf z → ys[m]? ≠ some z
  | [], m, h => by simp at h
  | y :: ys, m, h => by
    rw [List.idxOf_cons] at h
    by_cases e : y = z
    · subst e; simp at h
    · have e' : (y == z) = false := by simpa using e
      rw [e'] at h
      cases m with
      | zero => simpa using e
      | succ m => simpa using idx_first (ys := ys) (z := z) (m := m) (by simpa using h)
/-- l.extend(r), r any list -/
def rExtR : V → List V → Hp → VK → Prop := fun x vs H Q => ∃ l b xs zs, x = .ref l ∧ vs = [.ref b] ∧ H l = some (.lst xs) ∧ Rd H b (.lst zs) ∧ xs.length + zs.length ≤ sizeLine ∧ Q .non (upd H l (.lst (xs ++ zs)))
theorem mt_extR {X : Cx} : MtR X "list.extend" rExtR := by
  rintro pins s σ H _ _ v us Q I rx rv ⟨l, b, xs, zs, rfl, rfl, hl, hb, hz, q⟩
  cases rx
  obtain ⟨u, rfl, ru⟩ := rv.one
  cases ru
  obtain ⟨_, its, n, r, len, at1⟩ := I.lstM hl
  obtain ⟨_, its2, n2, r2, at2⟩ := hb.ok I.hok
  have len2 := r2.length
  have few : its.toArray.size + its2.toArray.size ≤ sizeLine := by simp only [List.size_toArray]; omega
  refine call_meets F.slot_list_extend ⟨_, at1, rfl⟩ F.entry_list_extend (F.args_list_extend_2 _ _) (AutoSeq1.list_extend_list_list_0 l its.toArray n b its2.toArray n2 (by rw [notLongL few, Bool.and_false]; nofun) (by simp only [List.size_toArray]; omega) (by omega)) ⟨at1, at2, .non, _, I.lset (its' := its ++ its2) hl at1 (by simp) (r.append r2) (by simp; omega), rfl, q⟩
theorem strs_dv {K : PySem.W.Frag} {G : Hp} : ∀ {xs : List D} {ys : List Str} {vs : List V}, strsOf xs = some ys → Dvs K G vs xs → vs = ys.map V.str
  | [], _, _, e, h => by cases e; cases h; rfl
  | x :: xs, ys, _, e, h => by
    cases h with
    | cons a b =>
      cases x with
      | str z =>
        simp only [strsOf] at e
        split at e
        · rename_i zs hz
          cases e
          cases a
          rw [strs_dv hz b]; rfl
        · cases e
      | _ => simp [strsOf] at e
theorem me_ok (m : Me) : MtR X m.id (rMe X.K m) := by
  intro pins s σ H x vs v us Q I rx rv ⟨O, G, ι, c, w, ws, w', c', sr, rw', rws, h, q⟩
  cases m with
  | lpop =>
    simp only [meW] at h
    unfold popW at h
    split at h
    · rename_i n
      obtain ⟨a, ha, rfl⟩ := rw'
      cases rws
      split at h
      · rename_i xs hc
        split at h
        · rename_i y hy
          cases h
          obtain ⟨a', z1, _, ys, z2, z3⟩ := sr.cell hc
          rw [ha] at z1; cases z1
          rw [← z3.length] at hy
          obtain ⟨u, hu, du⟩ := z3.at hy
          obtain ⟨s', e'⟩ := sr.turn hc nofun ha (y := .lst xs.dropLast) (o := .lst ys.dropLast) ⟨_, upd_same, z3.dropLast⟩
          exact mt_pop pins s σ H _ _ v us Q I rx rv ⟨a, ys, u, rfl, rfl, z2, hu, q G _ u e' s' du⟩
        · cases h
      · cases h
    · rename_i n w1
      obtain ⟨a, ha, rfl⟩ := rw'
      cases rws with
      | cons r1 rr =>
        cases rr
        split at h
        · rename_i xs i hc hv
          split at h
          · rename_i hb
            split at h
            · rename_i k hk
              split at h
              · rename_i y hy
                cases h
                obtain ⟨a', z1, _, ys, z2, z3⟩ := sr.cell hc
                rw [ha] at z1; cases z1
                have := (vw_of sr r1 hv).intE
                subst this
                obtain ⟨u, hu, du⟩ := z3.at hy
                obtain ⟨s', e'⟩ := sr.turn hc nofun ha (y := .lst (xs.eraseIdx k)) (o := .lst (ys.eraseIdx k)) ⟨_, upd_same, z3.erase k⟩
                exact mt_popAt pins s σ H _ _ v us Q I rx rv ⟨a, ys, i, k, u, rfl, rfl, z2, by omega, by omega, by rw [z3.length]; exact hk, hu, q G _ u e' s' du⟩
              · cases h
            · cases h
          · cases h
        · cases h
    · cases h
  | lapp =>
    simp only [meW] at h
    unfold appW at h
    split at h
    · rename_i n y
      obtain ⟨a, ha, rfl⟩ := rw'
      cases rws with
      | cons r1 rr =>
        cases rr
        split at h
        · rename_i xs hc
          split at h
          · rename_i hl
            cases h
            obtain ⟨a', z1, _, ys, z2, z3⟩ := sr.cell hc
            rw [ha] at z1; cases z1
            have r1 : Dv X.K G _ y := r1
            obtain ⟨s', e'⟩ := sr.turn hc nofun ha (y := .lst (xs ++ [y])) (o := .lst (ys ++ [_])) ⟨_, upd_same, z3.append (.cons r1 .nil)⟩
            exact mt_append pins s σ H _ _ v us Q I rx rv ⟨a, ys, _, rfl, rfl, z2, by rw [z3.length]; exact hl, q G _ .non e' s' .non⟩
          · cases h
        · cases h
    · cases h
  | lext =>
    simp only [meW] at h
    unfold extW at h
    split at h
    · rename_i n zs
      obtain ⟨a, ha, rfl⟩ := rw'
      cases rws with
      | cons r1 rr =>
        cases rr
        split at h
        · rename_i xs hc
          split at h
          · rename_i hl
            cases h
            obtain ⟨a', z1, _, ys, z2, z3⟩ := sr.cell hc
            rw [ha] at z1; cases z1
            have r1 : Dv X.K G _ (.lst zs) := r1
            cases r1 with
            | lst rd dz =>
              obtain ⟨s', e'⟩ := sr.turn hc nofun ha (y := .lst (xs ++ zs)) (o := .lst (ys ++ _)) ⟨_, upd_same, z3.append dz⟩
              exact mt_extR pins s σ H _ _ v us Q I rx rv ⟨a, _, ys, _, rfl, rfl, z2, rd_same sr.sub rd, by rw [z3.length, dz.length]; exact hl, q G _ .non e' s' .non⟩
          · cases h
        · cases h
    · cases h
  | tidx =>
    simp only [meW] at h
    unfold tidxW at h
    split at h
    · rename_i w1 z
      cases rws with
      | cons r1 rr =>
        cases rr
        split at h
        · rename_i xs hv
          split at h
          · rename_i j hj
            cases h
            obtain ⟨p, vs, rfl, hq, dv⟩ := (vw_of sr rw' hv).tupE
            have r1 : Dv X.K G _ (.str z) := r1
            cases r1
            unfold idxS at hj
            split at hj
            · rename_i ys hy
              split at hj
              · rename_i hm
                cases hj
                have e := strs_dv hy dv
                subst e
                refine mt_tup_index pins s σ H _ _ v us Q I rx rv ⟨p, ys, z, ys.idxOf z, rfl, rfl, sqT_same sr.sub hq, idx_in hm, fun m hm' => idx_first hm', q G H _ .refl sr (.int _)⟩
              · cases hj
            · cases hj
          · cases h
        · cases h
    · cases h
  | supp =>
    simp only [meW] at h
    unfold suppW at h
    split at h
    · cases rws
      split at h
      · rename_i z hv
        split at h
        · rename_i hl
          cases h
          cases (vw_of sr rw' hv).strE
          exact mt_upper pins s σ H _ _ v us Q I rx rv ⟨_, rfl, rfl, hl, q G H _ .refl sr (.str _)⟩
        · cases h
      · cases h
    · cases h
/-- a value of a built-in type, without a dict of its own -/
def tyQ (K : PySem.W.Frag) (T : String) (x : V) (H : Hp) : Prop := ∀ (X : Cx) (pins : List (Addr × Obj)) (σ : L2.St) (s : Shared) (v : Value), X.K = K → Inv X pins σ H s → RelV x v → s.TypeIs v T ∧ ∀ a, v = .ref a → ∃ ob, s.heap.get? a = some ob ∧ ob.dict = none
theorem tyQ_of {K : PySem.W.Frag} {T : String} {x : V} {H : Hp} (h : tyV K T x H) : tyQ K T x H := fun X pins σ s v e I r => tyV_is I r (by rw [e]; exact h)
theorem tyQ_tup {K : PySem.W.Frag} {G H : Hp} {a : Addr} {xs : List V} (sm : Same G H) (h : TpP K G a xs) : tyQ K "tuple" (.ref a) H := fun X pins σ s v e I r => by
  cases r
  rcases h with ⟨o, g, d⟩ | ⟨o, its, n, k, c, _, _, _, d⟩
  · obtain ⟨e1, _, its, _, o', e2, c, _⟩ := I.hok a _ (sm _ _ g)
    rw [e1] at e2
    cases e2
    exact ⟨⟨o, e1, c⟩, fun b z => by cases z; exact ⟨o, e1, d⟩⟩
  · have e1 := I.kIn a o (by rw [e]; exact k)
    exact ⟨⟨o, e1, c⟩, fun b z => by cases z; exact ⟨o, e1, d⟩⟩
section
variable {X : Cx} {o e : Expr} {es : List Expr} {to : TE} {t : TA} {name : Str} {apos cpos : Pos} {T id : String} {r : V → List V → Hp → VK → Prop}
/-- o.name() -/
theorem pe_q0 (pa : PlainAttrs T) (slot : Slot T name id) (hty : typeOf (.builtin id) = pure (.type "method_descriptor")) (hm : MtR X id r) (ho : PE X o to) (hbase : attributeBase o name X.env (eval o X.env) = eval o X.env) (hline : (apos.endLine == cpos.line) = true) :
    PE X (.Call (.Attribute o name apos) [] [] cpos) fun σ H Q => to σ H fun x H1 => tyQ X.K T x H1 ∧ r x [] H1 Q :=
  ⟨fun pins s σ H Q I h => wpAny_Call_method0_late hbase hline (thn (ho.run pins s σ H _ I h) fun v s1 ⟨x, H1, I1, r1, ty, q1⟩ =>
    ⟨T, id, pa, slot, hty, (ty X pins σ s1 v rfl I1 r1).1, (ty X pins σ s1 v rfl I1 r1).2, Calls.callWith_builtin rfl (PySem.evalArgs_none (hm pins s1 σ H1 x [] v [] Q I1 r1 .nil q1))⟩)⟩
/-- o.name(e, ..) -/
theorem pe_q (pa : PlainAttrs T) (slot : Slot T name id) (hty : typeOf (.builtin id) = pure (.type "method_descriptor")) (hm : MtR X id r) (ho : PE X o to) (ha : PA X (e :: es) t) (hbase : attributeBase o name X.env (eval o X.env) = eval o X.env)
    (hfew : ((backTo cpos (starEach (e :: es) X.env)).all (fun x => !x.1) && (backToKw cpos (keywordEach [] X.env)).all (fun x => x.1.isSome)
      && decide ((e :: es).length + ([] : List Keyword).length + (if ([] : List Keyword).isEmpty then 0 else 1) < 30)) = true)
    (hline : (apos.endLine == cpos.line) = true) (hs : starEach (e :: es) X.env = (false, eval e X.env) :: starEach es X.env) (hplain : (backTo cpos (starEach es X.env)).any (·.1) = false) :
    PE X (.Call (.Attribute o name apos) (e :: es) [] cpos) fun σ H Q => to σ H fun x H1 => tyQ X.K T x H1 ∧ t σ H1 fun xs H2 => r x xs H2 Q := by
  refine ⟨fun pins s σ H Q I h => wpAny_Call_method_late hbase hfew hline rfl (thn (ho.run pins s σ H _ I h) fun v s1 ⟨x, H1, I1, r1, ty, q1⟩ => ?_)⟩
  obtain ⟨h1, h2⟩ := ty X pins σ s1 v rfl I1 r1
  have run := ha.run cpos pins s1 σ H1 _ I1 q1
  rw [hs] at run
  refine ⟨T, id, pa, slot, hty, h1, h2, ?_⟩
  rw [hs]
  exact Calls.callWith_builtin (by show (false || (backTo cpos (starEach es X.env)).any (·.1)) = false; rw [hplain]; rfl) (Calls.evalArgs_plain (thn run fun us s2 ⟨vs, H2, I2, r2, q2⟩ => hm pins s2 σ H2 x vs v us Q I2 r1 r2 q2))
end
theorem tyMe_ok {K : PySem.W.Frag} {O : Addr → Prop} {G H : Hp} {ι : List Addr} {c : Cells} {w : W} {v : V} (s : SR K G ι H c) (r : WR K O G ι H w v) : ∀ {m : Me}, tyMe c w m = true → tyQ K m.ty v H := by
  have go : (match view c w with | some (.lst _) => true | _ => false) = true → tyQ K "list" v H := fun h => by
    split at h
    · rename_i xs hx
      obtain ⟨a, ys, rfl, h1, _⟩ := (vw_of s r hx).lstE
      exact tyQ_of (.inl ⟨rfl, ys, .inl h1⟩)
    · cases h
  intro m h
  cases m with
  | lpop => exact go h
  | lapp => exact go h
  | lext => exact go h
  | tidx =>
    have h : (match view c w with | some (.tup _) => true | _ => false) = true := h
    split at h
    · rename_i xs hx
      obtain ⟨a, ys, rfl, h1, _⟩ := (vw_of s r hx).tupP
      exact tyQ_tup s.sub h1
    · cases h
  | supp =>
    have h : (match view c w with | some (.str _) => true | _ => false) = true := h
    split at h
    · rename_i x hx
      cases (vw_of s r hx).strE
      exact fun X pins σ s v e I r => by
        obtain ⟨t, rfl⟩ := r
        exact ⟨rfl, fun a z => nomatch z⟩
    · cases h
theorem me_slot (m : Me) : PlainAttrs m.ty ∧ Slot m.ty m.nm m.id ∧ typeOf (.builtin m.id) = pure (.type "method_descriptor") := by
  cases m with
  | lpop => exact ⟨F.plainAttrs_list, F.slot_list_pop, F.type_list_pop⟩
  | lapp => exact ⟨F.plainAttrs_list, F.slot_list_append, F.type_list_append⟩
  | lext => exact ⟨F.plainAttrs_list, F.slot_list_extend, F.type_list_extend⟩
  | tidx => exact ⟨F.plainAttrs_tuple, F.slot_tuple_index, F.type_tuple_index⟩
  | supp => exact ⟨F.plainAttrs_str, F.slot_str_upper, F.type_str_upper⟩
theorem j_meth0 {o : Expr} {name : Str} {apos cpos : Pos} {f : En → Cells → Res (W × Cells)} (m : Me) (hn : name = m.nm) (hK : X.K = C.K) (ho : PE X o (tE C f)) (hbase : attributeBase o name X.env (eval o X.env) = eval o X.env) (hline : (apos.endLine == cpos.line) = true) :
    PE X (.Call (.Attribute o name apos) [] [] cpos) (tE C fun env c => f env c >>= fun r => if tyMe r.2 r.1 m = true then (.ok ([], r.2) : Res (List W × Cells)) >>= fun q => ofO (meW q.2 m r.1 q.1) else .no) := by
  subst hn
  obtain ⟨a, b, d⟩ := me_slot m
  refine peI (pe_q0 a b d (me_ok m) ho hbase hline) fun σ H Q ⟨G, ι, env, c, s, en, h⟩ => ⟨G, ι, env, c, s, en, RE.imp (RE.bind (rel := WR C.K) h) fun v H1 ⟨G1, c1, w, e1, s1, r1, h1⟩ => ?_⟩
  dsimp only at h1
  split at h1
  · rename_i ty
    rw [hK]
    refine ⟨tyMe_ok s1 r1 ty, ?_⟩
    obtain ⟨p, hp, h2⟩ := RE.opt0 (o := meW c1 m w []) h1
    exact ⟨_, G1, ι, c1, w, [], p.1, p.2, s1, r1, .nil, hp, fun G' H' v a b d => h2.later (e1.trans a) b (d.weak e1.kp)⟩
  · exact h1.elim
theorem j_meth {o e : Expr} {es : List Expr} {name : Str} {apos cpos : Pos} {f : En → Cells → Res (W × Cells)} {g : En → Cells → Res (List W × Cells)} (m : Me) (hn : name = m.nm) (hK : X.K = C.K) (ho : PE X o (tE C f)) (ha : PA X (e :: es) (tA C g)) (hbase : attributeBase o name X.env (eval o X.env) = eval o X.env)
    (hfew : ((backTo cpos (starEach (e :: es) X.env)).all (fun x => !x.1) && (backToKw cpos (keywordEach [] X.env)).all (fun x => x.1.isSome)
      && decide ((e :: es).length + ([] : List Keyword).length + (if ([] : List Keyword).isEmpty then 0 else 1) < 30)) = true)
    (hline : (apos.endLine == cpos.line) = true) (hs : starEach (e :: es) X.env = (false, eval e X.env) :: starEach es X.env) (hplain : (backTo cpos (starEach es X.env)).any (·.1) = false) :
    PE X (.Call (.Attribute o name apos) (e :: es) [] cpos) (tE C fun env c => f env c >>= fun r => if tyMe r.2 r.1 m = true then g env r.2 >>= fun q => ofO (meW q.2 m r.1 q.1) else .no) := by
  subst hn
  obtain ⟨a, b, d⟩ := me_slot m
  refine peI (pe_q a b d (me_ok m) ho ha hbase hfew hline hs hplain) fun σ H Q ⟨G, ι, env, c, s, en, h⟩ => ⟨G, ι, env, c, s, en, RE.imp (RE.bind (rel := WR C.K) h) fun v H1 ⟨G1, c1, w, e1, s1, r1, h1⟩ => ?_⟩
  dsimp only at h1
  split at h1
  · rename_i ty
    rw [hK]
    refine ⟨tyMe_ok s1 r1 ty, G1, ι, env, c1, s1, en.keep e1, RE.imp (RE.bind (rel := WRs C.K) (h1.from e1)) fun vs H2 ⟨G2, c2, ws, e2, s2, r2, h2⟩ => ?_⟩
    obtain ⟨p, hp, h3⟩ := RE.opt0 (o := meW c2 m w ws) h2
    exact ⟨dm H, G2, ι, c2, w, ws, p.1, p.2, s2, r1.keep e2, r2.weak e1.kp, hp, fun G' H' v a b d => h3.later (e2.trans a) b (d.weak e2.kp)⟩
  · exact h1.elim

/-! ### dicts -/
def PrR (K : PySem.W.Frag) : Rl (List (D × D)) (List (V × V)) := fun _ G _ _ kvs ps => ∃ ks : List (L2.Key × V), ps = ks.map (fun kv => (kV kv.1, kv.2)) ∧ Kvs K G ks kvs
instance {K : PySem.W.Frag} : Weak (PrR K) := ⟨fun _ h => h⟩
/-- the pairs of a display told by f -/
def PD (X : Cx) (pos : Pos) (C : Ct) (keys : List (Option Expr)) (values : List Expr) (f : En → Cells → Res (List (D × D) × Cells)) : Prop :=
  ∃ trs, PPs X pos keys values trs ∧ ∀ (σ : L2.St) (H : Hp) (Q : List (V × V) → Hp → Prop), (∃ G ι env c, SR C.K G ι H c ∧ EnR C.K G ι H env σ ∧ RE C (PrR C.K) G ι H σ (f env c) Q) → tPairs trs σ H Q
theorem d_nil : PD X pos C [] [] (fun _ c => .ok ([], c)) := ⟨[], pps_nil, fun σ H Q ⟨G, ι, env, c, s, en, h⟩ => h.now s ⟨[], rfl, .nil⟩⟩
theorem d_cons {k v : Expr} {ks : List (Option Expr)} {vs : List Expr} {fk fv : En → Cells → Res (W × Cells)} {f : En → Cells → Res (List (D × D) × Cells)} (hk : PE X k (tE C fk)) (hv : PE X v (tE C fv)) (hr : PD X pos C ks vs f) :
    PD X pos C (some k :: ks) (v :: vs) (fun env c => fk env c >>= fun r' => ofO (frzW r'.1) >>= fun kw => fv env r'.2 >>= fun q => ofO (frzW q.1) >>= fun xw => f env q.2 >>= fun p =>
      match kw, xw with
      | .d a, .d x => (match keyD a with
        | some _ => .ok ((a, x) :: p.1, p.2)
        | none => .no)
      | _, _ => .no) := by
  obtain ⟨trs, h1, h2⟩ := hr
  refine ⟨_, pps_cons hk hv h1, fun σ H Q ⟨G, ι, env, c, s, en, h⟩ => ⟨G, ι, env, c, s, en, RE.imp (RE.bind (rel := WR C.K) h) fun y H1 ⟨G1, c1, w1, e1, s1, r1, k1⟩ => ?_⟩⟩
  dsimp only at k1
  obtain ⟨w1', hw1, k2⟩ := RE.opt k1
  obtain ⟨G1', e1', s1', g1, r1', sl1⟩ := frzW_ok e1 s1 r1 hw1
  have k2 := k2.from e1'
  refine ⟨G1', ι, env, c1, s1', en.keep e1', RE.imp (RE.bind (rel := WR C.K) k2) fun z H2 ⟨G2, c2, w2, e2, s2, r2, k3⟩ => ?_⟩
  dsimp only at k3
  obtain ⟨w2', hw2, k4⟩ := RE.opt k3
  obtain ⟨G2', e2', s2', g2, r2', sl2⟩ := frzW_ok e2 s2 r2 hw2
  have k4 := k4.from e2'
  refine h2 σ H2 _ ⟨G2', ι, env, c2, s2', (en.keep e1').keep e2', RE.imp (RE.bind (rel := PrR C.K) k4) fun ps H3 ⟨G3, c3, kvs, e3, s3, ⟨ks', e, r3⟩, k5⟩ => ?_⟩
  subst e
  have a1 := (r1'.keep e2').keep e3
  have a2 := r2'.keep e3
  dsimp only at k5
  clear k1 k2 k3 k4
  cases w1' with
  | fl _ => exact k5.elim
  | fd _ => exact k5.elim
  | ref _ => exact k5.elim
  | sq _ => exact k5.elim
  | d k =>
    cases w2' with
    | fl _ => exact k5.elim
    | fd _ => exact k5.elim
    | ref _ => exact k5.elim
    | sq _ => exact k5.elim
    | d x =>
      cases hz : keyD k with
      | none => simp only [hz] at k5; exact k5.elim
      | some w =>
        simp only [hz] at k5
        have a1 : Dv C.K G3 y k := a1
        have a2 : Dv C.K G3 z x := a2
        have ey := key_of_v (Vw.of s3.sub a1) hz
        exact k5.later e3 s3 ⟨(w, z) :: ks', by simp [ey], .cons ⟨hz, a2⟩ r3⟩
theorem kvs_merge0 {K : PySem.W.Frag} {G : Hp} {ks : List (L2.Key × V)} {kvs : List (D × D)} (h : Kvs K G ks kvs) : Kvs K G (mergeK [] ks) (dMerge [] kvs) := kvs_merge h .nil
theorem j_dct0 : PE X (.Dict [] [] pos) (tE C fun _ c => .ok (.fd [], c)) := by
  refine peI pe_dnewK fun σ H Q ⟨G, ι, env, c, s, en, h⟩ p hp => ?_
  exact h.later (Ex.grow hp _) (s.grow hp _) ⟨p, [], rfl, s.sub.free hp, fun z => s.has _ z hp, fun z => z hp, upd_same, .nil⟩
theorem j_dct {keys : List (Option Expr)} {values : List Expr} {f : En → Cells → Res (List (D × D) × Cells)} (h : PD X pos C keys values f) (hall : keys.all (·.isSome) = true) (hl : keys.length = values.length) (h0 : keys ≠ []) (h15 : keys.length ≤ 15) :
    PE X (.Dict keys values pos) (tE C fun env c => f env c >>= fun r => if r.1.length ≤ 15 then .ok (.fd (dMerge [] r.1), r.2) else .no) := by
  obtain ⟨trs, h1, h2⟩ := h
  refine peI (pe_disp h1 hall hl h0 h15) fun σ H Q ⟨G, ι, env, c, s, en, h⟩ p hp => ?_
  have e0 : Ex ι G H G (upd H p (.dK [])) := Ex.grow hp _
  refine h2 σ _ _ ⟨G, ι, env, c, s.grow hp _, en.keep e0, ?_⟩
  dsimp only at h
  cases hf : f env c with
  | no => rw [hf] at h; exact h
  | rs x y z => rw [hf] at h; exact fun G' H' cls d a b z => h G' H' cls d (e0.trans a) b z
  | ok r =>
    obtain ⟨kvs, c1⟩ := r
    rw [hf] at h
    intro G1 H1 ps e1 s1 ⟨ks, ep, kv⟩
    simp only [Res.bind_ok] at h
    split at h
    · rename_i hk
      have hι : p ∉ ι := fun z => s.has _ z hp
      have g1 := e1.clear (s.sub.free hp) upd_same hι
      have m1 := e1.fr p _ upd_same hι
      refine ⟨m1, ks, ep, by rw [paired_len kv]; exact hk, h.later ((e0.trans e1).other hp _) (s1.other g1 hι _) ⟨p, _, rfl, g1, hι, fun z => z hp, upd_same, kvs_merge0 kv⟩⟩
    · exact h.elim
theorem pairs_ok {K : PySem.W.Frag} {G : Hp} : ∀ {xs : List D} {vs : List V} {kvs : List (D × D)}, Dvs K G vs xs → pairsOf xs = some kvs →
    ∃ (ps : List Addr) (ks : List (L2.Key × V)), vs = ps.map V.ref ∧ Paired (fun p kv => SqT K G p [kV kv.1, kv.2]) ps ks ∧ Kvs K G ks kvs
  | [], _, _, h, e => by cases h; cases e; exact ⟨[], [], rfl, .nil, .nil⟩
  | x :: xs, _, _, h, e => by
    cases h with
    | cons a b =>
      unfold pairsOf at e
      split at e
      · rename_i hx; cases hx
      · rename_i k v r hx
        cases hx
        split at e
        · rename_i z kvs' hz hr
          cases e
          obtain ⟨ps, ks, e1, e2, e3⟩ := pairs_ok b hr
          cases a with
          | tup q1 q2 => cases q2 with
            | cons d1 q2 => cases q2 with
              | cons d2 q2 =>
                cases q2
                have ek := key_of_v (Vw.of (fun _ _ h => h) d1) hz
                subst ek
                exact ⟨_ :: ps, (z, _) :: ks, by rw [e1]; rfl, .cons q1.sqT e2, .cons ⟨hz, d2⟩ e3⟩
        · cases e
      · cases e
theorem j_mkd {a : Expr} {p : Pos} {f : En → Cells → Res (List W × Cells)} (hK : X.K = C.K) (hc : X.calm = true) (hgl : Gl X "dict") (hm : X.mg "dict" = none) (ha : PA X [a] (tA C f)) (he : starEach [a] X.env = (false, eval a X.env) :: starEach [] X.env) :
    PE X (.Call (.Name "dict" p) [a] [] pos) (tE C fun env c => f env c >>= fun r => match r.1 with
      | [.d (.lst xs)] => ofO (pairsOf xs) >>= fun kvs => .ok (.fd (dMerge [] kvs), r.2)
      | _ => .no) := by
  have base := pe_callTy (pos := pos) (p := p) (call_dictP (X := X) hc) hgl hm (by decide +kernel) ha (by decide) (by decide) he rfl
  refine peI base fun σ H Q ⟨G, ι, env, c, s, en, h⟩ => ⟨G, ι, env, c, s, en, RE.imp (RE.bind (rel := WRs C.K) h) fun vs H1 ⟨G1, c1, ws, e1, s1, r1, h1⟩ => ?_⟩
  dsimp only at h1
  split at h1
  · rename_i xs
    obtain ⟨kvs, hk, h2⟩ := RE.opt h1
    cases r1 with
    | cons r rr =>
      cases rr
      have r : Dv C.K G1 _ (.lst xs) := r
      cases r with
      | lst q1 q2 =>
        obtain ⟨ps, ks, e, p1, kv⟩ := pairs_ok q2 hk
        subst e
        refine ⟨_, ps, ks, rfl, .inl (rd_same s1.sub q1), Paired.mapP p1 fun _ _ z => by rw [hK]; exact sqT_same s1.sub z, fun p hp => ?_⟩
        have hp0 : ¬ dm H p := fun z => e1.kp p z hp
        exact h2.later (e1.trans (Ex.grow hp _)) (s1.grow hp _) ⟨p, _, rfl, s1.sub.free hp, fun z => s1.has _ z hp, hp0, upd_same, kvs_merge0 kv⟩
  · exact h1.elim
end
end Lf
end

section
set_option maxHeartbeats 4000000
/-! xs[::-1] of lists and tuples; isinstance. -/
namespace Lf
open PySem PySem.Spec PySem.Calls PyProof.Rows L2
section
variable {prog : Program} {w : World} {A : Around} {E : Value → Shared → Prop} {s : Shared}
theorem adjust_rev (n : Nat) : Builtin.Slice.sliceAdjust none none (-1) (n : Int) = ((n : Int) - 1, -1) := rfl
theorem places_rev (n : Nat) : Builtin.Slice.slicePlaces ((n : Int) - 1) (-1) (-1) = n := by
  unfold Builtin.Slice.slicePlaces
  have h1 : ¬ ((-1 : Int) > 0) := by decide
  rw [if_neg h1]
  by_cases h : (n : Int) - 1 > -1
  · rw [if_pos h, show (- -1 : Int) = 1 by decide, Int.ediv_one]; omega
  · rw [if_neg h]; omega
theorem applied_rev {sl : Addr} {vs : Value} {n : Nat} {Q : Int × Int × Nat → Shared → Prop} (hs : s.heap.IsSliceOf sl .none .none vs) (ps : IsPart vs (some (-1)))
    (h : Q ((n : Int) - 1, -1, n) s) : wpAny (model prog w) A (Builtin.Slice.sliceApplied (.ref sl) (pure (n : Int))) Q E s := by
  obtain ⟨os, hos, hcs, hds⟩ := id hs
  unfold Builtin.Slice.sliceApplied Builtin.Slice.sliceFields
  refine wpAny_bind (wpAny_bind (wpAny_field hos hds (x := .none) rfl (wpAny_bind (wpAny_field hos hds (x := .none) rfl (wpAny_bind (wpAny_field hos hds (x := vs) rfl (wpAny_pure ?_)))))))
  refine wpAny_bind (HT.slicePart_ ps ?_)
  show wpAny _ _ (if ((-1 : Int) == 0) = true then _ else _) _ _ s
  rw [if_neg (by decide)]
  refine wpAny_bind (HT.slicePart_ IsPart.none (wpAny_bind (HT.slicePart_ IsPart.none (wpAny_bind (wpAny_pure ?_)))))
  show wpAny _ _ (match Builtin.Slice.sliceAdjust none none (-1) (n : Int) with | (lo, hi) => pure (lo, (-1 : Int), Builtin.Slice.slicePlaces lo hi (-1))) _ _ s
  rw [adjust_rev n]
  show wpAny _ _ (pure ((n : Int) - 1, (-1 : Int), Builtin.Slice.slicePlaces ((n : Int) - 1) (-1) (-1))) _ _ s
  rw [places_rev]
  exact wpAny_pure h
theorem fm_congr {α β : Type} {f g : α → Option β} : ∀ l : List α, (∀ x ∈ l, f x = g x) → l.filterMap f = l.filterMap g
  | [], _ => rfl
  | x :: l, h => by
    have := fm_congr l fun y hy => h y (List.mem_cons_of_mem _ hy)
    simp only [List.filterMap_cons, h x List.mem_cons_self, this]
theorem pick_rev (xs : Array Value) : ((List.range xs.size).filterMap fun (k : Nat) => xs[((xs.size : Int) - 1 + (k : Int) * (-1)).toNat]?).toArray = xs.toList.reverse.toArray := by
  congr 1
  have e1 : (List.range xs.size).reverse = (List.range xs.size).map fun k => xs.size - 1 - k := by
    refine List.ext_getElem (by simp) fun i h1 h2 => ?_
    simp
  rw [← PySem.W.krv_all xs, ← List.filterMap_reverse, e1, List.filterMap_map]
  refine fm_congr _ fun k hk => ?_
  have := List.mem_range.mp hk
  have e : ((xs.size : Int) - 1 + (k : Int) * (-1)).toNat = xs.size - 1 - k := by omega
  show xs[((xs.size : Int) - 1 + (k : Int) * (-1)).toNat]? = xs[xs.size - 1 - k]?
  rw [e]
theorem getItem_tuple_rev {t sl : Addr} {items : Array Value} {vs : Value} {Q : Value → Shared → Prop} (ht : IsTup s.heap t items) (hs : s.heap.IsSliceOf sl .none .none vs) (ps : IsPart vs (some (-1)))
    (h : Q (.ref s.heap.objs.size) { s with heap := s.heap.push { cls := .type "tuple", data := .seq items.toList.reverse.toArray } })
    (hsz : items.size ≤ sizeLine) : wpAny (model prog w) A (getItem (.ref t) (.ref sl)) Q E s := by
  have htake : sizeOk (.seq items.toList.reverse.toArray) := by
    show items.toList.reverse.toArray.size ≤ sizeLine
    rw [List.size_toArray, List.length_reverse, Array.length_toList]
    exact hsz
  obtain ⟨os, hos, hcs, hds⟩ := id hs
  have hTs : s.TypeIs (.ref sl) "slice" := ⟨os, hos, hcs⟩
  unfold getItem
  try with_reducible refine wpAny_holding ?_
  first | refine wpAny_bind (wpAny_pure ?_) | skip
  refine wpAny_bind (wpAny_sequenceKey ht.typeIs (by decide) ?_)
  refine wpAny_bind (wpAny_callSpecial?_slot (name := Str.ofString "__getitem__") ht.typeIs PyProof.Rows.slot_tuple_getitem
    (wpAny_call_entry PyProof.Rows.slot_tuple_getitem ht.typeIs entry_tuple_getitem ?_ (args_tuple_getitem _ _)))
  show wpAny _ _ (Builtin.Tuple.tupleItemsOf (.ref t) >>= _) _ _ s
  refine wpAny_bind (tupleItemsOf_ ht ?_)
  refine wpAny_bind (wpAny_typeOf hTs ?_)
  rw [if_pos (by decide)]
  refine wpAny_bind (applied_rev hs ps ?_)
  have hno : ¬ (((items.size : Int) - 1 == 0 && (-1 : Int) == 1 && items.size == items.size) = true) := by
    rw [show ((-1 : Int) == 1) = false by decide, Bool.and_false, Bool.false_and]; exact Bool.false_ne_true
  show wpAny _ _ (if ((items.size : Int) - 1 == 0 && (-1 : Int) == 1 && items.size == items.size) = true then _ else _) _ _ s
  rw [if_neg hno, pick_rev]
  first
    | exact wpAny_bind (m := Builtin.Tuple.tupleExact _) (wpAny_newObj_type (wpAny_pure ⟨_, rfl, wpAny_pure h⟩) htake)
    | exact wpAny_bind (m := Builtin.Tuple.tupleExact _) (wpAny_newObj_type (wpAny_bind (wpAny_pure (wpAny_pure ⟨_, rfl, wpAny_pure h⟩))) htake)
    | exact wpAny_bind (wpAny_bind (m := Builtin.Tuple.tupleExact _) (wpAny_newObj_type (wpAny_pure (wpAny_pure ⟨_, rfl, wpAny_pure h⟩)) htake))
    | exact wpAny_bind (wpAny_bind (m := Builtin.Tuple.tupleExact _) (wpAny_newObj_type (wpAny_pure ⟨_, rfl, wpAny_pure h⟩) htake))
end
def tRev (K : PySem.W.Frag) (te : TE) : TE := fun σ H Q => te σ H fun x H1 => (∃ a xs, x = .ref a ∧ SqL K H1 a xs ∧ ∀ p, H1 p = none → Q (.ref p) (upd H1 p (.lst xs.reverse))) ∨ (∃ a xs, x = .ref a ∧ SqT K H1 a xs ∧ NewT H1 xs.reverse Q)
section
variable {X : Cx} {C : Ct} {pos : Pos}
theorem pe_rev {e : Expr} {te : TE} {k : Nat} {p1 p2 p3 pos : Pos} (he : PE X e te) : PE X (.Subscript e (.Slice none none (some (.UnaryOp .USub (.Constant (.int 1) k p1) p2)) p3) pos) (tRev X.K te) := by
  refine ⟨fun pins s σ H Q I h => ?_⟩
  refine Subscript_ (thn (he.run pins s σ H _ I h) fun v s1 ⟨x, H1, I1, r1, q1⟩ => ?_)
  have hst : PO X (some (.UnaryOp .USub (.Constant (.int 1) k p1) p2)) (tPart (tUn (rU fun i => .int (-i)) (tC (.int 1)))) := po_some (pe_un un_neg pe_int)
  refine wpAny_Slice (thn (po_none.run pins s1 σ H1 (fun o H2 => o = none ∧ H2 = H1) I1 ⟨rfl, rfl⟩) fun vl s2 ⟨l, H2, I2, pl, el, e2⟩ => ?_)
  subst el e2
  refine thn (po_none.run pins s2 σ H2 (fun o H3 => o = none ∧ H3 = H2) I2 ⟨rfl, rfl⟩) fun vu s3 ⟨u, H3, I3, pu, eu, e3⟩ => ?_
  subst eu e3
  refine thn (hst.run pins s3 σ H3 (fun o H4 => o = some (-1) ∧ H4 = H3) I3 ⟨1, rfl, -1, rfl, rfl, rfl⟩) fun vs s4 ⟨o, H4, I4, ps, eo, e4⟩ => ?_
  subst eo e4
  have I5 : Inv X pins σ H4 { s4 with heap := s4.heap.push { cls := .type "slice", data := .fields #[vl, vu, vs] } } := I4.kept (t' := s4.toks) fun b ob q => Heap.get?_push_of_some _ q
  rcases q1 with ⟨a, xs, ex, hx, q⟩ | ⟨a, xs, ex, hx, q⟩
  · subst ex
    cases r1
    obtain ⟨its, r, ht, hz⟩ := I5.list hx
    have hlen := r.length
    show wpAny (model X.prog X.w) X.A (subscriptTail e (.Slice none none (some (.UnaryOp .USub (.Constant (.int 1) k p1) p2)) p3) (.ref a) (.ref s4.heap.objs.size)) (EP X pins σ Q) X.xe { s4 with heap := s4.heap.push { cls := .type "slice", data := .fields #[vl, vu, vs] } }
    refine tail_any (ops := [.ref a, .ref s4.heap.objs.size]) ht.isList.typeIs (PySem.slot_list_getitem.lookup) ?_ (by with_unfolding_all rfl)
    refine wpAny_getItem_list_slice ht.isList (Heap.IsSliceOf.new _ vl vu vs) pl pu ps (by decide) ?_ (by rw [List.size_toArray]; omega)
    rw [PySem.W.krv_pick]
    refine ⟨.ref _, _, I5.laid (t' := s4.toks) (o := .lst xs.reverse) (fun b ob q => Heap.get?_push_of_some _ q) (Nat.le_refl _) ?_, rfl, q _ (I5.hok.fresh (Nat.le_refl _))⟩
    exact ⟨by rw [List.length_reverse]; exact hz, _, 0, r.reverse, Heap.get?_push_size _ rfl⟩
  · subst ex
    cases r1
    cases pl; cases pu
    obtain ⟨its, r, ht, hz⟩ := I5.tuple hx
    have hlen := r.length
    show wpAny (model X.prog X.w) X.A (subscriptTail e (.Slice none none (some (.UnaryOp .USub (.Constant (.int 1) k p1) p2)) p3) (.ref a) (.ref s4.heap.objs.size)) (EP X pins σ Q) X.xe { s4 with heap := s4.heap.push { cls := .type "slice", data := .fields #[.none, .none, vs] } }
    refine tail_any (ops := [.ref a, .ref s4.heap.objs.size]) ht.typeIs (PyProof.Rows.slot_tuple_getitem.lookup) ?_ (by with_unfolding_all rfl)
    refine getItem_tuple_rev ht (Heap.IsSliceOf.new _ .none .none vs) ps ?_ (by rw [List.size_toArray]; omega)
    exact pushT I5 (by rw [List.length_reverse]; exact hz) r.reverse q
theorem Dvs.reverse {K : PySem.W.Frag} {G : Hp} : ∀ {ds : List D} {vs : List V}, Dvs K G vs ds → Dvs K G vs.reverse ds.reverse
  | _, _, .nil => .nil
  | _, _, .cons a b => by rw [List.reverse_cons, List.reverse_cons]; exact (Dvs.reverse b).append (.cons a .nil)
theorem j_rev {a : Expr} {f : En → Cells → Res (W × Cells)} {k : Nat} {p1 p2 p3 : Pos} (hK : X.K = C.K) (ha : PE X a (tE C f)) : PE X (.Subscript a (.Slice none none (some (.UnaryOp .USub (.Constant (.int 1) k p1) p2)) p3) pos) (tE C fun env c => f env c >>= fun r => match view r.2 r.1 with
    | some (.lst xs) => .ok (.fl xs.reverse, r.2)
    | some (.tup xs) => .ok (.d (.tup xs.reverse), r.2)
    | _ => .no) := by
  refine peI (pe_rev ha) fun σ H Q ⟨G, ι, env, c, s, en, h⟩ => ⟨G, ι, env, c, s, en, RE.imp (RE.bind h) fun v H1 ⟨G1, c1, w1, e1, s1, r1, h1⟩ => ?_⟩
  rw [hK]
  dsimp only at h1
  have fin : ∀ {w : W}, RE C (WR C.K) G1 ι H1 σ (.ok (w, c1)) Q → Fin C.K G1 H1 ι c1 w Q := fun z G' H' v a b d => z.later a b d
  split at h1
  · rename_i xs hv
    obtain ⟨a, ys, rfl, rd, dv⟩ := (vw_of s1 r1 hv).lstE
    exact .inl ⟨a, ys, rfl, .inl rd, Fin.lst (fun G' H' v a b d => h1.later (e1.trans a) b (d.weak e1.kp)) s1 dv.reverse⟩
  · rename_i xs hv
    obtain ⟨a, ys, rfl, sq, dv⟩ := (vw_of s1 r1 hv).tupE
    exact .inr ⟨a, ys, rfl, sqT_same s1.sub sq, Fin.tup (fun G' H' v a b d => h1.later (e1.trans a) b (d.weak e1.kp)) s1 dv.reverse⟩
  · exact h1.elim
/-! ### isinstance -/
def Ty.pt : Ty → String
  | .tup => "tuple"
  | .lst => "list"
  | .str => "str"
  | .int => "int"
  | .bl => "bool"
  | .dct => "dict"
def Ty.nm : Ty → Str
  | .tup => "tuple"
  | .lst => "list"
  | .str => "str"
  | .int => "int"
  | .bl => "bool"
  | .dct => "dict"
def kindD : D → String
  | .non => "NoneType"
  | .bl _ => "bool"
  | .int _ => "int"
  | .str _ => "str"
  | .tup _ => "tuple"
  | .lst _ => "list"
theorem kit_isD (t : Ty) (d : D) : kitB (kindD d) t.pt = some (isD t d) := by
  cases t <;> cases d <;> (first | decide +kernel | (simp only [kindD, isD, Ty.pt]; decide +kernel))
theorem Vw.tyX {K : PySem.W.Frag} {G H : Hp} {v : V} {d : D} (sub : Same G H) (h : Vw K G H v d) : TyX K H v (.type (kindD d)) := by
  cases d with
  | non => cases h.nonE; exact .base .non
  | bl b => cases h.blE; exact .base (.bl _)
  | int i => cases h.intE; exact .base (.int _)
  | str x => cases h.strE; exact .base (.str _)
  | tup xs =>
    obtain ⟨a, ys, rfl, sq, _⟩ := h.tupE
    rcases sqT_same sub sq with (e | ⟨o, e⟩) | ⟨o, its, n, e, c, _⟩
    · exact .base (.tup e)
    · exact .fTuple e
    · exact .kTuple e c
  | lst xs =>
    obtain ⟨a, ys, rfl, rd, _⟩ := h.lstE
    rcases rd with e | ⟨o, e⟩
    · exact .base (.lst e)
    · exact .base (.frz e)
theorem boot_ty (t : Ty) : bootBuiltins t.nm = some (.type t.pt) := by cases t <;> decide +kernel
theorem nm_ne (t : Ty) : t.nm ≠ "__name__" ∧ (t.nm == ("__debug__" : Str)) = false := by cases t <;> decide +kernel
theorem j_isi {a : Expr} {f : En → Cells → Res (W × Cells)} {p p2 : Pos} (t : Ty) (hK : X.K = C.K) (ha : PE X a (tE C f)) (hg : Gl X "isinstance") (hm : X.mg "isinstance" = none) (hg2 : Gl X t.nm) (hm2 : X.mg t.nm = none)
    (he : starEach [a, .Name t.nm p2] X.env = (false, eval a X.env) :: starEach [.Name t.nm p2] X.env) :
    PE X (.Call (.Name "isinstance" p) [a, .Name t.nm p2] [] pos) (tE C fun env c => f env c >>= fun r => match view r.2 r.1 with
    | some x => .ok (.d (.bl (isD t x)), r.2)
    | none => .no) := by
  have pn : PE X (.Name t.nm p2) (tC (.ty t.pt)) := pe_bltn hg2 hm2 (boot_ty t) rfl (nm_ne t).1 (nm_ne t).2
  have base : PE X (.Call (.Name "isinstance" p) [a, .Name t.nm p2] [] pos) (tCB (rIsi X.K) (tCons (tE C f) (tCons (tC (.ty t.pt)) tNil))) :=
    pe_callB call_isi hg hm (by decide +kernel) (pa_cons (hs := he) ha (pa_cons pn pa_nil)) (by decide) (by decide) he rfl
  refine peI base fun σ H Q ⟨G, ι, env, c, s, en, h⟩ => ⟨G, ι, env, c, s, en, RE.imp (RE.bind h) fun v H1 ⟨G1, c1, w1, e1, s1, r1, h1⟩ => ?_⟩
  dsimp only at h1
  split at h1
  · rename_i x hv
    rw [hK]
    exact ⟨v, .ty t.pt, .type (kindD x), .type t.pt, isD t x, rfl, .ty _, (vw_of s1 r1 hv).tyX s1.sub, kit_ty (kit_isD t x), h1.later e1 s1 (Dv.bl _)⟩
  · exact h1.elim
end
end Lf
end

section
set_option maxHeartbeats 4000000
/-! Several names at once. -/
namespace Lf
open PySem PySem.Spec PySem.Calls PyProof.Rows L2
/-- a row of values, the fresh containers apart -/
inductive WQ (K : PySem.W.Frag) : Rl (List W) (List V)
  | nil {O : Addr → Prop} {G : Hp} {ι : List Addr} {H : Hp} : WQ K O G ι H [] []
  | cons {O : Addr → Prop} {G : Hp} {ι : List Addr} {H : Hp} {w : W} {ws : List W} {v : V} {vs : List V} : WR K O G ι H w v → WQ K O G ι H ws vs →
      (slotW w ∨ ∀ (k : Nat) (w' : W), ws[k]? = some w' → ¬ slotW w' → vs[k]? ≠ some v) → WQ K O G ι H (w :: ws) (v :: vs)
theorem WQ.weak' {K : PySem.W.Frag} {O O' : Addr → Prop} {G H : Hp} {ι : List Addr} (i : ∀ a, O a → O' a) {ws : List W} {vs : List V} (h : WQ K O' G ι H ws vs) : WQ K O G ι H ws vs := by
  induction h with
  | nil => exact .nil
  | cons a b c ih => exact .cons (a.weak i) (ih i) c
instance {K : PySem.W.Frag} : Weak (WQ K) := ⟨fun i h => h.weak' i⟩
theorem WQ.fresh {K : PySem.W.Frag} {O : Addr → Prop} {G H : Hp} {ι : List Addr} {ws : List W} {vs : List V} (h : WQ K O G ι H ws vs) : ∀ {k : Nat} {w : W} {v : V}, ws[k]? = some w → vs[k]? = some v → ¬ slotW w → ∃ a, v = .ref a ∧ ¬ O a := by
  induction h with
  | nil => intro k w v h; simp at h
  | cons a b c ih =>
    intro k w v h1 h2 hs
    cases k with
    | zero =>
      simp at h1 h2
      subst h1; subst h2
      rename_i w _ _ _
      cases w with
      | d _ => exact absurd trivial hs
      | ref _ => exact absurd trivial hs
      | sq _ => exact absurd trivial hs
      | fl _ => obtain ⟨a, _, e, _, _, n, _⟩ := a; exact ⟨a, e, n⟩
      | fd _ => obtain ⟨a, _, e, _, _, n, _⟩ := a; exact ⟨a, e, n⟩
    | succ k => exact ih (by simpa using h1) (by simpa using h2) hs
def sets : L2.St → List Nat → List V → L2.St
  | σ, i :: is, v :: vs => sets (σ.set i (some v)) is vs
  | σ, _, _ => σ
/-- one run behind another, from a later state -/
theorem RE.bind' {C : Ct} {β γ β' γ' : Type} {rel : Rl β γ} {rel' : Rl β' γ'} {G H G1 H1 : Hp} {ι : List Addr} {σ : L2.St} {r : Res (β × Cells)} {k : β × Cells → Res (β' × Cells)} {Q : γ' → Hp → Prop} (e : Ex ι G H G1 H1) (h : RE C rel' G ι H σ (r >>= k) Q) :
    RE C rel G1 ι H1 σ r fun v H' => ∃ G' c' b, Ex ι G1 H1 G' H' ∧ SR C.K G' ι H' c' ∧ rel (dm H1) G' ι H' b v ∧ RE C rel' G ι H σ (k (b, c')) Q := by
  cases r with
  | ok p => exact fun G' H' v e s w => ⟨G', p.2, p.1, e, s, w, h⟩
  | rs x y c => exact fun G' H' cls d a b z => h G' H' cls d (e.trans a) b z
  | no => exact h
section
variable {X : Cx} {C : Ct} {pos : Pos}
theorem r_nil {F : Fns} : PA X [] (tR C (WQ C.K) (evR F [] [])) := paI pa_nil fun σ H Q ⟨G, ι, env, c, s, en, h⟩ => h.now (rel := WQ C.K) s .nil
theorem r_cons {F : Fns} {a : Expr} {es : List Expr} {g : Lf.G} {gs : List Lf.G} {t : T} {ts : List T} (ha : PE X a (tE C (evE F t))) (hr : PA X es (tR C (WQ C.K) (evR F gs ts))) (hs : starEach (a :: es) X.env = (false, eval a X.env) :: starEach es X.env) :
    PA X (a :: es) (tR C (WQ C.K) (evR F (g :: gs) (t :: ts))) := by
  refine paI (pa_cons ha hr hs) fun σ H Q ⟨G, ι, env, c, s, en, h⟩ => ⟨G, ι, env, c, s, en, ?_⟩
  have h : RE C (WQ C.K) G ι H σ (evE F t env c >>= fun r => ofO (readyG g r.1) >>= fun w => evR F gs ts env r.2 >>= fun p => .ok (w :: p.1, p.2)) Q := h
  refine RE.imp (RE.bind (rel := WR C.K) h) fun v H1 ⟨G1, c1, w1, e1, s1, r1, h1⟩ => ?_
  obtain ⟨w, hw, h1⟩ := RE.opt h1
  obtain ⟨G2, e2, s2, g2, r2⟩ := readyG_ok e1 s1 r1 hw
  refine ⟨G2, ι, env, c1, s2, en.keep e2, RE.imp (RE.bind' (rel := WQ C.K) e2 h1) fun vs H2 ⟨G3, c3, ws, e3, s3, r3, h3⟩ => ?_⟩
  refine h3.later (e2.trans e3) s3 (.cons (r2.keep e3) (r3.weak' e2.kp) ?_)
  have key : slotW w ∨ ∃ a, v = .ref a ∧ H1 a ≠ none := by
    cases w with
    | d _ => exact .inl trivial
    | ref _ => exact .inl trivial
    | sq _ => exact .inl trivial
    | fl _ => obtain ⟨a, ys, e, _, _, _, z, _⟩ := r2; exact .inr ⟨a, e, by rw [z]; simp⟩
    | fd _ => obtain ⟨a, ys, e, _, _, _, z, _⟩ := r2; exact .inr ⟨a, e, by rw [z]; simp⟩
  rcases key with k | ⟨a, rfl, ha⟩
  · exact .inl k
  · refine .inr fun k w' h1 h2 h4 => ?_
    obtain ⟨b, e, hb⟩ := r3.fresh h1 h4 h2
    cases e
    exact hb ha
theorem WQ.more {K : PySem.W.Frag} {O : Addr → Prop} {G H : Hp} {ι ex : List Addr} {ws : List W} {vs : List V} (h : WQ K O G ι H ws vs) :
    (∀ a ∈ ex, ∀ (k : Nat) (w : W), ws[k]? = some w → ¬ slotW w → vs[k]? ≠ some (.ref a)) → WQ K O G (ι ++ ex) H ws vs := by
  induction h with
  | nil => exact fun _ => .nil
  | @cons O G ι H w ws v vs a b c ih =>
    intro n
    refine .cons ?_ (ih fun x hx k w' h1 h2 => by simpa using n x hx (k + 1) w' (by simpa using h1) h2) c
    have n0 : ¬ slotW w → ∀ x ∈ ex, v ≠ .ref x := fun hs x hx e => n x hx 0 w rfl hs (by rw [e]; rfl)
    cases w with
    | d x => exact a
    | ref m => exact a.more trivial
    | sq m => exact a
    | fl xs =>
      obtain ⟨p, ys, e, h1, h2, h3, h4, h5⟩ := a
      exact ⟨p, ys, e, h1, fun z => (List.mem_append.mp z).elim h2 fun q => n0 (fun z => z) p q e, h3, h4, h5⟩
    | fd xs =>
      obtain ⟨p, ys, e, h1, h2, h3, h4, h5⟩ := a
      exact ⟨p, ys, e, h1, fun z => (List.mem_append.mp z).elim h2 fun q => n0 (fun z => z) p q e, h3, h4, h5⟩
theorem putWs_ok {Gz Hz G H : Hp} {ι : List Addr} : ∀ {gs : List Lf.G} {ws : List W} {vs : List V} {c c' : Cells} {env env' : En} {σ : L2.St} {ι1 : List Addr}, Ext ι ι1 Gz Hz G H → SR C.K G ι1 H c → EnR C.K G ι1 H env σ → WQ C.K (dm Hz) G ι1 H ws vs →
    putWs gs ws env c = some (env', c') → ∃ ι2, Ext ι ι2 Gz Hz G H ∧ SR C.K G ι2 H c' ∧ EnR C.K G ι2 H env' (sets σ (gs.map slotG) vs)
  | [], [], _, c, c', env, env', σ, ι1, e, s, en, q, h => by cases q; cases h; exact ⟨ι1, e, s, en⟩
  | [], _ :: _, _, _, _, _, _, _, _, _, _, _, _, h => by simp [putWs] at h
  | _ :: _, [], _, _, _, _, _, _, _, _, _, _, _, h => by simp [putWs] at h
  | g :: gs, w :: ws, _, c, c', env, env', σ, ι1, e, s, en, q, h => by
    cases q with
    | cons a b d =>
      simp only [putWs] at h
      split at h
      · rename_i r hr
        obtain ⟨ex, e2, s2, en2, hv, hs⟩ := putW_ok e s en a (show putW (slotG g) w env c = some (r.1, r.2) from hr)
        refine putWs_ok (gs := gs) (ws := ws) e2 s2 en2 (b.more fun x hx k w' h1 h2 => ?_) h
        rcases d with d | d
        · rw [hs d] at hx; cases hx
        · have := hv x hx
          subst this
          exact d k w' h1 h2
      · cases h
theorem WQ.len {K : PySem.W.Frag} {O : Addr → Prop} {G H : Hp} {ι : List Addr} {ws : List W} {vs : List V} (h : WQ K O G ι H ws vs) : vs.length = ws.length := by
  induction h with
  | nil => rfl
  | cons a b c ih => simp [ih]
theorem putWs_len : ∀ {gs : List Lf.G} {ws : List W} {c : Cells} {env : En} {q : En × Cells}, putWs gs ws env c = some q → ws.length = gs.length
  | [], [], _, _, _, _ => rfl
  | [], _ :: _, _, _, _, h => by simp [putWs] at h
  | _ :: _, [], _, _, _, h => by simp [putWs] at h
  | g :: gs, w :: ws, c, env, q, h => by
    simp only [putWs] at h
    split at h
    · simp [putWs_len h]
    · cases h
/-- the values put where they belong -/
theorem par_put {F : Fns} {gs : List Lf.G} {ts : List T} {Y : Ends} {σ : L2.St} {G H : Hp} {ι : List Addr} {env : En} {c : Cells} (en : EnR C.K G ι H env σ) (h : RS C G ι H (exS F (.par gs ts) env c) Y) :
    RE C (WQ C.K) G ι H σ (evR F gs ts env c) fun vs H1 => vs.length = gs.length ∧ Y.nx (sets σ (gs.map slotG) vs) H1 ∧ ∀ p, H1 p = none → Y.nx (sets σ (gs.map slotG) vs) (upd H1 p (.tup vs)) := by
  have h : RS C G ι H (evR F gs ts env c >>= fun r => ofO (putWs gs r.1 env r.2) >>= fun q => .ok (.nx, q.1, q.2)) Y := h
  refine RE.imp (RS.bind (rel := WQ C.K) h) fun vs H1 ⟨G1, c1, ws, e1, s1, r1, h1⟩ => ?_
  obtain ⟨q, hq, h2⟩ := RS.opt h1
  obtain ⟨ι2, e2, s2, en2⟩ := putWs_ok (.of e1) s1 (en.keep e1) r1 (show putWs gs ws env c1 = some (q.1, q.2) from hq)
  refine ⟨r1.len.trans (putWs_len hq), h2 G1 ι2 H1 _ e2 s2 en2, fun p hp => ?_⟩
  exact h2 G1 ι2 _ _ (e2.trans (.of (Ex.grow hp _))) (s2.grow hp _) (en2.keep (Ex.grow hp _))
theorem s_par2 {F : Fns} {g1 g2 : Lf.G} {ts : List T} {x y : Str} {a b : Expr} {px py pt : Pos} {kt k2 pt2} (hc : X.calm = true) (hN : X.N.Nodup) (hi : X.N[slotG g1]? = some x) (hj : X.N[slotG g2]? = some y) (hij : slotG g1 ≠ slotG g2)
    (hx : X.env.scope.names.lookup x = some .local) (hy : X.env.scope.names.lookup y = some .local) (ha : PA X [a, b] (tR C (WQ C.K) (evR F [g1, g2] ts)))
    (hw : swappedStores [.Tuple [.Name x px, .Name y py] kt pt] (.Tuple [a, b] k2 pt2) X.env = pure (some [x, y])) :
    PS X (.Assign [.Tuple [.Name x px, .Name y py] kt pt] (.Tuple [a, b] k2 pt2) pos) (tS C fun env c => exS F (.par [g1, g2] ts) env c) := by
  refine psI (ps_par hc hN hi hj hij hx hy ha hw) fun Y σ H ⟨G, ι, env, c, s, en, h⟩ => ⟨G, ι, env, c, s, en, ?_⟩
  refine RE.imp (par_put en h) fun vs H1 ⟨hl, q, _⟩ => ?_
  match vs, hl, q with
  | [v, w], _, q => exact ⟨v, w, rfl, q⟩
theorem s_par3 {F : Fns} {g1 g2 g3 : Lf.G} {ts : List T} {x y z : Str} {a b c : Expr} {px py pz pt : Pos} {kt k2 pt2} (hc : X.calm = true) (hN : X.N.Nodup) (hi : X.N[slotG g1]? = some x) (hj : X.N[slotG g2]? = some y) (hl : X.N[slotG g3]? = some z)
    (h12 : slotG g1 ≠ slotG g2) (h13 : slotG g1 ≠ slotG g3) (h23 : slotG g2 ≠ slotG g3)
    (hx : X.env.scope.names.lookup x = some .local) (hy : X.env.scope.names.lookup y = some .local) (hz : X.env.scope.names.lookup z = some .local) (ha : PA X [a, b, c] (tR C (WQ C.K) (evR F [g1, g2, g3] ts)))
    (hw : swappedStores [.Tuple [.Name x px, .Name y py, .Name z pz] kt pt] (.Tuple [a, b, c] k2 pt2) X.env = pure (some [x, y, z])) :
    PS X (.Assign [.Tuple [.Name x px, .Name y py, .Name z pz] kt pt] (.Tuple [a, b, c] k2 pt2) pos) (tS C fun env c => exS F (.par [g1, g2, g3] ts) env c) := by
  refine psI (ps_par3 hc hN hi hj hl h12 h13 h23 hx hy hz ha hw) fun Y σ H ⟨G, ι, env, c, s, en, h⟩ => ⟨G, ι, env, c, s, en, ?_⟩
  refine RE.imp (par_put en h) fun vs H1 ⟨hl, q, _⟩ => ?_
  match vs, hl, q with
  | [u, v, w], _, q => exact ⟨u, v, w, rfl, q⟩
/-- a row of names, each at its slot -/
def tNms (is : List Nat) : TGs := fun vs σ H Q => vs.length = is.length ∧ Q (sets σ is vs) H
theorem n_nil : PGs X [] (tNms []) := pgsI pgs_nil fun vs σ H Q ⟨h, q⟩ => by
  cases vs with
  | nil => exact ⟨rfl, q⟩
  | cons _ _ => simp at h
theorem n_cons {i : Nat} {is : List Nat} {x : Str} {p : Pos} {es : List Expr} (hN : X.N.Nodup) (hi : X.N[i]? = some x) (hx : Loc X.env.scope x) (hf : X.fn x = true ∨ X.env.scope.names.lookup x = some .local) (h : PGs X es (tNms is))
    (hs : (assignEach (.Name x p :: es) X.env).map (·.2) = assign (.Name x p) X.env :: (assignEach es X.env).map (·.2)) : PGs X (.Name x p :: es) (tNms (i :: is)) :=
  pgsI (pgs_cons (pg_name hN hi hx hf) h hs) fun vs σ H Q ⟨h, q⟩ => by
    cases vs with
    | nil => simp at h
    | cons v vs => exact ⟨v, vs, rfl, by simpa using h, q⟩
/-- through a new tuple -/
theorem s_parT {F : Fns} {gs : List Lf.G} {ts : List T} {nms es : List Expr} {pt pt2 : Pos} {kt k2} (hc : X.calm = true) (hg : PGs X nms (tNms (gs.map slotG))) (hn : (assignEach nms X.env).length = gs.length) (hst : (assignEach nms X.env).findIdx? (·.1) = none)
    (ha : PA X es (tR C (WQ C.K) (evR F gs ts))) (hw : swappedStores [.Tuple nms kt pt] (.Tuple es k2 pt2) X.env = pure none) (hs : swapsWithSole [.Tuple nms kt pt] (.Tuple es k2 pt2) pos.line X.env = pure false)
    (h1 : (assignEach [.Tuple nms kt pt] X.env).map (·.2) = [assign (.Tuple nms kt pt) X.env]) (h30 : gs.length ≤ LINE) :
    PS X (.Assign [.Tuple nms kt pt] (.Tuple es k2 pt2) pos) (tS C fun env c => exS F (.par gs ts) env c) := by
  refine psI (ps_asg (pe_tup ha) (pg_tup hc hg hn hst) hs hw h1) fun Y σ H ⟨G, ι, env, c, s, en, h⟩ => ⟨G, ι, env, c, s, en, ?_⟩
  refine RE.imp (par_put en h) fun vs H1 ⟨hl, _, q⟩ => ⟨by rw [hl]; exact h30, fun p hp => ⟨p, vs, rfl, .inl (.inl upd_same), hl, by simpa using hl, q p hp⟩⟩
end
end Lf
end

section
set_option maxHeartbeats 4000000
/-! list(zip(a, b)) of two tuples. -/
namespace Lf
open PySem PySem.Spec PySem.Calls PyProof.Rows L2
section
variable {prog : Program} {w : World} {A : Around} {E : Value → Shared → Prop} {s : Shared}
/-- next of a zip whose last pair is still there: both parts are asked in turn, a new pair is laid -/
theorem held_next {z TI TO T i1 i2 : Addr} {f : Bool} {oT : Obj} {Q : PySem.Fin → Shared → Prop} (hz : IsZipHeld s.heap z TI TO T f) (hT : s.heap.get? T = some oT) (hTI : IsPair s.heap TI (.ref i1) (.ref i2))
    (parts : ∀ g, IsZipHeld g z TI TO T true → Heap.SameBut z s.heap g → wpAny (model prog w) A (Builtin.SmallTypes.nextOf (.ref i1)) (fun x s1 => wpAny (model prog w) A (Builtin.SmallTypes.nextOf (.ref i2))
      (fun y s2 => Q (.done (.ret (.ref s2.heap.objs.size))) { s2 with heap := s2.heap.push { cls := .type "tuple", data := .seq #[x, y] } }) E s1) E { s with heap := g }) :
    wpAny (model prog w) A (Builtin.«zip.__next__» ⟨[.ref z], []⟩) Q E s := by
  change wpAny (model prog w) A (field (.ref z) 2 >>= _) Q E s
  refine wpAny_bind (wpAny_field hz (i := 2) rfl (x := .bool false) rfl ?_)
  change wpAny (model prog w) A (field (.ref z) 3 >>= _) Q E s
  refine wpAny_bind (wpAny_field hz (i := 3) rfl (x := .ref TI) rfl (wpAny_bind (wpAny_seqItems hTI rfl ?_)))
  change wpAny (model prog w) A (Builtin.SmallTypes.ownedTupleIsFree (.ref z) >>= _) Q E s
  refine wpAny_bind (wpAny_tupleHeld_zip hz hT fun g hg sg => ?_)
  simp only [Bool.false_eq_true, if_false]
  refine wpAny_bind ?_
  rw [← Array.forIn_toList]
  simp only [List.forIn_cons, List.forIn_nil]
  refine wpAny_bind (wpAny_bind (wpAny_holding (wpAny_bind (wpAny_mono (parts g hg sg) (fun x s1 more => wpAny_pure (wpAny_pure ?_)) fun _ _ e => e))))
  refine wpAny_bind (wpAny_bind (wpAny_holding (wpAny_bind (wpAny_mono more (fun y s2 fin => wpAny_pure (wpAny_pure (wpAny_pure ?_))) fun _ _ e => e))))
  change wpAny (model prog w) A (newTuple [x, y] >>= _) Q E s2
  exact wpAny_bind (wpAny_newTuple (wpAny_pure fin))
theorem zt_item_held {z TI TO T i1 i2 l1 l2 : Addr} {f : Bool} {oT : Obj} {k1 k2 : Nat} {xs ys : Array Value} {x y : Value} {Q : Value → Shared → Prop} (D : ZipApart z TI TO i1 i2 l1 l2)
    (hz : IsZipHeld s.heap z TI TO T f) (hT : s.heap.get? T = some oT) (hTI : IsPair s.heap TI (.ref i1) (.ref i2))
    (h1 : s.heap.IsTupleIter i1 l1 k1) (h2 : s.heap.IsTupleIter i2 l2 k2) (hl1 : s.heap.IsTuple l1 xs) (hl2 : s.heap.IsTuple l2 ys) (hx : xs[k1]? = some x) (hy : ys[k2]? = some y)
    (hQ : ∀ h', IsZipHeld h' z TI TO T true → h'.IsTupleIter i1 l1 (k1 + 1) → h'.IsTupleIter i2 l2 (k2 + 1) → IsPair h' s.heap.objs.size x y → h'.objs.size = s.heap.objs.size + 1 →
      (∀ c o, c ≠ z → c ≠ i1 → c ≠ i2 → s.heap.get? c = some o → h'.get? c = some o) → Q (.ref s.heap.objs.size) { s with heap := h' }) :
    wpAny (model prog w) A (Builtin.«zip.__next__» ⟨[.ref z], []⟩) (fun fin s' => ∃ v, fin = .done (.ret v) ∧ Q v s') E s :=
  held_next hz hT hTI fun g hg sg => RZ.nextOf_tuple_item (s := { s with heap := g }) (h1.extBut sg.extBut D.i1z) (hl1.extBut sg.extBut D.l1z) hx fun g1 a1 s1 =>
    RZ.nextOf_tuple_item (s := { s with heap := g1 }) ((h2.extBut sg.extBut D.i2z).extBut s1.extBut D.i12.symm) ((hl2.extBut sg.extBut D.l2z).extBut s1.extBut D.l2i1) hy fun g2 a2 s2 => by
      have size : g2.objs.size = s.heap.objs.size := s2.1.trans (s1.1.trans sg.1)
      have keep : ∀ c o, c ≠ z → c ≠ i1 → c ≠ i2 → s.heap.get? c = some o → g2.get? c = some o := fun c o n0 n1 n2 e => s2.extBut _ _ n2 (s1.extBut _ _ n1 (sg.extBut _ _ n0 e))
      have push : ∀ {c o}, g2.get? c = some o → (g2.push { cls := .type "tuple", data := .seq #[x, y] }).get? c = some o := fun e => Heap.get?_push_of_some _ e
      have pair : IsPair (g2.push { cls := .type "tuple", data := .seq #[x, y] }) g2.objs.size x y := Heap.get?_push_size _ rfl
      have more : (g2.push { cls := .type "tuple", data := .seq #[x, y] }).objs.size = g2.objs.size + 1 := Heap.size_push ..
      refine ⟨_, rfl, ?_⟩
      show Q (.ref g2.objs.size) _
      rw [size] at pair more ⊢
      exact hQ _ (push (s2.extBut _ _ D.i2z.symm (s1.extBut _ _ D.i1z.symm hg))) ((a1.extBut s2.extBut D.i12).at fun _ e => push e) (a2.at fun _ e => push e) pair more fun c o n0 n1 n2 e => push (keep c o n0 n1 n2 e)
theorem zt_end_held {z TI TO T i1 i2 l1 l2 : Addr} {f : Bool} {oT : Obj} {k1 k2 : Nat} {xs ys : Array Value} {Q : PySem.Fin → Shared → Prop} (hh : A.handled = none) (D : ZipApart z TI TO i1 i2 l1 l2)
    (hz : IsZipHeld s.heap z TI TO T f) (hT : s.heap.get? T = some oT) (hTI : IsPair s.heap TI (.ref i1) (.ref i2))
    (h1 : s.heap.IsTupleIter i1 l1 k1) (h2 : s.heap.IsTupleIter i2 l2 k2) (hl1 : s.heap.IsTuple l1 xs) (hl2 : s.heap.IsTuple l2 ys) (hend : xs[k1]? = none ∨ ys[k2]? = none)
    (hE : ∀ h' e, (∀ c o, c ≠ z → c ≠ i1 → c ≠ i2 → s.heap.get? c = some o → h'.get? c = some o) → (∃ o, h'.get? e = some o ∧ o.cls = .type "StopIteration") → E (.ref e) { s with heap := h' }) :
    wpAny (model prog w) A (Builtin.«zip.__next__» ⟨[.ref z], []⟩) Q E s :=
  held_next hz hT hTI fun g hg sg => by
    by_cases q : xs[k1]? = none
    · exact RZ.nextOf_tuple_end (s := { s with heap := g }) hh (h1.extBut sg.extBut D.i1z) (hl1.extBut sg.extBut D.l1z) q fun g1 e s1 stop => hE g1 e (fun c o n0 n1 _ r => s1 _ _ n1 (sg.extBut _ _ n0 r)) stop
    · obtain ⟨x, hx⟩ := Option.ne_none_iff_exists'.mp q
      have hy := hend.resolve_left q
      exact RZ.nextOf_tuple_item (s := { s with heap := g }) (h1.extBut sg.extBut D.i1z) (hl1.extBut sg.extBut D.l1z) hx fun g1 _ s1 =>
        RZ.nextOf_tuple_end (s := { s with heap := g1 }) hh ((h2.extBut sg.extBut D.i2z).extBut s1.extBut D.i12.symm) ((hl2.extBut sg.extBut D.l2z).extBut s1.extBut D.l2i1) hy fun g2 e s2 stop =>
          hE g2 e (fun c o n0 n1 n2 r => s2 _ _ n2 (s1.extBut _ _ n1 (sg.extBut _ _ n0 r))) stop
/-- where a zip of tuples stands: no pair out yet, or one that is still there -/
def ZSt (h : Heap) (z TI TO i1 i2 l1 l2 : Addr) (xs ys : Array Value) (i : Nat) : Prop :=
  IsPair h TI (.ref i1) (.ref i2) ∧ h.IsTupleIter i1 l1 i ∧ h.IsTupleIter i2 l2 i ∧ h.IsTuple l1 xs ∧ h.IsTuple l2 ys ∧
    ((IsZip h z TI TO .none ∧ ∃ a b, IsPair h TO a b) ∨ ∃ T f oT, IsZipHeld h z TI TO T f ∧ h.get? T = some oT ∧ T ∉ [z, TO, i1, i2])
theorem zs_item {z TI TO i1 i2 l1 l2 : Addr} {i : Nat} {xs ys : Array Value} {x y : Value} {Q : Option Value → Shared → Prop} (D : ZipApart z TI TO i1 i2 l1 l2) (st : ZSt s.heap z TI TO i1 i2 l1 l2 xs ys i) (hb : ∀ c ∈ [z, TO, i1, i2], c < s.heap.objs.size) (hx : xs[i]? = some x) (hy : ys[i]? = some y)
    (hQ : ∀ h', ZSt h' z TI TO i1 i2 l1 l2 xs ys (i + 1) → IsPair h' s.heap.objs.size x y → h'.objs.size = s.heap.objs.size + 1 →
      (∀ c o, c ∉ [z, TO, i1, i2] → s.heap.get? c = some o → h'.get? c = some o) → Q (some (.ref s.heap.objs.size)) { s with heap := h' }) :
    wpAny (model prog w) A (pyNext (.ref z)) Q E s := by
  obtain ⟨hTI, h1, h2, hl1, hl2, st⟩ := st
  have new : s.heap.objs.size ∉ [z, TO, i1, i2] := fun m => Nat.lt_irrefl _ (hb _ m)
  rcases st with ⟨hz, a, b, hTO⟩ | ⟨T, f, oT, hz, hT, hn⟩
  · refine RZ.pyNext_zipT_item D hz hTI hTO h1 h2 hl1 hl2 hx hy fun h' a1 a2 a3 a4 a5 a6 a7 => hQ h' ⟨a7 _ _ D.TIz D.TITO D.TIi1 D.TIi2 hTI, a3, a4, hl1.at fun o e => a7 _ o D.l1z D.l1TO D.l1i1 D.l1i2 e, hl2.at fun o e => a7 _ o D.l2z D.l2TO D.l2i1 D.l2i2 e, .inr ⟨_, false, _, a1, a5, new⟩⟩ a5 a6 fun c o hc e => ?_
    simp only [List.mem_cons, List.not_mem_nil, or_false, not_or] at hc
    exact a7 c o hc.1 hc.2.1 hc.2.2.1 hc.2.2.2 e
  · have hn' := hn
    simp only [List.mem_cons, List.not_mem_nil, or_false, not_or] at hn'
    have hTy : s.TypeIs (.ref z) "zip" := ⟨_, hz, rfl⟩
    unfold pyNext
    refine wpAny_bind (wpAny_attempt (wpAny_callSpecial?_slot (name := Str.ofString "__next__") hTy F.slot_zip_next
      (wpAny_call_entry F.slot_zip_next hTy F.entry_zip_next
        (zt_item_held D hz hT hTI h1 h2 hl1 hl2 hx hy fun h' a1 a3 a4 a5 a6 a7 => wpAny_pure (hQ h' ⟨a7 _ _ D.TIz D.TIi1 D.TIi2 hTI, a3, a4, hl1.at fun o e => a7 _ o D.l1z D.l1i1 D.l1i2 e, hl2.at fun o e => a7 _ o D.l2z D.l2i1 D.l2i2 e, .inr ⟨T, true, oT, a1, a7 T oT hn'.1 hn'.2.2.1 hn'.2.2.2 hT, hn⟩⟩ a5 a6 fun c o hc e => ?_)) (F.args_zip_next_1 _))))
    simp only [List.mem_cons, List.not_mem_nil, or_false, not_or] at hc
    exact a7 c o hc.1 hc.2.2.1 hc.2.2.2 e
theorem zs_done {z TI TO i1 i2 l1 l2 : Addr} {i : Nat} {xs ys : Array Value} {Q : Option Value → Shared → Prop} (hh : A.handled = none) (D : ZipApart z TI TO i1 i2 l1 l2) (st : ZSt s.heap z TI TO i1 i2 l1 l2 xs ys i) (hend : xs[i]? = none ∨ ys[i]? = none)
    (hQ : ∀ h', (∀ c o, c ∉ [z, TO, i1, i2] → s.heap.get? c = some o → h'.get? c = some o) → Q none { s with heap := h' }) : wpAny (model prog w) A (pyNext (.ref z)) Q E s := by
  obtain ⟨hTI, h1, h2, hl1, hl2, st⟩ := st
  rcases st with ⟨hz, a, b, hTO⟩ | ⟨T, f, oT, hz, hT, hn⟩
  · refine RZ.pyNext_zipT_end hh D hz hTI hTO h1 h2 hl1 hl2 hend fun h' a7 => hQ h' fun c o hc e => ?_
    simp only [List.mem_cons, List.not_mem_nil, or_false, not_or] at hc
    exact a7 c o hc.1 hc.2.1 hc.2.2.1 hc.2.2.2 e
  · have hTy : s.TypeIs (.ref z) "zip" := ⟨_, hz, rfl⟩
    unfold pyNext
    refine wpAny_bind (wpAny_attempt (wpAny_callSpecial?_slot (name := Str.ofString "__next__") hTy F.slot_zip_next
      (wpAny_call_entry F.slot_zip_next hTy F.entry_zip_next (zt_end_held hh D hz hT hTI h1 h2 hl1 hl2 hend fun h' e hk he => ?_) (F.args_zip_next_1 _))))
    obtain ⟨o, ho, hc⟩ := he
    refine wpAny_bind (wpAny_isInstance (T := "StopIteration") (b := true) ⟨o, ho, hc⟩ isSubtype_stop ?_)
    refine wpAny_pure (hQ _ fun c o hc e => ?_)
    simp only [List.mem_cons, List.not_mem_nil, or_false, not_or] at hc
    exact hk c o hc.1 hc.2.2.1 hc.2.2.2 e
theorem ZSt.at {h h' : Heap} {z TI TO i1 i2 l1 l2 : Addr} {xs ys : Array Value} {i : Nat} (st : ZSt h z TI TO i1 i2 l1 l2 xs ys i) {S : Addr} (k : ∀ c o, c ≠ S → h.get? c = some o → h'.get? c = some o) (hS : ∀ c ∈ [z, TI, TO, i1, i2, l1, l2], c ≠ S) (hT : ∀ o, h.get? S = some o → ∃ o', h'.get? S = some o') : ZSt h' z TI TO i1 i2 l1 l2 xs ys i := by
  obtain ⟨hTI, h1, h2, hl1, hl2, st⟩ := st
  refine ⟨k _ _ (hS _ (by simp)) hTI, h1.at fun o e => k _ o (hS _ (by simp)) e, h2.at fun o e => k _ o (hS _ (by simp)) e, hl1.at fun o e => k _ o (hS _ (by simp)) e, hl2.at fun o e => k _ o (hS _ (by simp)) e, ?_⟩
  rcases st with ⟨hz, a, b, hTO⟩ | ⟨T, f, oT, hz, hT', hn⟩
  · exact .inl ⟨k _ _ (hS _ (by simp)) hz, a, b, k _ _ (hS _ (by simp)) hTO⟩
  · by_cases e : T = S
    · subst e
      obtain ⟨o', ho⟩ := hT _ hT'
      exact .inr ⟨T, f, o', k _ _ (hS _ (by simp)) hz, ho, hn⟩
    · exact .inr ⟨T, f, oT, k _ _ (hS _ (by simp)) hz, k _ _ e hT', hn⟩
/-- the pairs laid so far -/
structure ZG (xs ys : Array Value) (lo : Addr) (h : Heap) (as : List Addr) : Prop where
  rise : as.Pairwise (· < ·)
  above : ∀ a ∈ as, lo < a
  pairs : ∀ (j : Nat) (a : Addr), as[j]? = some a → ∃ x y, xs[j]? = some x ∧ ys[j]? = some y ∧ IsPair h a x y
theorem ZG.there {xs ys : Array Value} {lo : Addr} {h : Heap} {as : List Addr} (g : ZG xs ys lo h as) {a : Addr} (ha : a ∈ as) : a < h.objs.size := by
  obtain ⟨j, hj⟩ := List.mem_iff_getElem?.mp ha
  obtain ⟨_, _, _, _, e⟩ := g.pairs j a hj
  exact Heap.lt_size e
theorem zip_hint {z : Addr} (hT : s.TypeIs (.ref z) "zip") {Q : Bool → Shared → Prop} (h : Q true s) : wpAny (model prog w) A (Builtin.List.listLengthHint (.ref z)) Q E s := by
  have e1 : typeLookup (.type "zip") "__len__" = pure none := am_miss_of_fast (by decide +kernel)
  have e2 : typeLookup (.type "zip") "__length_hint__" = pure none := am_miss_of_fast (by decide +kernel)
  unfold Builtin.List.listLengthHint
  refine wpAny_bind (wpAny_specialOf hT e1 ?_)
  refine wpAny_ite_split (fun hab => absurd hab (by decide +kernel)) (fun _ => ?_)
  refine wpAny_ite_split (fun hab => absurd hab (by decide +kernel)) (fun _ => ?_)
  refine wpAny_bind (wpAny_specialOf hT e2 ?_)
  exact wpAny_pure h
end
/-- what an iterator gives, one by one; St: how it stands behind so many, which they were; Wr: what it may change -/
structure Draws (prog : Program) (w : World) (it : Addr) (n : Nat) (Wr : List Addr) (S : Addr) (St : Nat → List Value → Heap → Prop) (Rest : List Value → Heap → Prop) : Prop where
  off : S ∉ Wr
  item : ∀ {A : Around} {E : Value → Shared → Prop} {s : Shared} {Q : Option Value → Shared → Prop} {i : Nat} {vs : List Value}, i < n → St i vs s.heap →
    (∀ v h', St (i + 1) (vs ++ [v]) h' → (∀ b o, b ∉ Wr → s.heap.get? b = some o → h'.get? b = some o) → Q (some v) { s with heap := h' }) → wpAny (model prog w) A (pyNext (.ref it)) Q E s
  done : ∀ {A : Around} {E : Value → Shared → Prop} {s : Shared} {Q : Option Value → Shared → Prop} {vs : List Value}, A.handled = none → St n vs s.heap →
    (∀ h', Rest vs h' → (∀ b o, b ∉ Wr → s.heap.get? b = some o → h'.get? b = some o) → Q none { s with heap := h' }) → wpAny (model prog w) A (pyNext (.ref it)) Q E s
  free : ∀ {i : Nat} {vs : List Value} {h h' : Heap} {o o' : Obj}, St i vs h → h.get? S = some o → h'.get? S = some o' → (∀ b o, b ≠ S → h.get? b = some o → h'.get? b = some o) → St i vs h'
/-- a list at S with these items -/
abbrev LstAt (h : Heap) (S : Addr) (vs : List Value) (c : Nat) : Prop := h.get? S = some { cls := .type "list", dict := none, data := .seq vs.toArray c, slots := #[] }
section
variable {prog : Program} {w : World} {A : Around} {s : Shared} {R : Result → Shared → Prop} {it S : Addr} {n : Nat} {Wr : List Addr} {St : Nat → List Value → Heap → Prop} {Rest : List Value → Heap → Prop}
theorem draw_all (hh : A.handled = none) (D : Draws prog w it n Wr S St Rest) (hn : n ≤ sizeLine) (res : Value) {h₀ : Heap}
    (fin : ∀ h' vs c, vs.length = n → Rest vs h' → LstAt h' S vs c → (∀ b o, b ∉ Wr → b ≠ S → h₀.get? b = some o → h'.get? b = some o) → R (.ok (.ret res)) { s with heap := h' }) :
    ∀ (k i : Nat) (h : Heap) (vs : List Value) (c : Nat), i + k = n → vs.length = i → St i vs h → LstAt h S vs c → (∀ b o, b ∉ Wr → b ≠ S → h₀.get? b = some o → h.get? b = some o) →
      codeAny (model prog w) A (.builtin "list.extend.loop" ⟨[.ref S, .ref it, res], []⟩) R { s with heap := h }
  | 0, i, h, vs, c, e, l, st, at_, keep => by
    have e : i = n := e
    subst e
    refine codeAny_builtin PySem.F.entry_extend_loop ?_
    rw [Around.under_plainId PySem.F.plain_extend_loop _]
    exact wpAny_bind (D.done (s := { s with heap := h }) (A := A.in1) hh st fun h' st' kp => wpAny_pure (fin h' vs c l st' (kp S _ D.off at_) fun b o n1 n2 r => kp b o n1 (keep b o n1 n2 r)))
  | k + 1, i, h, vs, c, e, l, st, at_, keep => by
    refine codeAny_builtin PySem.F.entry_extend_loop ?_
    rw [Around.under_plainId PySem.F.plain_extend_loop _]
    refine wpAny_bind (D.item (s := { s with heap := h }) (A := A.in1) (by omega) st fun v h' st' kp => ?_)
    have at' := kp S _ D.off at_
    have self := Heap.get?_update_self (Obj.mapSeq (·.push v)) at' rfl
    have others : ∀ b o, b ≠ S → h'.get? b = some o → (h'.update S (Obj.mapSeq (·.push v))).get? b = some o := fun b o q r => (Heap.get?_update_other _ _ q.symm).trans r
    have e2 : (vs ++ [v]).toArray = vs.toArray.push v := by simp
    have self' : ∃ c', LstAt (h'.update S (Obj.mapSeq (·.push v))) S (vs ++ [v]) c' := ⟨_, by unfold LstAt; rw [e2]; exact self⟩
    obtain ⟨c', self'⟩ := self'
    have rec' := draw_all hh D hn res fin k (i + 1) (h'.update S (Obj.mapSeq (·.push v))) (vs ++ [v]) c' (by omega) (by simp [l]) (D.free st' at' self others) self' fun b o n1 n2 r => others b o n2 (kp b o n1 (keep b o n1 n2 r))
    change wpAny (model prog w) A.in1 (updateSeq S (·.push v) >>= _) _ _ _
    refine wpAny_bind (wpAny_updateSeq at' rfl (wpAny_pure ⟨plainId_quiet PySem.F.plain_extend_loop _, rec'⟩) (by simp [l]; omega) ?_)
    show (vs.toArray.push v).size ≤ sizeLine + 1
    simp [l]; omega
/-- a list filled by an iterator -/
theorem extend_by (hh : A.handled = none) (D : Draws prog w it n Wr S St Rest) (hn : n ≤ sizeLine) (res : Value) {T : String} (hT : s.TypeIs (.ref it) T) (nl : (Value.type T == Value.type "list") = false) (nt : (Value.type T == Value.type "tuple") = false) (ne : S ≠ it)
    (self : ∀ {Q : Value → Shared → Prop} {E : Value → Shared → Prop}, Q (.ref it) s → wpAny (model prog w) A.in1 (pyIter (.ref it)) Q E s)
    (hint : ∀ {Q : Bool → Shared → Prop} {E : Value → Shared → Prop}, (∀ b, Q b s) → wpAny (model prog w) A.in1 (Builtin.List.listLengthHint (.ref it)) Q E s) {c₀ : Nat} (at_ : LstAt s.heap S [] c₀) (st : St 0 [] s.heap)
    (fin : ∀ h' vs c, vs.length = n → Rest vs h' → LstAt h' S vs c → (∀ b o, b ∉ Wr → b ≠ S → s.heap.get? b = some o → h'.get? b = some o) → R (.ok (.ret res)) { s with heap := h' }) :
    wpAny (model prog w) A.in1 (Builtin.List.listExtendWith (.ref S) (.ref it) res)
      (fun f s' => match f with | .done f => R (.ok f) s' | .again c' => c'.quiet = true ∧ codeAny (model prog w) A c' R s') (fun e s' => R (.error e) s') s := by
  have go : ∀ (h : Heap) (c : Nat), LstAt h S [] c → (∀ b o, b ≠ S → s.heap.get? b = some o → h.get? b = some o) → codeAny (model prog w) A (.builtin "list.extend.loop" ⟨[.ref S, .ref it, res], []⟩) R { s with heap := h } := fun h c q kp =>
    draw_all (s := s) hh D hn res fin n 0 h [] c (Nat.zero_add n) rfl (D.free st at_ q kp) q fun b o _ n2 r => kp b o n2 r
  have same : Builtin.List.listSameRef (.ref S) (.ref it) = false := by simp [Builtin.List.listSameRef, ne]
  unfold Builtin.List.listExtendWith
  refine wpAny_bind (wpAny_typeOf hT ?_)
  simp only [same, nl, nt, Bool.or_false, Bool.false_eq_true, if_false]
  refine wpAny_bind (self (wpAny_bind (wpAny_holding (hint fun b => ?_))))
  refine wpAny_ite_split (fun _ => wpAny_bind (wpAny_rule (wpAny_bind ?_))) (fun _ => wpAny_pure ⟨plainId_quiet PySem.F.plain_extend_loop _, go _ c₀ at_ fun _ _ _ r => r⟩)
  change wpAny (model prog w) A.in1 (updateSeq S (·.push .none) >>= fun _ => updateSeq S (·.pop)) _ _ _
  have up := Heap.get?_update_self (Obj.mapSeq (·.push Value.none)) at_ rfl
  have down := Heap.get?_update_self (Obj.mapSeq (·.pop)) up rfl
  refine wpAny_bind (wpAny_updateSeq at_ rfl (wpAny_updateSeq (hz := by seq_fits) up rfl (wpAny_pure ⟨plainId_quiet PySem.F.plain_extend_loop _, go _ _ down fun b o q r => ?_⟩)))
  rw [Heap.get?_update_other _ _ q.symm, Heap.get?_update_other _ _ q.symm]
  exact r
end
section
variable {prog : Program} {w : World} {A : Around} {E : Value → Shared → Prop} {s : Shared} {it : Addr} {n : Nat} {Wr : List Addr} {St : Nat → List Value → Heap → Prop} {Rest : List Value → Heap → Prop}
/-- list(it), the new list at the heap's end -/
theorem list_by {Q : Value → Shared → Prop} (hh : A.handled = none) (D : Draws prog w it n Wr s.heap.objs.size St Rest) (hn : n ≤ sizeLine) {T : String} {o : Obj} (ho : s.heap.get? it = some o) (hc : o.cls = .type T) (nl : (Value.type T == Value.type "list") = false) (nt : (Value.type T == Value.type "tuple") = false)
    (self : ∀ {s' : Shared} {Q : Value → Shared → Prop} {E : Value → Shared → Prop}, s'.heap.get? it = some o → Q (.ref it) s' → wpAny (model prog w) A.in1.in1 (pyIter (.ref it)) Q E s')
    (hint : ∀ {s' : Shared} {Q : Bool → Shared → Prop} {E : Value → Shared → Prop}, s'.heap.get? it = some o → (∀ b, Q b s') → wpAny (model prog w) A.in1.in1 (Builtin.List.listLengthHint (.ref it)) Q E s')
    (st : ∀ h' o', (∀ b o, s.heap.get? b = some o → h'.get? b = some o) → h'.get? s.heap.objs.size = some o' → St 0 [] h')
    (fin : ∀ h' vs c, vs.length = n → Rest vs h' → LstAt h' s.heap.objs.size vs c → (∀ b o, b ∉ Wr → s.heap.get? b = some o → h'.get? b = some o) → Q (.ref s.heap.objs.size) { s with heap := h' }) :
    wpAny (model prog w) A (call (.type "list") [.ref it]) Q E s := by
  refine callType_codes (Q₁ := fun obj s₁ => obj = .ref s.heap.objs.size ∧ s₁ = { s with heap := s.heap.push { cls := .type "list", data := .seq #[] } }) PySem.F.called_list (PySem.F.typeCall_list_1 _) PySem.F.entry_list_init
    (code_list_new _ ⟨rfl, rfl⟩) fun obj s₁ q => ?_
  obtain ⟨rfl, rfl⟩ := q
  have new : LstAt (s.heap.push { cls := .type "list", data := .seq #[] }) s.heap.objs.size [] 0 := Heap.get?_push_size _ rfl
  have lt : it ≠ s.heap.objs.size := Nat.ne_of_lt (Heap.lt_size ho)
  have emptied := Heap.get?_update_self (Obj.mapSeq (fun _ => (#[] : Array Value))) new rfl
  have kp : ∀ b o, s.heap.get? b = some o → ((s.heap.push { cls := .type "list", data := .seq #[] }).update s.heap.objs.size (Obj.mapSeq (fun _ => (#[] : Array Value)))).get? b = some o := fun b o r =>
    (Heap.get?_update_other _ _ (Nat.ne_of_lt (Heap.lt_size r)).symm).trans (Heap.get?_push_of_some _ r)
  refine ⟨⟨_, new, rfl⟩, PySem.F.args_list_init_2 _ _, ?_⟩
  change wpAny (model prog w) A.in1.in1 (Builtin.List.listItems (.ref s.heap.objs.size) >>= fun old => Builtin.List.listUpdate (.ref s.heap.objs.size) (fun _ => #[]) >>= fun _ => letGo old.toList.reverse >>= fun _ => Builtin.List.listExtendWith (.ref s.heap.objs.size) (.ref it) .none) _ _ _
  refine wpAny_bind ?_
  unfold Builtin.List.listItems
  refine wpAny_bind (wpAny_seqItems new rfl (wpAny_pure ?_))
  change wpAny (model prog w) A.in1.in1 (updateSeq s.heap.objs.size (fun _ => #[]) >>= fun _ => letGo _ >>= fun _ => _) _ _ _
  refine wpAny_bind (wpAny_updateSeq new rfl (wpAny_bind (wpAny_letGo ?_)))
  exact extend_by (A := A.in1) hh D hn .none ⟨_, kp _ _ ho, hc⟩ nl nt lt.symm (self (kp _ _ ho)) (hint (kp _ _ ho)) emptied (st _ _ kp emptied) fun h' vs c l st' at_ keep => ⟨rfl, fin h' vs c l st' at_ fun b o n1 r => keep b o n1 (Nat.ne_of_lt (Heap.lt_size r)) (kp b o r)⟩
end
/-- the pairs of two tuples, new, one behind the other -/
def ZDr (z TI TO i1 i2 l1 l2 : Addr) (xs ys : Array Value) (S : Addr) (i : Nat) (vs : List Value) (h : Heap) : Prop := ZSt h z TI TO i1 i2 l1 l2 xs ys i ∧ S < h.objs.size ∧ vs.length = i ∧ ∃ as : List Addr, vs = as.map Value.ref ∧ ZG xs ys S h as
/-- what is left of it -/
def ZRe (xs ys : Array Value) (S : Addr) (vs : List Value) (h : Heap) : Prop := ∃ as : List Addr, vs = as.map Value.ref ∧ ZG xs ys S h as
theorem z_draws {prog : Program} {w : World} {z TI TO i1 i2 l1 l2 S : Addr} {xs ys : Array Value} (D : ZipApart z TI TO i1 i2 l1 l2) (low : ∀ c ∈ [z, TI, TO, i1, i2, l1, l2], c < S) : Draws prog w z (min xs.size ys.size) [z, TO, i1, i2] S (ZDr z TI TO i1 i2 l1 l2 xs ys S) (ZRe xs ys S) := by
  have four : ∀ c ∈ [z, TO, i1, i2], c < S := fun c m => low c (by
    simp only [List.mem_cons, List.not_mem_nil, or_false] at m ⊢
    rcases m with q | q | q | q <;> simp [q])
  have above : ∀ c, S ≤ c → c ∉ [z, TO, i1, i2] := fun c q m => Nat.lt_irrefl _ (Nat.lt_of_lt_of_le (four c m) q)
  have kept : ∀ {h h' : Heap} {as : List Addr}, ZG xs ys S h as → (∀ b o, S < b → h.get? b = some o → h'.get? b = some o) → ZG xs ys S h' as := fun g k => ⟨g.rise, g.above, fun j a q => by
    obtain ⟨x, y, e1, e2, e3⟩ := g.pairs j a q
    exact ⟨x, y, e1, e2, k a _ (g.above a (List.mem_of_getElem? q)) e3⟩⟩
  refine ⟨above S (Nat.le_refl _), ?_, ?_, ?_⟩
  · intro A E s Q i vs lt st k
    obtain ⟨st, hS, hl, as, rfl, g⟩ := st
    have hx : xs[i]? = some xs[i] := Array.getElem?_eq_getElem (by omega)
    have hy : ys[i]? = some ys[i] := Array.getElem?_eq_getElem (by omega)
    refine zs_item D st (fun c m => Nat.lt_trans (four c m) hS) hx hy fun h' st' pair size keep => k _ h' ⟨st', by rw [size]; exact Nat.lt_succ_of_lt hS, by simp [hl], as ++ [s.heap.objs.size], by simp, ?_⟩ keep
    have g' := kept g fun b o q r => keep b o (above b (Nat.le_of_lt q)) r
    have la : as.length = i := by simpa using hl
    refine ⟨List.pairwise_append.mpr ⟨g.rise, List.pairwise_singleton _ _, fun a ha b hb => by rw [List.mem_singleton.mp hb]; exact g.there ha⟩, fun a ha => ?_, fun j b q => ?_⟩
    · rcases List.mem_append.mp ha with ha | ha
      · exact g.above a ha
      · rw [List.mem_singleton.mp ha]; exact hS
    · by_cases lj : j < as.length
      · rw [List.getElem?_append_left lj] at q
        exact g'.pairs j b q
      · rw [List.getElem?_append_right (by omega)] at q
        have z0 : j - as.length = 0 := by
          cases w0 : j - as.length with
          | zero => rfl
          | succ _ => rw [w0] at q; simp at q
        rw [z0] at q
        simp only [List.getElem?_cons_zero, Option.some.injEq] at q
        subst q
        have e : j = i := by omega
        subst e
        exact ⟨_, _, hx, hy, pair⟩
  · intro A E s Q vs hh st k
    obtain ⟨st, hS, hl, as, rfl, g⟩ := st
    have fin : xs[min xs.size ys.size]? = none ∨ ys[min xs.size ys.size]? = none := by
      by_cases q : xs.size ≤ ys.size
      · exact .inl (Array.getElem?_eq_none (by omega))
      · exact .inr (Array.getElem?_eq_none (by omega))
    exact zs_done hh D st fin fun h' keep => k h' ⟨as, rfl, kept g fun b o q r => keep b o (above b (Nat.le_of_lt q)) r⟩ keep
  · intro i vs h h' o o' st hS hS' keep
    obtain ⟨st, lt, hl, as, e, g⟩ := st
    exact ⟨st.at keep (fun c m => Nat.ne_of_lt (low c m)) fun _ _ => ⟨_, hS'⟩, Heap.lt_size hS', hl, as, e, kept g fun b o q r => keep b o (Nat.ne_of_gt q) r⟩
/-! ### in the abstract heap -/
/-- objects tracked at their addresses -/
def putP : Hp → List Addr → List HO → Hp
  | H, a :: as, o :: os => putP (upd H a o) as os
  | H, _, _ => H
theorem putP_off {b : Addr} : ∀ (as : List Addr) (os : List HO) (H : Hp), b ∉ as → putP H as os b = H b
  | [], _, _, _ => rfl
  | _ :: _, [], _, _ => rfl
  | a :: as, o :: os, H, h => by
    show putP (upd H a o) as os b = H b
    rw [putP_off as os _ (fun z => h (List.mem_cons_of_mem _ z)), upd_ne (fun z => h (by rw [z]; exact List.mem_cons_self))]
theorem putP_at : ∀ (as : List Addr) (os : List HO) (H : Hp), as.length = os.length → as.Nodup → Paired (fun (t : Addr) (o : HO) => putP H as os t = some o) as os
  | [], [], _, _, _ => .nil
  | [], _ :: _, _, h, _ => by cases h
  | _ :: _, [], _, h, _ => by cases h
  | a :: as, o :: os, H, h, hn => by
    have hn' := List.nodup_cons.mp hn
    refine .cons ?_ (putP_at as os (upd H a o) (Nat.succ.inj h) hn'.2)
    show putP (upd H a o) as os a = some o
    rw [putP_off as os _ hn'.1, upd_same]
/-- the pairs' objects -/
def zos : List V → List V → List Value → List Value → List HO
  | x :: xs, y :: ys, u :: us, v :: vs => .frz (tupObj [u, v]) (.tup [x, y]) :: zos xs ys us vs
  | _, _, _, _ => []
/-- objects of the pairs of two rows -/
def OfPairs (os : List HO) (ps : List (V × V)) : Prop := Paired (fun (o : HO) (p : V × V) => ∃ ob : Obj, ob.dict = none ∧ o = .frz ob (.tup [p.1, p.2])) os ps
theorem zos_of : ∀ {xs ys : List V} {us vs : List Value}, Vals xs us → Vals ys vs → OfPairs (zos xs ys us vs) (xs.zip ys)
  | _, _, _, _, .nil, .nil => .nil
  | _, _, _, _, .nil, .cons _ _ => .nil
  | _, _, _, _, .cons _ _, .nil => .nil
  | _, _, _, _, .cons _ r, .cons _ q => .cons ⟨_, rfl, rfl⟩ (zos_of r q)
theorem zos_len : ∀ {xs ys : List V} {us vs : List Value}, Vals xs us → Vals ys vs → (zos xs ys us vs).length = min us.length vs.length
  | _, _, _, _, .nil, .nil => rfl
  | _, _, _, _, .nil, .cons _ _ => by simp [zos]
  | _, _, _, _, .cons _ _, .nil => by simp [zos]
  | _, _, _, _, .cons _ r, .cons _ q => by simp only [zos, List.length_cons, zos_len r q]; omega
theorem zos_get : ∀ {xs ys : List V} {us vs : List Value} {j : Nat} {o : HO}, Vals xs us → Vals ys vs → (zos xs ys us vs)[j]? = some o → ∃ x y u v, us[j]? = some u ∧ vs[j]? = some v ∧ RelV x u ∧ RelV y v ∧ o = .frz (tupObj [u, v]) (.tup [x, y])
  | _, _, _, _, j, o, .nil, .nil, h => by simp [zos] at h
  | _, _, _, _, j, o, .nil, .cons _ _, h => by simp [zos] at h
  | _, _, _, _, j, o, .cons _ _, .nil, h => by simp [zos] at h
  | _, _, _, _, 0, o, .cons a r, .cons b q, h => by
    simp only [zos, List.getElem?_cons_zero, Option.some.injEq] at h
    exact ⟨_, _, _, _, rfl, rfl, a, b, h.symm⟩
  | _, _, _, _, j + 1, o, .cons a r, .cons b q, h => by
    simp only [zos, List.getElem?_cons_succ] at h
    obtain ⟨x, y, u, v, h1, h2, h3, h4, h5⟩ := zos_get r q h
    exact ⟨x, y, u, v, by simpa using h1, by simpa using h2, h3, h4, h5⟩
def tLzip (K : PySem.W.Frag) (ta : TA) : TE := fun σ H Q => ta σ H fun vs H1 => ∃ a b xs ys, vs = [.ref a, .ref b] ∧ SqT K H1 a xs ∧ SqT K H1 b ys ∧
  ∀ (S : Addr) (as : List Addr) (os : List HO), H1 S = none → (∀ t ∈ as, H1 t = none) → S ∉ as → as.Nodup → as.length = os.length → OfPairs os (xs.zip ys) → Q (.ref S) (putP (upd H1 S (.lst (as.map V.ref))) as os)
section
variable {X : Cx} {ta : TA} {p p2 pos pos2 : Pos} {e e2 : Expr}
theorem zip_laid {pins : List (Addr × Obj)} {σ : L2.St} {H : Hp} {s : Shared} {h' : Heap} {tk : Nat} {xs ys : List V} {us vs : List Value} {acc : Array Value} {c : Nat} {as : List Addr} {S : Addr} (I : Inv X pins σ H s) (hz : xs.length ≤ sizeLine) (rx : Vals xs us) (ry : Vals ys vs)
    (hk : ∀ b o, s.heap.get? b = some o → h'.get? b = some o) (hSl : s.heap.objs.size ≤ S) (hS : h'.get? S = some { cls := .type "list", dict := none, data := .seq acc c, slots := #[] }) (hl : as.length = min us.toArray.size vs.toArray.size) (hG : ZG us.toArray vs.toArray S h' as) (hacc : acc.toList = as.map Value.ref) :
    H S = none ∧ (∀ t ∈ as, H t = none) ∧ S ∉ as ∧ as.Nodup ∧ as.length = (zos xs ys us vs).length ∧ Inv X pins σ (putP (upd H S (.lst (as.map V.ref))) as (zos xs ys us vs)) { s with heap := h', toks := tk } := by
  have lx : xs.length = us.length := rx.length
  have lz : as.length = (zos xs ys us vs).length := by rw [zos_len rx ry]; simpa using hl
  have hSn : S ∉ as := fun z => Nat.lt_irrefl _ (hG.above _ z)
  have nd : as.Nodup := List.Pairwise.imp (fun {a b} (h : a < b) => Nat.ne_of_lt h) hG.rise
  have high : ∀ t ∈ as, s.heap.objs.size ≤ t := fun t ht => Nat.le_trans hSl (Nat.le_of_lt (hG.above t ht))
  have new : ∀ t ∈ as, H t = none := fun t ht => I.hok.fresh (high t ht)
  have newS : H S = none := I.hok.fresh hSl
  generalize hH' : putP (upd H S (.lst (as.map V.ref))) as (zos xs ys us vs) = H'
  have atP := putP_at as (zos xs ys us vs) (upd H S (.lst (as.map V.ref))) lz nd
  rw [hH'] at atP
  have off : ∀ b, b ∉ as → b ≠ S → H' b = H b := fun b h1 h2 => by rw [← hH', putP_off as _ _ h1, upd_ne h2]
  have eS : H' S = some (.lst (as.map V.ref)) := by rw [← hH', putP_off as _ _ hSn, upd_same]
  have old : ∀ b u, H b = some u → H' b = some u := fun b u e => by
    rw [off b (fun z => by rw [new b z] at e; cases e) (fun z => by rw [z, newS] at e; cases e)]
    exact e
  refine ⟨newS, new, hSn, nd, lz, ?_⟩
  refine I.call' (ch := []) rfl ⟨fun b o q _ _ _ => hk b o q, fun b o q _ _ _ => ⟨o.slots, hk b o q⟩, fun b o q n _ => ?_, fun b o q _ => ⟨o, hk b o q⟩, fun b _ q => old b _ q, fun b o u q => old b _ q, fun b ps q => ⟨#[], by rw [old b _ q]; simp⟩⟩ (fun b u q => ?_) I.bare fun b z => by simp at z
  · have lt := Heap.lt_size q
    rw [off b (fun z => absurd lt (Nat.not_lt.mpr (high b z))) (Nat.ne_of_lt (Nat.lt_of_lt_of_le lt hSl))]
    exact n
  · by_cases hb : b ∈ as
    · obtain ⟨j, o, e1, e2, e3⟩ := LiI.paired_ix atP hb
      rw [e3] at q
      cases q
      obtain ⟨x', y', f1, f2, f3⟩ := hG.pairs j b e1
      obtain ⟨x, y, u, v, g1, g2, g3, g4, rfl⟩ := zos_get rx ry e2
      rw [List.getElem?_toArray, g1] at f1
      rw [List.getElem?_toArray, g2] at f2
      cases f1
      cases f2
      exact objT f3 (by show 2 ≤ sizeLine; decide) (.cons g3 (.cons g4 .nil))
    · by_cases hb2 : b = S
      · rw [hb2] at q ⊢
        rw [eS] at q
        cases q
        refine ⟨by rw [List.length_map, lz, zos_len rx ry]; omega, acc.toList, c, by rw [hacc]; exact LiI.vals_refs as, ?_⟩
        rw [Array.toArray_toList]
        exact hS
      · rw [off b hb hb2] at q
        exact (I.hok b u q).stay (fun d v _ y => hk d v y) (fun d y => old d _ y) fun d _ y => old d _ y
theorem pe_lzip (hc : X.calm = true) (hg : Gl X "list") (hm : X.mg "list" = none) (hgz : Gl X "zip") (hmz : X.mg "zip" = none) (ha : PA X [e, e2] ta)
    (hs : starEach [.Call (.Name "zip" p2) [e, e2] [] pos2] X.env = (false, eval (.Call (.Name "zip" p2) [e, e2] [] pos2) X.env) :: starEach [] X.env := by rfl)
    (hsz : starEach [e, e2] X.env = (false, eval e X.env) :: starEach [e2] X.env) (hpl : (backTo pos2 (starEach [e2] X.env)).any (·.1) = false) :
    PE X (.Call (.Name "list" p) [.Call (.Name "zip" p2) [e, e2] [] pos2] [] pos) (tLzip X.K ta) := by
  refine ⟨fun pins s σ H Q I hq => ?_⟩
  have hv : bootBuiltins "list" = some (.type "list") := by decide +kernel
  refine wpAny_Call_Name_kw (ld_blt I hg hm hv ?_)
  refine PyProof.Rows.callWith_type1 ?_ hs rfl
  rw [hs]
  show wpAny _ _ (spliced ((false, eval (.Call (.Name "zip" p2) [e, e2] [] pos2) X.env) :: backTo pos (starEach [] X.env))) _ _ s
  refine Calls.spliced_cons ?_
  refine Call_ (ld_blt I hgz hmz PyProof.Rows.boot_zip (PyProof.Rows.callWith_type1 (thn (ha.run pos2 pins s σ H _ I hq) fun us s1 ⟨vs, H1, I1, r1, q1⟩ => ?_) hsz hpl))
  obtain ⟨a, b, xs, ys, ex, hqx, hqy, q1⟩ := q1
  subst ex
  cases r1 with
  | cons r rr =>
    cases rr with
    | cons r' rr =>
      cases rr
      cases r
      cases r'
      obtain ⟨its, rv, p1, hz1⟩ := I1.tuple hqx
      obtain ⟨its2, rv2, p2, _⟩ := I1.tuple hqy
      obtain ⟨o1, ho1, _⟩ := id p1
      obtain ⟨o2, ho2, _⟩ := id p2
      refine RZ.call_zipT (show s1.heap.IsTuple a its.toArray from p1) (show s1.heap.IsTuple b its2.toArray from p2) fun h2 hz hTI hTO h1' h2' hsz2 hk2 => ?_
      refine Calls.spliced_nil ?_
      have D := PySem.W.ktu_apart s1.heap.objs.size a b (Heap.lt_size ho1) (Heap.lt_size ho2)
      have st : ZSt h2 (s1.heap.objs.size + 4) (s1.heap.objs.size + 2) (s1.heap.objs.size + 3) s1.heap.objs.size (s1.heap.objs.size + 1) a b its.toArray its2.toArray 0 :=
        ⟨hTI, h1', h2', (show s1.heap.IsTuple a its.toArray from p1).at fun o e => hk2 _ o e, (show s1.heap.IsTuple b its2.toArray from p2).at fun o e => hk2 _ o e, .inl ⟨hz, _, _, hTO⟩⟩
      have I2 : Inv X pins σ H1 { s1 with heap := h2 } := I1.kept (t' := s1.toks) hk2
      have hal : a < s1.heap.objs.size := Heap.lt_size ho1
      have hbl : b < s1.heap.objs.size := Heap.lt_size ho2
      have low : ∀ c ∈ [s1.heap.objs.size + 4, s1.heap.objs.size + 2, s1.heap.objs.size + 3, s1.heap.objs.size, s1.heap.objs.size + 1, a, b], c < h2.objs.size := fun c m => by
        rw [hsz2]
        have la : (a : Nat) < s1.heap.objs.size := hal
        have lb : (b : Nat) < s1.heap.objs.size := hbl
        have key : ∀ (x n : Nat), x = n + 4 ∨ x = n + 2 ∨ x = n + 3 ∨ x = n ∨ x = n + 1 ∨ x < n → x < n + 5 := fun x n h => by omega
        refine key c _ ?_
        simp only [List.mem_cons, List.not_mem_nil, or_false] at m
        rcases m with q | q | q | q | q | q | q
        · exact .inl q
        · exact .inr (.inl q)
        · exact .inr (.inr (.inl q))
        · exact .inr (.inr (.inr (.inl q)))
        · exact .inr (.inr (.inr (.inr (.inl q))))
        · exact .inr (.inr (.inr (.inr (.inr (by rw [q]; exact la)))))
        · exact .inr (.inr (.inr (.inr (.inr (by rw [q]; exact lb)))))
      have hn : min its.toArray.size its2.toArray.size ≤ sizeLine := by
        have := rv.length
        simp only [List.size_toArray]
        omega
      refine list_by (s := { s1 with heap := h2 }) (I1.ok.hd hc) (z_draws D low) hn hz rfl (by decide) (by decide) (fun e q => wpAny_pyIter_zip e q) (fun {s' _ _} e q => zip_hint ⟨_, e, rfl⟩ (q true)) (fun h' o' k kS => ⟨?_, Heap.lt_size kS, rfl, [], rfl, ⟨List.Pairwise.nil, (fun _ m => nomatch m), (fun j a q => by simp at q)⟩⟩) fun h' vs c l rest at_ keep => ?_
      · exact ⟨k _ _ hTI, h1'.at fun o e => k _ o e, h2'.at fun o e => k _ o e, (show s1.heap.IsTuple a its.toArray from p1).at fun o e => k _ o (hk2 _ o e), (show s1.heap.IsTuple b its2.toArray from p2).at fun o e => k _ o (hk2 _ o e), .inl ⟨k _ _ hz, _, _, k _ _ hTO⟩⟩
      obtain ⟨as, rfl, hG⟩ := rest
      have hk1 : ∀ b o, s1.heap.get? b = some o → h'.get? b = some o := fun d o e => keep d o (fun m => by
        have ld : (d : Nat) < s1.heap.objs.size := Heap.lt_size e
        simp only [List.mem_cons, List.not_mem_nil, or_false] at m
        have key : ∀ (x n : Nat), x < n → ¬ (x = n + 4 ∨ x = n + 3 ∨ x = n ∨ x = n + 1) := fun x n h => by omega
        exact key d _ ld m) (hk2 d o e)
      have hSl : s1.heap.objs.size ≤ h2.objs.size := by rw [hsz2]; exact Nat.le_add_right _ _
      obtain ⟨k1, k2, k3, k4, k5, J⟩ := zip_laid (tk := s1.toks) I1 hz1 rv rv2 hk1 hSl at_ (by simpa using l) hG (by simp)
      exact ⟨.ref _, _, J, rfl, q1 _ as _ k1 k2 k3 k4 k5 (zos_of rv rv2)⟩
end
theorem dvs_zip {K : PySem.W.Frag} {G : Hp} : ∀ {xs ys : List V} {ds es : List D} {as : List Addr} {os : List HO}, Dvs K G xs ds → Dvs K G ys es → OfPairs os (xs.zip ys) → Paired (fun (t : Addr) (o : HO) => G t = some o) as os → Dvs K G (as.map V.ref) (zipD ds es)
  | [], _, _, _, as, os, h, _, q, p => by
    cases h
    cases q
    cases p
    exact .nil
  | x :: xs, [], _, _, as, os, h, k, q, p => by
    cases k
    cases q
    cases p
    cases h
    exact .nil
  | x :: xs, y :: ys, _, _, as, os, h, k, q, p => by
    cases h with
    | cons a b =>
      cases k with
      | cons a' b' =>
        cases q with
        | cons q qs =>
          obtain ⟨ob, od, rfl⟩ := q
          cases p with
          | cons p ps => exact .cons (.tup (.inl ⟨ob, p, od⟩) (.cons a (.cons a' .nil))) (dvs_zip b b' qs ps)
theorem sr_objs {K : PySem.W.Frag} {ι : List Addr} {c : Cells} : ∀ (as : List Addr) (os : List HO) {G H : Hp}, SR K G ι H c → (∀ t ∈ as, H t = none) → as.Nodup → SR K (putP G as os) ι (putP H as os) c ∧ Ex ι G H (putP G as os) (putP H as os)
  | [], _, _, _, s, _, _ => ⟨s, .refl⟩
  | _ :: _, [], _, _, s, _, _ => ⟨s, .refl⟩
  | a :: as, o :: os, G, H, s, hn, nd => by
    have nd := List.nodup_cons.mp nd
    have ha := hn a List.mem_cons_self
    obtain ⟨s', e'⟩ := sr_objs as os (s.tup ha o) (fun t ht => by
      have ne : t ≠ a := fun z => nd.1 (by rw [← z]; exact ht)
      rw [upd_ne ne]; exact hn t (List.mem_cons_of_mem _ ht)) nd.2
    exact ⟨s', (Ex.tup ha (s.sub.free ha) _).trans e'⟩
theorem dv_tup {K : PySem.W.Frag} {G : Hp} {v : V} {xs : List D} (h : Dv K G v (.tup xs)) : ∃ a vs, v = .ref a ∧ SqT K G a vs ∧ Dvs K G vs xs := by
  cases h with
  | tup q d => exact ⟨_, _, rfl, q.sqT, d⟩
theorem j_lzip {X : Cx} {C : Ct} {a b : Expr} {p p2 pos pos2 : Pos} {f : En → Cells → Res (List W × Cells)} (hK : X.K = C.K) (hc : X.calm = true) (hg : Gl X "list") (hm : X.mg "list" = none) (hgz : Gl X "zip") (hmz : X.mg "zip" = none) (ha : PA X [a, b] (tA C f))
    (hs : starEach [.Call (.Name "zip" p2) [a, b] [] pos2] X.env = (false, eval (.Call (.Name "zip" p2) [a, b] [] pos2) X.env) :: starEach [] X.env := by rfl)
    (hsz : starEach [a, b] X.env = (false, eval a X.env) :: starEach [b] X.env) (hpl : (backTo pos2 (starEach [b] X.env)).any (·.1) = false) :
    PE X (.Call (.Name "list" p) [.Call (.Name "zip" p2) [a, b] [] pos2] [] pos) (tE C fun env c => f env c >>= fun r => ofO (zipT r.1) >>= fun xs => .ok (.fl xs, r.2)) := by
  refine peI (pe_lzip hc hg hm hgz hmz ha hs hsz hpl) fun σ H Q ⟨G, ι, env, c, s, en, h⟩ => ⟨G, ι, env, c, s, en, RE.imp (RE.bind (rel := WRs C.K) h) fun vs H1 ⟨G1, c1, ws, e1, s1, r1, h1⟩ => ?_⟩
  obtain ⟨zs, hz, h2⟩ := RE.opt h1
  obtain ⟨xs, ys, hws, rfl⟩ : ∃ xs ys, ws = [.d (.tup xs), .d (.tup ys)] ∧ zs = zipD xs ys := by
    unfold zipT at hz
    split at hz
    · rename_i xs ys hw
      cases hz
      exact ⟨xs, ys, hw, rfl⟩
    · cases hz
  subst hws
  cases r1 with
  | cons r rr =>
    cases rr with
    | cons r' rr =>
      cases rr
      have r : Dv C.K G1 _ (.tup xs) := r
      have r' : Dv C.K G1 _ (.tup ys) := r'
      obtain ⟨a1, v1, rfl, q1, d1⟩ := dv_tup r
      obtain ⟨a2, v2, rfl, q2, d2⟩ := dv_tup r'
      refine ⟨_, _, _, _, rfl, by rw [hK]; exact sqT_same s1.sub q1, by rw [hK]; exact sqT_same s1.sub q2, fun S as os hS has hSn nd hl op => ?_⟩
      have sg := s1.grow hS (.lst (as.map V.ref))
      have new : ∀ t ∈ as, upd H1 S (.lst (as.map V.ref)) t = none := fun t ht => by
        have ne : t ≠ S := fun z => hSn (by rw [← z]; exact ht)
        rw [upd_ne ne]; exact has t ht
      obtain ⟨s2, e2⟩ := sr_objs as os sg new nd
      have eS := putP_off as os (upd H1 S (.lst (as.map V.ref))) hSn
      rw [upd_same] at eS
      have eG := putP_off as os G1 hSn
      rw [s1.sub.free hS] at eG
      refine h2.later ((e1.trans (Ex.grow hS _)).trans e2) s2 ⟨S, as.map V.ref, rfl, eG, fun z => s1.has _ z hS, fun z => e1.kp S z hS, eS, ?_⟩
      exact dvs_zip (d1.mono e2.g) (d2.mono e2.g) op (putP_at as os G1 hl nd)
end Lf
end

section
set_option maxHeartbeats 4000000
/-! Calls of the text's own defs. -/
namespace Lf
open PySem PySem.Spec PySem.Calls PyProof.Rows L2

/-! ### the cells that are handed over -/
theorem refs_nd : ∀ ws : List W, (refsOf ws).Nodup
  | [] => List.nodup_nil
  | w :: ws => by
    cases w with
    | ref n =>
      unfold refsOf
      split
      · exact refs_nd ws
      · rename_i h
        exact List.nodup_cons.mpr ⟨fun z => h (by simpa using z), refs_nd ws⟩
    | d _ => exact refs_nd ws
    | fl _ => exact refs_nd ws
    | fd _ => exact refs_nd ws
    | sq _ => exact refs_nd ws
theorem refs_mem {n : Nat} : ∀ {ws : List W}, .ref n ∈ ws → n ∈ refsOf ws
  | [], h => by simp at h
  | w :: ws, h => by
    rcases List.mem_cons.mp h with e | h
    · subst e
      unfold refsOf
      split
      · rename_i q; simpa using q
      · exact List.mem_cons_self
    · have q := refs_mem h
      cases w with
      | ref m =>
        unfold refsOf
        split
        · exact q
        · exact List.mem_cons_of_mem _ q
      | d _ => exact q
      | fl _ => exact q
      | fd _ => exact q
      | sq _ => exact q
theorem refs_of {n : Nat} : ∀ {ws : List W}, n ∈ refsOf ws → .ref n ∈ ws
  | [], h => by simp [refsOf] at h
  | w :: ws, h => by
    cases w with
    | ref m =>
      unfold refsOf at h
      split at h
      · exact List.mem_cons_of_mem _ (refs_of h)
      · rcases List.mem_cons.mp h with e | h
        · subst e; exact List.mem_cons_self
        · exact List.mem_cons_of_mem _ (refs_of h)
    | d _ => exact List.mem_cons_of_mem _ (refs_of h)
    | fl _ => exact List.mem_cons_of_mem _ (refs_of h)
    | fd _ => exact List.mem_cons_of_mem _ (refs_of h)
    | sq _ => exact List.mem_cons_of_mem _ (refs_of h)
abbrev subI (ι : List Addr) (rs : List Nat) : List Addr := rs.map fun n => ι.getD n 0
abbrev subC (c : Cells) (rs : List Nat) : Cells := rs.map fun n => c.getD n .gone
section
variable {K : PySem.W.Frag} {G H G' H' : Hp} {ι : List Addr} {c : Cells} {rs : List Nat} {O : Addr → Prop}
theorem getD_lt {α : Type} {l : List α} {n : Nat} {x : α} (h : n < l.length) : l[n]? = some (l.getD n x) := by
  rw [List.getD_eq_getElem?_getD, List.getElem?_eq_getElem h]; rfl
theorem sub_mem (h : ∀ n ∈ rs, n < ι.length) {a : Addr} (ha : a ∈ subI ι rs) : a ∈ ι := by
  obtain ⟨n, hn, e⟩ := List.mem_map.mp ha
  exact e ▸ List.mem_of_getElem? (getD_lt (h n hn))
theorem sub_ok (s : SR K G ι H c) (h : ∀ n ∈ rs, n < ι.length) (nd : rs.Nodup) : SR K G (subI ι rs) H (subC c rs) := by
  refine ⟨s.sub, by simp [subI, subC], ?_, fun a ha => s.has a (sub_mem h ha), fun k x a h1 h2 => ?_⟩
  · have : ∀ l : List Nat, (∀ n ∈ l, n < ι.length) → l.Nodup → (l.map fun n => ι.getD n 0).Nodup := by
      intro l
      induction l with
      | nil => intro _ _; exact List.nodup_nil
      | cons n l ih =>
        intro hl nd
        have nd := List.nodup_cons.mp nd
        refine List.nodup_cons.mpr ⟨fun z => ?_, ih (fun m hm => hl m (List.mem_cons_of_mem _ hm)) nd.2⟩
        obtain ⟨m, hm, e⟩ := List.mem_map.mp z
        have l1 := hl n List.mem_cons_self
        have l2 := hl m (List.mem_cons_of_mem _ hm)
        have e1 := getD_lt (x := 0) l1
        have e2 := getD_lt (x := 0) l2
        rw [e, ← e1] at e2
        rw [List.getElem?_eq_getElem l1, List.getElem?_eq_getElem l2] at e2
        have := nd_at s.nd l2 l1 (Option.some.inj e2)
        subst this
        exact nd.1 hm
    exact this rs h nd
  · rw [List.getElem?_map] at h1 h2
    cases hk : rs[k]? with
    | none => rw [hk] at h1; cases h1
    | some n =>
      rw [hk] at h1 h2
      have hn := h n (List.mem_of_getElem? hk)
      cases h1; cases h2
      exact s.cel n _ _ (getD_lt (by rw [← s.len]; exact hn)) (getD_lt hn)
theorem idx_get {n : Nat} : ∀ {l : List Nat}, n ∈ l → l[l.idxOf n]? = some n := fun {l} h => by
  rw [List.getElem?_eq_getElem (List.idxOf_lt_length_of_mem h)]
  simp
theorem ren_ok : ∀ {ws : List W} {vs : List V}, WRs K O G ι H ws vs → ws.all W.slotB = true → (∀ n, .ref n ∈ ws → n ∈ rs) → WRs K O G (subI ι rs) H (ws.map (renW rs)) vs
  | [], _, h, _, _ => by cases h; exact .nil
  | w :: ws, _, h, hs, hm => by
    cases h with
    | cons a b =>
      simp only [List.all_cons, Bool.and_eq_true] at hs
      refine .cons ?_ (ren_ok b hs.2 fun n hn => hm n (List.mem_cons_of_mem _ hn))
      cases w with
      | d x => exact a
      | sq x => exact a
      | fl _ => cases hs.1
      | fd _ => cases hs.1
      | ref n =>
        obtain ⟨p, h1, h2⟩ := a
        refine ⟨p, ?_, h2⟩
        rw [List.getElem?_map, idx_get (hm n List.mem_cons_self)]
        show some (ι.getD n 0) = some p
        rw [List.getD_eq_getElem?_getD, h1]; rfl
theorem Ex.sub (s : SR K G ι H c) (h : ∀ n ∈ rs, n < ι.length) (e : Ex (subI ι rs) G H G' H') : Ex ι G H G' H' := by
  refine ⟨e.g, fun a o q => ?_, fun a o q n => e.fr a o q fun z => n (sub_mem h z), e.kp⟩
  rcases e.gn a o q with z | z | z
  · exact .inl z
  · exact .inr (.inl z)
  · exact .inr (.inr (sub_mem h z))
theorem put_len : ∀ (rs : List Nat) (sub : Cells) (c : Cells), (putBack rs sub c).length = c.length
  | [], _, _ => by unfold putBack; rfl
  | n :: rs, [], c => by unfold putBack; rfl
  | n :: rs, x :: sub, c => by unfold putBack; rw [put_len rs sub]; simp
theorem put_at : ∀ (rs : List Nat) (sub : Cells) (c : Cells), rs.Nodup → rs.length = sub.length → (∀ n ∈ rs, n < c.length) → ∀ m : Nat, (m ∉ rs ∧ (putBack rs sub c)[m]? = c[m]?) ∨ ∃ k : Nat, rs[k]? = some m ∧ (putBack rs sub c)[m]? = sub[k]?
  | [], sub, c, _, _, _, m => .inl ⟨by simp, by unfold putBack; rfl⟩
  | n :: rs, [], c, _, h, _, m => by simp at h
  | n :: rs, x :: sub, c, nd, hl, hb, m => by
    have nd := List.nodup_cons.mp nd
    unfold putBack
    rcases put_at rs sub (c.set n x) nd.2 (by simpa using hl) (fun k hk => by simpa using hb k (List.mem_cons_of_mem _ hk)) m with ⟨h1, h2⟩ | ⟨k, h1, h2⟩
    · by_cases e : n = m
      · subst e
        exact .inr ⟨0, rfl, by rw [h2, List.getElem?_set_self (hb n List.mem_cons_self)]; rfl⟩
      · exact .inl ⟨fun z => (List.mem_cons.mp z).elim (fun z => e z.symm) h1, by rw [h2, List.getElem?_set_ne e]⟩
    · exact .inr ⟨k + 1, by simpa using h1, by rw [h2]; simp⟩
theorem put_ok (s : SR K G ι H c) (h : ∀ n ∈ rs, n < ι.length) (nd : rs.Nodup) {sub : Cells} (e : Ex (subI ι rs) G H G' H') (s' : SR K G' (subI ι rs) H' sub) : SR K G' ι H' (putBack rs sub c) := by
  refine ⟨s'.sub, by rw [put_len, s.len], s.nd, fun a ha => e.kp a (s.has a ha), fun m x a h1 h2 => ?_⟩
  have hl : rs.length = sub.length := by rw [← s'.len]; simp [subI]
  rcases put_at rs sub c nd hl (fun n hn => by rw [← s.len]; exact h n hn) m with ⟨k1, k2⟩ | ⟨k, k1, k2⟩
  · rw [k2] at h1
    have q := s.cel m x a h1 h2
    have hn : a ∉ subI ι rs := fun z => by
      obtain ⟨n, hn, e⟩ := List.mem_map.mp z
      have l1 := h n hn
      have e1 := getD_lt (x := 0) l1
      rw [e] at e1
      obtain ⟨q1, q2⟩ := List.getElem?_eq_some_iff.mp e1
      obtain ⟨p1, p2⟩ := List.getElem?_eq_some_iff.mp h2
      have := nd_at s.nd q1 p1 (q2.trans p2.symm)
      subst this
      exact k1 hn
    have hH : H a ≠ none := s.has a (List.mem_of_getElem? h2)
    cases ho : H a with
    | none => exact absurd ho hH
    | some o =>
      refine ⟨fun z => e.clear (q.1 z) ho hn, ?_⟩
      have k' := e.fr a o ho hn
      have q2 := q.2
      cases x with
      | gone => trivial
      | lst xs => obtain ⟨ys, a1, a2⟩ := q2; rw [ho] at a1; exact ⟨ys, by rw [k']; exact a1, a2.mono e.g⟩
      | lk xs => obtain ⟨ys, a1, a2⟩ := q2; rw [ho] at a1; exact ⟨ys, by rw [k']; exact a1, a2.mono e.g⟩
      | dct xs => obtain ⟨ys, a1, a2⟩ := q2; rw [ho] at a1; exact ⟨ys, by rw [k']; exact a1, a2.mono e.g⟩
  · rw [k2] at h1
    refine s'.cel k x a h1 ?_
    rw [List.getElem?_map, k1]
    show some (ι.getD m 0) = some a
    rw [List.getD_eq_getElem?_getD, h2]; rfl
theorem back_ok (s : SR K G ι H c) (h : ∀ n ∈ rs, n < ι.length) {w w' : W} {v : V} (r : WR K (dm H) G' (subI ι rs) H' w v) (hb : backW rs w = some w') : WR K (dm H) G' ι H' w' v := by
  have out : ∀ {a : Addr}, ¬ dm H a → a ∉ ι := fun n z => n (s.has _ z)
  cases w with
  | d x => cases hb; exact r
  | sq x => cases hb; exact r
  | fl xs => cases hb; obtain ⟨a, ys, e1, e2, _, e4, e5⟩ := r; exact ⟨a, ys, e1, e2, out e4, e4, e5⟩
  | fd xs => cases hb; obtain ⟨a, ys, e1, e2, _, e4, e5⟩ := r; exact ⟨a, ys, e1, e2, out e4, e4, e5⟩
  | ref m =>
    obtain ⟨a, h1, h2⟩ := r
    simp only [backW] at hb
    cases hm : rs[m]? with
    | none => rw [hm] at hb; cases hb
    | some n =>
      rw [hm] at hb
      cases hb
      rw [List.getElem?_map, hm] at h1
      cases h1
      exact ⟨_, getD_lt (h n (List.mem_of_getElem? hm)), h2⟩
end
theorem wrs_len {K : PySem.W.Frag} {O : Addr → Prop} {G H : Hp} {ι : List Addr} : ∀ {ws : List W} {vs : List V}, WRs K O G ι H ws vs → vs.length = ws.length
  | _, _, .nil => rfl
  | _, _, .cons _ b => by simp [wrs_len b]
/-- what is wanted of a result -/
def Got (K : PySem.W.Frag) (G : Hp) (ι : List Addr) (H : Hp) (Q : VK) (r : Res (W × Cells)) : Prop := match r with
  | .ok (w, c') => ∀ G' H' v, Ex ι G H G' H' → SR K G' ι H' c' → WR K (dm H) G' ι H' w v → Q v H'
  | _ => False
/-- the promise of a def -/
def spN (K : PySem.W.Frag) (run : List W → Cells → Res (W × Cells)) : Sp := fun vs H Q _ => ∃ G ι c ws, SR K G ι H c ∧ WRs K (fun _ => True) G ι H ws vs ∧ ws.all W.slotB = true ∧ Got K G ι H Q (run ws c)
theorem slotB_ok {w : W} (h : w.slotB = true) : slotW w := by
  cases w <;> first | trivial | cases h
theorem wrs_slot {K : PySem.W.Frag} {O O' : Addr → Prop} {G H : Hp} {ι : List Addr} : ∀ {ws : List W} {vs : List V}, ws.all W.slotB = true → WRs K O' G ι H ws vs → WRs K O G ι H ws vs
  | [], _, _, h => by cases h; exact .nil
  | w :: ws, _, hs, h => by
    simp only [List.all_cons, Bool.and_eq_true] at hs
    cases h with
    | cons a b => exact .cons (a.slot (slotB_ok hs.1)) (wrs_slot hs.2 b)
theorem call_in {C : Ct} {G H G1 H1 : Hp} {ι : List Addr} {σ : L2.St} {c : Cells} {ws : List W} {vs : List V} {O : Addr → Prop} {run : List W → Cells → Res (W × Cells)} {Q : VK} {E : XK}
    (e1 : Ex ι G H G1 H1) (s : SR C.K G1 ι H1 c) (r : WRs C.K O G1 ι H1 ws vs) (h : RE C (WR C.K) G ι H σ (callIn run ws c) Q) : spN C.K run vs H1 Q E := by
  unfold callIn at h
  split at h
  · rename_i hs
    have hrs : ∀ n ∈ refsOf ws, n < ι.length := fun n hn => by
      have : ∀ {ws : List W} {vs : List V}, WRs C.K O G1 ι H1 ws vs → .ref n ∈ ws → n < ι.length := by
        intro ws vs q
        induction q with
        | nil => intro z; simp at z
        | cons a b ih =>
          intro z
          rcases List.mem_cons.mp z with e | z
          · subst e
            obtain ⟨p, h1, _⟩ := a
            exact (List.getElem?_eq_some_iff.mp h1).1
          · exact ih z
      exact this r (refs_of hn)
    refine ⟨G1, subI ι (refsOf ws), subC c (refsOf ws), ws.map (renW (refsOf ws)), sub_ok s hrs (refs_nd ws), ren_ok (wrs_slot hs r) hs fun n hn => refs_mem hn, ?_, ?_⟩
    · rw [List.all_map]
      rw [List.all_eq_true] at hs ⊢
      intro w hw
      have := hs w hw
      cases w <;> first | rfl | cases this
    · cases hq : run (ws.map (renW (refsOf ws))) ((refsOf ws).map fun n => c.getD n .gone) with
      | no => rw [hq] at h; exact h.elim
      | rs x y z => rw [hq] at h; exact h.elim
      | ok p =>
        obtain ⟨w, sub⟩ := p
        rw [hq] at h
        intro G' H' v e' s' r'
        obtain ⟨w', hw, h2⟩ := RE.opt h
        have e2 := e'.sub s hrs
        exact h2.later (e1.trans e2) (put_ok s hrs (refs_nd ws) e' s') ((back_ok s hrs r' hw).weak e1.kp)
  · exact h.elim

/-! ### a def keeps its promise -/
/-- as FnOk, told only where no repr is under way -/
structure FnG (P : Program) (w : World) (K : PySem.W.Frag) (mg : Str → Option Value) (base : Heap) (k : Nat) (f : Addr) (fd : FuncData) (ps : List Str) (sp : Sp) : Prop where
  len : ∀ vs H Q E, sp vs H Q E → vs.length = ps.length
  run : ∀ {A : Around} {outer : List Env} {s : Shared} {H : Hp} {args : Args} {us : List Value} {vs : List V} {Q : VK} {E : XK}, Room k A → A.guards = some [] → Env0 P w K mg base A outer s H → Vals vs us → sp vs H Q E →
    BindsTo s fd args (ps.zip us) → codeAny (model P w) A (.call (.ref f) args) (CR CX0 outer P w H s Q E) s
theorem fnG {P : Program} {w : World} {K : PySem.W.Frag} {mg : Str → Option Value} {base : Heap} {k : Nat} {f : Addr} {fd : FuncData} {x qual : Str} {st : Stmt} {N ps : List Str} {sp : Sp} (F : Fun K x qual st f fd) (S : FnScope N ps (defScope st))
    (len : ∀ vs H Q E, sp vs H Q E → vs.length = ps.length)
    (body : ∀ (cdv : Value) (A : Around) (outer : List Env) (s : Shared) (H : Hp) (vs : List V) (Q : VK) (E : XK), Room k (A.deeper (envOfC qual (defScope st) s.heap.objs.size f cdv)) → A.guards = some [] → sp vs H Q E →
      ∃ t, PSs (cxOf CX0 P w K mg base N qual (defScope st) f cdv A outer s H E).nox (defBody st) t ∧ t { nx := fun _ H' => Q .non H', rt := Q } (start N vs) H) : FnG P w K mg base (k + 1) f fd ps sp := by
  obtain ⟨oc, od, kV, doc, pm, an, cdv, ct, osl, rfl, lk, hcd⟩ := F.ex
  constructor
  · exact len
  intro A outer s H args us vs Q E room guards e0 rel pr bd
  have kin : K.In s.heap := e0.mod.kin.keeps fun _ _ z => (e0.bs _ _ z).1
  have nol : s.heap.NoLimit := e0.mod.nolimit.keeps fun _ _ z => (e0.bs _ _ z).1
  refine codeAny_call_function room.depth (kin f _ lk) rfl S.co S.gen rfl (PySem.W.codeRec_of kin hcd) (bd _ _ _ _ ?_)
  refine wpAny_newFunctionEnv_cells S.kind ?kinds fun env en s1 ic => ?_
  case kinds =>
    rintro ⟨n, v⟩ mem
    cases S.par n (List.of_mem_zip mem).1 with
    | inl q => exact .inl q
    | inr q => exact .inr ⟨q, PySem.W.cellsFrom_some _ _ _ (.inl q)⟩
  subst en
  obtain ⟨t, hps, ht⟩ := body cdv A outer s H vs Q E (room.deeper _) guards pr
  have J : Inv (cxOf CX0 P w K mg base N qual (defScope st) f cdv A outer s H E) [] (start N vs) H s1 := inv_start S room.hd e0 (len _ _ _ _ pr) rel ic
  refine ⟨nol.keeps ic.toInCall.keep, codeAny_func (wpAny_mono (hps.nox.run [] s1 _ H _ J ht) ?_ fun _ _ z => z)⟩
  intro fl s2 sp2
  have out : ∀ {σ2 : L2.St} {H2 : Hp} {v : V} {u : Value}, Inv (cxOf CX0 P w K mg base N qual (defScope st) f cdv A outer s H E) [] σ2 H2 s2 → RelV v u → Q v H2 → CE outer P w H s Q u s2 :=
    fun {_ H2 v _} I2 r2 q2 => ⟨v, H2, I2.os, I2.bare, I2.base, I2.hok, r2, q2⟩
  cases fl with
  | ret u => obtain ⟨v, σ2, H2, I2, r2, q2⟩ := sp2; exact out I2 r2 q2
  | next => obtain ⟨σ2, H2, I2, q2⟩ := sp2; exact out (v := .non) (u := .none) I2 rfl q2
  | brk => exact sp2.choose_spec.choose_spec.2.elim
  | cont => exact sp2.choose_spec.choose_spec.2.elim
section
variable {X : Cx} {C : Ct} {pos p : Pos} {k n : Nat} {f : Addr} {fd : FuncData} {ps : List Str} {run : List W → Cells → Res (W × Cells)} {x : Str}
theorem runG {sp : Sp} {pins : List (Addr × Obj)} {σ : L2.St} {H : Hp} {s : Shared} {Q : VK} {us : List Value} {vs : List V} (F : FnG X.prog X.w X.K X.mg X.base k f fd ps sp) (room : Room k X.A) (g : X.A.guards = some []) (bd : Binds X.K fd ps []) (I : Inv X pins σ H s) (r : Vals vs us)
    {E : XK} (h : sp vs H Q E) : wpAny (model X.prog X.w) X.A (call (.ref f) us) (EP X pins σ Q) X.xe s := by
  have hl : (us ++ []).length = ps.length := by rw [List.append_nil, ← r.length]; exact F.len _ _ _ _ h
  have b := bd s us I.kIn hl
  rw [List.append_nil] at b
  refine wpAny_call (codeAny_mono (F.run room g I.env0 r h b) ?_)
  intro res s2 h2
  cases res with
  | error e => exact False.elim h2
  | ok fl =>
    cases fl with
    | ret u => exact I.after h2
    | next => exact False.elim h2
    | brk => exact False.elim h2
    | cont => exact False.elim h2
def tCal (sp : Sp) (t : TA) : TE := fun σ H Q => t σ H fun vs H1 => ∃ E, sp vs H1 Q E
theorem pe_callG {sp : Sp} {e : Expr} {es : List Expr} {t : TA} (F : FnG X.prog X.w X.K X.mg X.base k f fd ps sp) (room : Room k X.A) (g : X.A.guards = some []) (bd : Binds X.K fd ps []) (gl : Gl X x) (m : X.mg x = some (.ref f)) (kp : PySem.W.keepIn X.K (.ref f) = true)
    (ha : PA X (e :: es) t) (db : (x == ("__debug__" : Str)) = false) (st : starEach (e :: es) X.env = (false, eval e X.env) :: starEach es X.env) (pl : (backTo pos (starEach es X.env)).any (·.1) = false) :
    PE X (.Call (.Name x p) (e :: es) [] pos) (tCal sp t) := by
  constructor
  intro pins s σ H Q I h
  apply wpAny_Call_Name_kw (ld_glob I gl m _ db)
  apply PySem.W.callWith_K (h₀ := X.base) I.ok.mod.kin kp _ st pl
  refine thn (ha.run pos pins s σ H _ I h) ?_
  rintro us s1 ⟨vs, H1, J, r, E, q⟩
  exact ⟨J.kIn, runG F room g bd J r q⟩
theorem pe_callG0 {sp : Sp} (F : FnG X.prog X.w X.K X.mg X.base k f fd ps sp) (room : Room k X.A) (g : X.A.guards = some []) (bd : Binds X.K fd ps []) (gl : Gl X x) (m : X.mg x = some (.ref f)) (kp : PySem.W.keepIn X.K (.ref f) = true) (db : (x == ("__debug__" : Str)) = false) :
    PE X (.Call (.Name x p) [] [] pos) (tCal sp tNil) := by
  constructor
  intro pins s σ H Q I ⟨E, h⟩
  apply wpAny_Call_Name_kw (ld_glob I gl m _ db)
  exact PySem.W.callWith_K0 I.kIn kp (runG (us := []) F room g bd I .nil h)
theorem j_call {e : Expr} {es : List Expr} {fl : En → Cells → Res (List W × Cells)} (hK : X.K = C.K) (F : FnG X.prog X.w X.K X.mg X.base k f fd ps (spN X.K run)) (room : Room k X.A) (g : X.A.guards = some []) (bd : Binds X.K fd ps []) (gl : Gl X x) (m : X.mg x = some (.ref f)) (kp : PySem.W.keepIn X.K (.ref f) = true)
    (ha : PA X (e :: es) (tA C fl)) (db : (x == ("__debug__" : Str)) = false) (st : starEach (e :: es) X.env = (false, eval e X.env) :: starEach es X.env) (pl : (backTo pos (starEach es X.env)).any (·.1) = false) :
    PE X (.Call (.Name x p) (e :: es) [] pos) (tE C fun env c => fl env c >>= fun r => callIn run r.1 r.2) := by
  refine peI (pe_callG F room g bd gl m kp ha db st pl) fun σ H Q ⟨G, ι, env, c, s, en, h⟩ => ⟨G, ι, env, c, s, en, RE.imp (RE.bind (rel := WRs C.K) h) fun vs H1 ⟨G1, c1, ws, e1, s1, r1, h1⟩ => ⟨fun _ _ _ => False, ?_⟩⟩
  rw [hK]
  exact call_in e1 s1 r1 h1
theorem j_call0 (hK : X.K = C.K) (F : FnG X.prog X.w X.K X.mg X.base k f fd ps (spN X.K run)) (room : Room k X.A) (g : X.A.guards = some []) (bd : Binds X.K fd ps []) (gl : Gl X x) (m : X.mg x = some (.ref f)) (kp : PySem.W.keepIn X.K (.ref f) = true) (db : (x == ("__debug__" : Str)) = false) :
    PE X (.Call (.Name x p) [] [] pos) (tE C fun env c => (.ok ([], c) : Res (List W × Cells)) >>= fun r => callIn run r.1 r.2) := by
  refine peI (pe_callG0 F room g bd gl m kp db) fun σ H Q ⟨G, ι, env, c, s, en, h⟩ => ⟨fun _ _ _ => False, ?_⟩
  rw [hK]
  exact call_in (O := fun _ => True) .refl s .nil h
theorem sp_len {K : PySem.W.Frag} {m : Nat} (hr : ∀ ws c r, run ws c = .ok r → ws.length = m) {vs : List V} {H : Hp} {Q : VK} {E : XK} (h : spN K run vs H Q E) : vs.length = m := by
  obtain ⟨G, ι, c, ws, s, r, _, q⟩ := h
  cases e : run ws c with
  | ok p => rw [wrs_len r]; exact hr ws c p e
  | rs x y z => rw [e] at q; exact q.elim
  | no => rw [e] at q; exact q.elim
end
/-! ### from a body -/
theorem sr_take {K : PySem.W.Frag} {G H : Hp} {ι e : List Addr} {c : Cells} (s : SR K G (ι ++ e) H c) {k : Nat} (hk : k = ι.length) : SR K G ι H (c.take k) := by
  subst hk
  have hl := s.len
  refine ⟨s.sub, by simp at hl ⊢; omega, (List.nodup_append.mp s.nd).1, fun a ha => s.has a (List.mem_append_left _ ha), fun n x a h1 h2 => ?_⟩
  have hn : n < ι.length := (List.getElem?_eq_some_iff.mp h2).1
  rw [List.getElem?_take_of_lt hn] at h1
  exact s.cel n x a h1 (by rw [List.getElem?_append_left hn]; exact h2)
theorem ens_start {K : PySem.W.Frag} {G H : Hp} {ι : List Addr} : ∀ {ws : List W} {vs : List V} (m : Nat), WRs K (fun _ => True) G ι H ws vs → ws.all W.slotB = true → EnR K G ι H (ws.map some ++ List.replicate m none) (vs.map some ++ List.replicate m none) := by
  intro ws vs m r hs
  refine ⟨by simp [wrs_len r], fun i w q => ?_⟩
  have key : ∀ {ws : List W} {vs : List V} {i : Nat}, WRs K (fun _ => True) G ι H ws vs → ws[i]? = some w → ∃ v, vs[i]? = some v ∧ WR K (fun _ => True) G ι H w v := by
    intro ws vs i r
    induction r generalizing i with
    | nil => intro h; simp at h
    | cons a b ih =>
      cases i with
      | zero => intro h; simp at h; subst h; exact ⟨_, rfl, a⟩
      | succ i => intro h; exact ih (by simpa using h)
  by_cases hi : i < ws.length
  · rw [List.getElem?_append_left (by simpa using hi), List.getElem?_map] at q
    cases e : ws[i]? with
    | none => rw [e] at q; cases q
    | some w' =>
      rw [e] at q
      cases q
      obtain ⟨v, h1, h2⟩ := key r e
      refine ⟨slotB_ok (List.all_eq_true.mp hs w (List.mem_of_getElem? e)), v, ?_, h2⟩
      rw [List.getElem?_append_left (by rw [List.length_map, wrs_len r]; exact hi), List.getElem?_map, h1]; rfl
  · rw [List.getElem?_append_right (by simpa using hi), List.getElem?_replicate] at q
    split at q <;> cases q
/-- the end of a body -/
theorem body_end {C : Ct} {G H : Hp} {ι : List Addr} {Q : VK} {r : Res (Fl × En × Cells)} {k : Nat} (hk : k = ι.length)
    (h : Got C.K G ι H Q (r >>= fun r => match r.1 with
      | .ret w => finish k w r.2.2
      | .nx => finish k (.d .non) r.2.2
      | _ => .no)) : RS C G ι H r { nx := fun _ H' => Q .non H', rt := Q } := by
  have fin : ∀ {w : W} {c' : Cells} {G' H' : Hp} {ι' : List Addr} {v : V}, Got C.K G ι H Q (finish k w c') → Ext ι ι' G H G' H' → SR C.K G' ι' H' c' → WR C.K (dm H) G' ι' H' w v → Q v H' := by
    intro w c' G' H' ι' v h e s r
    obtain ⟨ex, e0, rfl, ne⟩ := e
    have st := sr_take s hk
    cases w with
    | d x => exact h G' H' v ex st r
    | sq x => exact h G' H' v ex st r
    | fl xs =>
      obtain ⟨a, ys, e1, e2, e3, e4, e5⟩ := r
      exact h G' H' v ex st ⟨a, ys, e1, e2, fun z => e3 (List.mem_append_left _ z), e4, e5⟩
    | fd xs =>
      obtain ⟨a, ys, e1, e2, e3, e4, e5⟩ := r
      exact h G' H' v ex st ⟨a, ys, e1, e2, fun z => e3 (List.mem_append_left _ z), e4, e5⟩
    | ref n =>
      obtain ⟨a, e1, e2⟩ := r
      simp only [finish] at h
      split at h
      · rename_i hn
        exact h G' H' v ex st ⟨a, by rw [List.getElem?_append_left (by omega)] at e1; exact e1, e2⟩
      · rename_i hn
        rw [List.getElem?_append_right (by omega)] at e1
        have ha : a ∈ e0 := List.mem_of_getElem? e1
        have hι : a ∉ ι := fun z => (List.nodup_append.mp s.nd).2.2 a z a ha rfl
        have hd : ¬ dm H a := fun z => z (ne a ha)
        split at h
        · rename_i xs hc
          obtain ⟨a', q1, q2, ys, q3, q4⟩ := s.cell hc
          rw [List.getElem?_append_right (by omega), e1] at q1
          cases q1
          exact h G' H' v ex st ⟨a, ys, e2, q2 nofun, hι, hd, q3, q4⟩
        · rename_i xs hc
          obtain ⟨a', q1, q2, ys, q3, q4⟩ := s.cell hc
          rw [List.getElem?_append_right (by omega), e1] at q1
          cases q1
          exact h G' H' v ex st ⟨a, ys, e2, q2 nofun, hι, hd, q3, q4⟩
        · exact h.elim
  cases r with
  | no => exact h.elim
  | rs x y z => exact h.elim
  | ok p =>
    obtain ⟨fl, env', c'⟩ := p
    intro G' ι' H' σ' e s en
    cases fl with
    | nx => exact fin (w := .d .non) h e s Dv.non
    | bk => exact h.elim
    | ct => exact h.elim
    | ret w => exact fun v r => fin h e s r
/-- a body told: the promise at one call more -/
theorem body_run {C : Ct} {P : Pg} {n i : Nat} {fdef : Fd} {vs : List V} {H : Hp} {Q : VK} {E : XK} (hi : P.fns[i]? = some fdef) (h : spN C.K (callN P (n + 1) i) vs H Q E) :
    tS C (exS (fnsN P n) fdef.body) { nx := fun _ H' => Q .non H', rt := Q } (vs.map some ++ List.replicate (fdef.slots - fdef.params) none) H ∧ vs.length = fdef.params ∧ fdef.params ≤ fdef.slots := by
  obtain ⟨G, ι, c, ws, s, r, hs, h⟩ := h
  simp only [callN, hi, runFn] at h
  split at h
  · rename_i hl
    refine ⟨⟨G, ι, _, c, s, ens_start _ r hs, ?_⟩, by rw [wrs_len r]; exact hl.1, hl.2⟩
    exact body_end s.len.symm h
  · exact h.elim
end Lf
end

section
set_option maxHeartbeats 4000000
/-! That a text is rendered. -/
namespace Lf
open PySem PySem.Spec PySem.Calls PyProof.Rows L2
/-- a block's names: its table, their slots, which of them an inner block may store -/
structure Cxt where
  sc : Scope
  N : List Str
  fn : Str → Bool
/-- the names of the defs, of the constants, of the built-ins that are used -/
structure Tb where
  fn : List Str
  gl : List Str
  bl : List Str
def glB (sc : Scope) (x : Str) : Bool := decide (sc.names.lookup x = some .globalImplicit) && !(x == ("__debug__" : Str))
def visB (sc : Scope) (x : Str) : Bool := (decide (sc.names.lookup x = some .local) || decide (sc.names.lookup x = some .cell) || decide (sc.names.lookup x = some .free)) && !(x == ("__debug__" : Str)) && !(x == ("__classdict__" : Str))
def stoB (k : Cxt) (x : Str) : Bool := (decide (k.sc.names.lookup x = some .local) || decide (k.sc.names.lookup x = some .cell)) && (k.fn x || decide (k.sc.names.lookup x = some .local))
def bltB (tb : Tb) (k : Cxt) (x : Str) : Bool := decide (x ∈ tb.bl) && glB k.sc x
/-- the forms of a test -/
def tstOk : T → Expr → Bool
  | .unot a, e => match e with
    | .UnaryOp .Not x _ => tstOk a x
    | _ => false
  | .band a b, e => match e with
    | .BoolOp .And [x, y] _ => tstOk a x && tstOk b y
    | .BoolOp .And (x :: y :: z :: r) p => tstOk a x && tstOk b (.BoolOp .And (y :: z :: r) p)
    | _ => false
  | .bor a b, e => match e with
    | .BoolOp .Or [x, y] _ => tstOk a x && tstOk b y
    | .BoolOp .Or (x :: y :: z :: r) p => tstOk a x && tstOk b (.BoolOp .Or (y :: z :: r) p)
    | _ => false
  | .ife _ _ _, _ => false
  | _, _ => true
def noStar : Expr → Bool
  | .Starred _ _ => false
  | _ => true
def noSet : Expr → Bool
  | .Set _ _ _ => false
  | _ => true
def noCall : Expr → Bool
  | .Call _ _ _ _ => false
  | _ => true
def isTup : Expr → Bool
  | .Tuple _ _ _ => true
  | _ => false
mutual
def chkPt : Pt → Cxt → Expr → Bool
  | .nm i, k, e => match e with
    | .Name x _ => decide (k.N[i]? = some x) && stoB k x
    | _ => false
  | .tup p, k, e => match e with
    | .Tuple es _ _ => chkPts p k es
    | _ => false
  | _, _, _ => false
def chkPts : Pt → Cxt → List Expr → Bool
  | .nil, _, es => match es with
    | [] => true
    | _ => false
  | .cons p q, k, es => match es with
    | e :: es => chkPt p k e && chkPts q k es
    | _ => false
  | _, _, _ => false
end
/-- the block of a comprehension -/
def blkCxt (k : Cxt) (scope : Scope) : Cxt := ⟨relS scope k.sc, k.N, fun x => scope.names.lookup x == some .cell⟩
def ownP (k : Cxt) (own : List Nat) : List (Str × Nat) := own.map fun i => (k.N.getD i "", i)
def isOne : Expr → Bool
  | .Constant (.int i) _ _ => decide (i = 1)
  | _ => false
def isUsub : Expr → Bool
  | .UnaryOp .USub x _ => isOne x
  | _ => false
/-- ::-1 -/
def isRev : Expr → Bool
  | .Slice none none (some x) _ => isUsub x
  | _ => false
def nameIs (n : Str) : Expr → Bool
  | .Name x _ => decide (x = n)
  | _ => false
mutual
def chkE (tb : Tb) : T → Cxt → Expr → Bool
  | .non, _, e => match e with
    | .Constant .none _ _ => true
    | _ => false
  | .bl b, _, e => match e with
    | .Constant (.bool c) _ _ => decide (b = c)
    | _ => false
  | .int i, _, e => match e with
    | .Constant (.int c) _ _ => decide (i = c)
    | _ => false
  | .str x, _, e => match e with
    | .Constant (.str c) _ _ => decide (x = c)
    | _ => false
  | .var i, k, e => match e with
    | .Name x _ => decide (k.N[i]? = some x) && visB k.sc x
    | _ => false
  | .glb i, k, e => match e with
    | .Name x _ => decide (tb.gl[i]? = some x) && glB k.sc x
    | _ => false
  | .bin o a b, k, e => match e with
    | .BinOp x o' y _ => decide (o = o') && chkE tb a k x && chkE tb b k y
    | _ => false
  | .neg a, k, e => match e with
    | .UnaryOp .USub x _ => chkE tb a k x
    | _ => false
  | .unot a, k, e => match e with
    | .UnaryOp .Not x _ => chkE tb a k x
    | _ => false
  | .band a b, k, e => match e with
    | .BoolOp .And [x, y] _ => chkE tb a k x && chkE tb b k y
    | .BoolOp .And (x :: y :: z :: r) p => chkE tb a k x && chkE tb b k (.BoolOp .And (y :: z :: r) p)
    | _ => false
  | .bor a b, k, e => match e with
    | .BoolOp .Or [x, y] _ => chkE tb a k x && chkE tb b k y
    | .BoolOp .Or (x :: y :: z :: r) p => chkE tb a k x && chkE tb b k (.BoolOp .Or (y :: z :: r) p)
    | _ => false
  | .cmp o a b, k, e => match e with
    | .Compare x [o'] [y] _ => decide (o = o') && !behindInMarks o y && chkE tb a k x && chkE tb b k y
    | _ => false
  | .ife t a b, k, e => match e with
    | .IfExp z x y _ => chkE tb t k z && tstOk t z && chkE tb a k x && chkE tb b k y
    | _ => false
  | .tup as, k, e => match e with
    | .Tuple es _ _ => chkL tb as k es
    | _ => false
  | .lst as, k, e => match e with
    | .List es _ => chkL tb as k es
    | _ => false
  | .dct kvs, k, e => match e with
    | .Dict ks vs _ => chkP tb kvs k ks vs && decide (ks.length ≤ 15)
    | _ => false
  | .call f as, k, e => match e with
    | .Call (.Name x _) es [] _ => decide (tb.fn[f]? = some x) && glB k.sc x && chkL tb as k es
    | _ => false
  | .bi b as, k, e => match e with
    | .Call (.Name x _) (e :: es) [] _ => decide (x = b.name) && bltB tb k x && chkL tb as k (e :: es)
    | _ => false
  | .mkd as, k, e => match e with
    | .Call (.Name x _) [e] [] _ => decide (x = ("dict" : Str)) && bltB tb k x && chkL tb as k [e]
    | _ => false
  | .lzip as, k, e => match e with
    | .Call (.Name x _) [.Call (.Name y _) [a, b] [] _] [] _ => decide (x = ("list" : Str)) && decide (y = ("zip" : Str)) && bltB tb k x && bltB tb k y && chkL tb as k [a, b]
    | _ => false
  | .idx a i, k, e => match e with
    | .Subscript x y _ => noSl y && chkE tb a k x && chkE tb i k y
    | _ => false
  | .slc a lo hi, k, e => match e with
    | .Subscript x (.Slice l h none _) _ => chkE tb a k x && chkO tb lo k l && chkO tb hi k h
    | _ => false
  | .rev a, k, e => match e with
    | .Subscript x y _ => isRev y && chkE tb a k x
    | _ => false
  | .isi t a, k, e => match e with
    | .Call (.Name x _) [y, z] [] _ => decide (x = ("isinstance" : Str)) && nameIs t.nm z && bltB tb k x && bltB tb k t.nm && noStar y && chkE tb a k y
    | _ => false
  | .meth m o as, k, e => match e with
    | .Call (.Attribute x name ap) es [] cp => decide (name = m.nm) && noCall x && (ap.endLine == cp.line) && decide (es.length < 29) && chkE tb o k x && chkL tb as k es
    | _ => false
  | .lc own e p it ifs, k, ex => match ex with
    | .ListComp elt [⟨tg, iter, cs, 0⟩] scope _ => noSet iter && blkC k.N k.sc scope (ownP k own) && p.slots.all (fun i => own.contains i) && chkI tb it k tg iter && chkPt p (blkCxt k scope) tg &&
      chkT tb ifs (blkCxt k scope) cs && chkE tb e (blkCxt k scope) elt
    | _ => false
  | _, _, _ => false
def chkL (tb : Tb) : T → Cxt → List Expr → Bool
  | .nil, _, es => match es with
    | [] => true
    | _ => false
  | .cons a as, k, es => match es with
    | e :: es => noStar e && chkE tb a k e && chkL tb as k es
    | _ => false
  | _, _, _ => false
def chkO (tb : Tb) : T → Cxt → Option Expr → Bool
  | .nop, _, e => e.isNone
  | .sb a, k, e => match e with
    | some e => chkE tb a k e
    | none => false
  | _, _, _ => false
def chkP (tb : Tb) : T → Cxt → List (Option Expr) → List Expr → Bool
  | .nil, _, ks, vs => ks.isEmpty && vs.isEmpty
  | .cons a (.cons b r), k, ks, vs => match ks with
    | some x :: ks => (match vs with
      | y :: vs => chkE tb a k x && chkE tb b k y && chkP tb r k ks vs
      | _ => false)
    | _ => false
  | _, _, _, _ => false
def chkT (tb : Tb) : T → Cxt → List Expr → Bool
  | .nil, _, es => es.isEmpty
  | .cons a .nil, k, es => match es with
    | [e] => chkE tb a k e && tstOk a e
    | _ => false
  | _, _, _ => false
def chkI (tb : Tb) : T → Cxt → Expr → Expr → Bool
  | .rng as, k, _, e => match e with
    | .Call (.Name x _) [a] [] _ => decide (x = ("range" : Str)) && bltB tb k x && chkL tb as k [a]
    | _ => false
  | .rng2 as, k, _, e => match e with
    | .Call (.Name x _) [a, b] [] _ => decide (x = ("range" : Str)) && bltB tb k x && chkL tb as k [a, b]
    | _ => false
  | .zip as, k, tg, e => match e with
    | .Call (.Name x _) [a, b] [] _ => isTup tg && decide (x = ("zip" : Str)) && bltB tb k x && chkL tb as k [a, b]
    | _ => false
  | .it a, k, _, e => chkE tb a k e
  | _, _, _, _ => false
end
def isComp : Expr → Bool
  | .ListComp _ _ _ _ => true
  | .SetComp _ _ _ _ => true
  | .DictComp _ _ _ _ _ => true
  | _ => false
def unStar : List Expr → List Expr
  | [] => []
  | .Starred e _ :: es => e :: unStar es
  | e :: es => e :: unStar es
def starAt : List Expr → Option Nat
  | [] => none
  | .Starred _ _ :: _ => some 0
  | _ :: es => (starAt es).map (· + 1)
def chkG (tb : Tb) : G → Cxt → Expr → Bool
  | .nm i, k, e => match e with
    | .Name x _ => decide (k.N[i]? = some x) && stoB k x
    | _ => false
  | .al i, k, e => match e with
    | .Name x _ => decide (k.N[i]? = some x) && stoB k x
    | _ => false
  | .pt (.tup p), k, e => match e with
    | .Tuple es _ _ => chkPts p k es
    | _ => false
  | .unl p, k, e => match e with
    | .Tuple es _ _ => chkPts p k es
    | _ => false
  | .star p n i, k, e => match e with
    | .Tuple es _ _ => decide (es.length = n) && decide (starAt es = some i) && chkPts p k (unStar es)
    | _ => false
  | .ix o i, k, e => match e with
    | .Subscript x y _ => noSl y && chkE tb o k x && chkE tb i k y
    | _ => false
  | _, _, _ => false
/-- [..] stored in a local of the same line: the other road -/
def swLc (k : Cxt) : Expr → Expr → Bool
  | .Name t p, .ListComp _ _ s q => decide (k.sc.names.lookup t = some .local) && decide (p.line = q.line) && !(s.names.any fun y => decide (y.1 = t) && (decide (y.2 = .local) || decide (y.2 = .cell)))
  | _, _ => false
def isNm : G → Bool
  | .nm _ => true
  | .al _ => true
  | _ => false
def chkR (tb : Tb) : List G → List T → Cxt → List Expr → List Expr → Bool
  | [], ts, _, ns, es => ts.isEmpty && ns.isEmpty && es.isEmpty
  | g :: gs, ts, k, ns, es => match ts with
    | t :: ts => (match ns with
      | .Name x _ :: ns => (match es with
        | e :: es => isNm g && decide (k.N[slotG g]? = some x) && stoB k x && noStar e && chkE tb t k e && chkR tb gs ts k ns es
        | _ => false)
      | _ => false)
    | _ => false
def nmLoc (k : Cxt) (l : Nat) : Expr → Option Str
  | .Name x p => if k.sc.names.lookup x = some .local ∧ p.line = l then some x else none
  | _ => none
def hdLine : List Expr → Nat
  | [] => 0
  | e :: _ => e.pos.line
def nmsOf (k : Cxt) (ns : List Expr) : List Str := ns.filterMap (nmLoc k (hdLine ns))
def oddNms (k : Cxt) (ns : List Expr) : Bool := (nmsOf k ns).length != ns.length || (nmsOf k ns).eraseDups.length != (nmsOf k ns).length
/-- the stores are turned round -/
def swapB (k : Cxt) (ns es : List Expr) : Bool := (ns.length == 2 || ns.length == 3) && !oddNms k ns && !(es.all (foldedForSure 8)) && !(es.all (constantsAlone 8))
/-- they are not -/
def straightB (k : Cxt) (ns es : List Expr) : Bool := !(ns.length == 2 || ns.length == 3) || oddNms k ns || es.all (foldedForSure 8)
mutual
def chkS (tb : Tb) : S → Cxt → Stmt → Bool
  | .asg g e, k, s => match s with
    | .Assign [tg] v _ => chkG tb g k tg && chkE tb e k v && (!isTup tg || !isTup v)
    | _ => false
  | .par gs ts, k, s => match s with
    | .Assign [.Tuple ns _ _] (.Tuple es _ _) _ => decide (gs.length ≤ 16384) && decide ((gs.map slotG).Nodup) && chkR tb gs ts k ns es && (swapB k ns es || straightB k ns es)
    | _ => false
  | .ret e, k, s => match s with
    | .Return (some v) _ => chkE tb e k v
    | _ => false
  | .ife t a b, k, s => match s with
    | .If z x y _ => chkE tb t k z && tstOk t z && chkB tb a k x && chkB tb b k y
    | _ => false
  | .forr p it b, k, s => match s with
    | .For tg iter body [] _ => noSet iter && chkI tb it k tg iter && chkPt p k tg && chkB tb b k body
    | _ => false
  | .whl t b, k, s => match s with
    | .While z body [] _ => chkE tb t k z && tstOk t z && chkB tb b k body
    | _ => false
  | .ex e, k, s => match s with
    | .Expr v _ => !isComp v && chkE tb e k v
    | _ => false
  | .brk, _, s => match s with
    | .Break _ => true
    | _ => false
  | .cnt, _, s => match s with
    | .Continue _ => true
    | _ => false
  | .pass, _, s => match s with
    | .Pass _ => true
    | _ => false
  | _, _, _ => false
def chkB (tb : Tb) : S → Cxt → List Stmt → Bool
  | .nil, _, ss => ss.isEmpty
  | .cons a b, k, ss => match ss with
    | s :: ss => chkS tb a k s && chkB tb b k ss
    | _ => false
  | _, _, _ => false
end
end Lf
end

section
set_option maxHeartbeats 8000000
/-! What is rendered does what the small language says. -/
namespace Lf
open PySem PySem.Spec PySem.Calls PyProof.Rows L2
/-- where a text runs -/
structure Bs where
  P : Program
  w : World
  K : PySem.W.Frag
  mg : Str → Option Value
  base : Heap
structure OkB (B : Bs) (tb : Tb) (P : Pg) (n : Nat) : Prop where
  fns : ∀ (i : Nat) (x : Str), tb.fn[i]? = some x → ∃ f fd ps, B.mg x = some (.ref f) ∧ PySem.W.keepIn B.K (.ref f) = true ∧ Binds B.K fd ps [] ∧ FnG B.P B.w B.K B.mg B.base n f fd ps (spN B.K (callN P n i))
  gls : ∀ (i : Nat) (x : Str), tb.gl[i]? = some x → ∃ u v d, B.mg x = some u ∧ RelV v u ∧ Dv B.K (fun _ => none) v d ∧ P.glb[i]? = some d
  blt : ∀ x ∈ tb.bl, B.mg x = none
structure OkX (B : Bs) (n : Nat) (k : Cxt) (X : Cx) : Prop where
  prog : X.prog = B.P
  w : X.w = B.w
  K : X.K = B.K
  mg : X.mg = B.mg
  base : X.base = B.base
  calm : X.calm = true
  nd : X.N.Nodup
  sc : X.env.scope = k.sc
  N : X.N = k.N
  fn : ∀ x, X.fn x = k.fn x
  big : Big X.A
  guards : X.A.guards = some []
  room : Room n X.A
  xe : X.xe = fun _ _ => False
section
variable {B : Bs} {n : Nat} {k : Cxt} {X : Cx}
theorem OkX.pass (ok : OkX B n k X) : PassesOwn (model X.prog X.w) X.A X.env X.xe := by rw [ok.xe]; exact .never
theorem OkX.gl (ok : OkX B n k X) {x : Str} (h : glB k.sc x = true) : Gl X x ∧ (x == ("__debug__" : Str)) = false := by
  simp only [glB, Bool.and_eq_true, decide_eq_true_eq, Bool.not_eq_true'] at h
  refine ⟨?_, h.2⟩
  show X.env.scope.names.lookup x = _
  rw [ok.sc]; exact h.1
theorem OkX.vis (ok : OkX B n k X) {x : Str} (h : visB k.sc x = true) : Vis X.env.scope x ∧ (x == ("__debug__" : Str)) = false ∧ (x == ("__classdict__" : Str)) = false := by
  simp only [visB, Bool.and_eq_true, Bool.or_eq_true, decide_eq_true_eq, Bool.not_eq_true'] at h
  refine ⟨?_, h.1.2, h.2⟩
  show X.env.scope.names.lookup x = _ ∨ X.env.scope.names.lookup x = _ ∨ X.env.scope.names.lookup x = _
  rw [ok.sc]
  rcases h.1.1 with (a | a) | a
  · exact .inl a
  · exact .inr (.inl a)
  · exact .inr (.inr a)
theorem OkX.sto (ok : OkX B n k X) {x : Str} (h : stoB k x = true) : Loc X.env.scope x ∧ (X.fn x = true ∨ X.env.scope.names.lookup x = some .local) := by
  simp only [stoB, Bool.and_eq_true, Bool.or_eq_true, decide_eq_true_eq] at h
  rw [ok.sc, ok.fn]
  exact ⟨by show k.sc.names.lookup x = _ ∨ k.sc.names.lookup x = _; exact h.1, h.2⟩
theorem OkX.blk (ok : OkX B n k X) (s : Shared) (H : Hp) (scope : Scope) (A : Addr) (cl : List (Str × Addr)) (fp : List Addr) : OkX B n (blkCxt k scope) (X.blk s H scope (compEnvC scope cl A X.env) fp) where
  prog := ok.prog
  w := ok.w
  K := ok.K
  mg := ok.mg
  base := ok.base
  calm := ok.calm
  nd := ok.nd
  sc := by show relS scope X.env.scope = relS scope k.sc; rw [ok.sc]
  N := ok.N
  fn := fun _ => rfl
  big := ok.big
  guards := ok.guards
  room := ok.room
  xe := rfl
end
theorem star_of {e : Expr} (h : noStar e = true) (es : List Expr) (env : Env) : starEach (e :: es) env = (false, eval e env) :: starEach es env := by
  cases e <;> first | rfl | cases h
theorem plainIx_of {e : Expr} (h : noSl e = true) : PlainIx e := by
  intro o i
  cases e <;> first | rfl | cases h
theorem base_of {o : Expr} {x : Str} {env : Env} (h : noCall o = true) : attributeBase o x env (eval o env) = eval o env := by
  cases o <;> first | rfl | cases h
theorem set_of {e : Expr} {env : Env} (h : noSet e = true) (x : Value) : foldedSetIterable e env x = pure x := by
  cases e <;> first | rfl | cases h
theorem isRev_of {s : Expr} (h : isRev s = true) : ∃ k p1 p2 p3, s = .Slice none none (some (.UnaryOp .USub (.Constant (.int 1) k p1) p2)) p3 := by
  unfold isRev at h
  split at h
  · unfold isUsub at h
    split at h
    · unfold isOne at h
      split at h
      · rw [of_decide_eq_true h]; exact ⟨_, _, _, _, rfl⟩
      · cases h
    · cases h
  · cases h
theorem nameIs_of {n : Str} {z : Expr} (h : nameIs n z = true) : ∃ p, z = .Name n p := by
  unfold nameIs at h
  split at h
  · rw [of_decide_eq_true h]; exact ⟨_, rfl⟩
  · cases h
section
variable {tb : Tb}
theorem list_star : ∀ (as : T) {k : Cxt} {es : List Expr} {env : Env} {pos : Pos}, chkL tb as k es = true → (backTo pos (starEach es env)).any (·.1) = false ∧ (backTo pos (starEach es env)).all (fun x => !x.1) = true
  | .nil, k, es, env, pos, h => by
    simp only [chkL] at h
    split at h
    · exact ⟨rfl, rfl⟩
    · cases h
  | .cons a as, k, es, env, pos, h => by
    simp only [chkL] at h
    split at h
    · simp only [Bool.and_eq_true] at h
      rw [star_of h.1.1]
      obtain ⟨h1, h2⟩ := list_star as (env := env) (pos := pos) h.2
      refine ⟨?_, ?_⟩
      · show (false || _) = false
        rw [Bool.false_or]; exact h1
      · show (!false && _) = true
        rw [Bool.not_false, Bool.true_and]; exact h2
    · cases h
  | .non, _, _, _, _, h => by cases h
  | .bl _, _, _, _, _, h => by cases h
  | .int _, _, _, _, _, h => by cases h
  | .str _, _, _, _, _, h => by cases h
  | .var _, _, _, _, _, h => by cases h
  | .glb _, _, _, _, _, h => by cases h
  | .bin _ _ _, _, _, _, _, h => by cases h
  | .neg _, _, _, _, _, h => by cases h
  | .unot _, _, _, _, _, h => by cases h
  | .band _ _, _, _, _, _, h => by cases h
  | .bor _ _, _, _, _, _, h => by cases h
  | .cmp _ _ _, _, _, _, _, h => by cases h
  | .ife _ _ _, _, _, _, _, h => by cases h
  | .tup _, _, _, _, _, h => by cases h
  | .lst _, _, _, _, _, h => by cases h
  | .dct _, _, _, _, _, h => by cases h
  | .call _ _, _, _, _, _, h => by cases h
  | .bi _ _, _, _, _, _, h => by cases h
  | .mkd _, _, _, _, _, h => by cases h
  | .lzip _, _, _, _, _, h => by cases h
  | .idx _ _, _, _, _, _, h => by cases h
  | .slc _ _ _, _, _, _, _, h => by cases h
  | .nop, _, _, _, _, h => by cases h
  | .rev _, _, _, _, _, h => by cases h
  | .isi _ _, _, _, _, _, h => by cases h
  | .sb _, _, _, _, _, h => by cases h
  | .meth _ _ _, _, _, _, _, h => by cases h
  | .lc _ _ _ _ _, _, _, _, _, h => by cases h
  | .rng _, _, _, _, _, h => by cases h
  | .rng2 _, _, _, _, _, h => by cases h
  | .zip _, _, _, _, _, h => by cases h
  | .it _, _, _, _, _, h => by cases h
end
end Lf
end

section
set_option maxHeartbeats 8000000
/-! Expressions, statements. -/
namespace Lf
open PySem PySem.Spec PySem.Calls PyProof.Rows L2
/-- all that is told of a text t -/
structure All (B : Bs) (tb : Tb) (U : Pg) (n : Nat) (t : T) : Prop where
  fE : ∀ {k : Cxt} {e : Expr} {X : Cx} {C : Ct}, OkX B n k X → C.K = B.K → chkE tb t k e = true → PE X e (tE C (evE (fnsN U n) t)) ∧ (tstOk t e = true → PT X e (tB C (asB (evE (fnsN U n) t))))
  fL : ∀ {k : Cxt} {es : List Expr} {X : Cx} {C : Ct}, OkX B n k X → C.K = B.K → chkL tb t k es = true → PA X es (tA C (evL (fnsN U n) t))
  fO : ∀ {k : Cxt} {e : Option Expr} {X : Cx} {C : Ct}, OkX B n k X → C.K = B.K → chkO tb t k e = true → PO X e (tO C (evO (fnsN U n) t))
  fP : ∀ {k : Cxt} {ks : List (Option Expr)} {vs : List Expr} {X : Cx} {C : Ct} {pos : Pos}, OkX B n k X → C.K = B.K → chkP tb t k ks vs = true → PD X pos C ks vs (evP (fnsN U n) t) ∧ ks.all (·.isSome) = true ∧ ks.length = vs.length
  fQ : ∀ b r, t = .cons b r → (∀ {k : Cxt} {e : Expr} {X : Cx} {C : Ct}, OkX B n k X → C.K = B.K → chkE tb b k e = true → PE X e (tE C (evE (fnsN U n) b))) ∧
    (∀ {k : Cxt} {ks : List (Option Expr)} {vs : List Expr} {X : Cx} {C : Ct} {pos : Pos}, OkX B n k X → C.K = B.K → chkP tb r k ks vs = true → PD X pos C ks vs (evP (fnsN U n) r) ∧ ks.all (·.isSome) = true ∧ ks.length = vs.length)
  fT : ∀ {k : Cxt} {es : List Expr} {X : Cx} {C : Ct}, OkX B n k X → C.K = B.K → chkT tb t k es = true → PTs X es (tB C (evT (fnsN U n) t))
  fI : ∀ {k : Cxt} {tg e : Expr} {X : Cx} {C : Ct}, OkX B n k X → C.K = B.K → chkI tb t k tg e = true → PI X tg e (tI C (evI (fnsN U n) t))
section
variable {B : Bs} {tb : Tb} {U : Pg} {n : Nat} {t : T}
theorem All.e (hE : ∀ {k : Cxt} {e : Expr} {X : Cx} {C : Ct}, OkX B n k X → C.K = B.K → chkE tb t k e = true → PE X e (tE C (evE (fnsN U n) t)) ∧ (tstOk t e = true → PT X e (tB C (asB (evE (fnsN U n) t)))))
    (hL : ∀ k es, chkL tb t k es = false := by intros; rfl) (hO : ∀ k e, chkO tb t k e = false := by intros; rfl) (hP : ∀ k ks vs, chkP tb t k ks vs = false := by intros; rfl) (hQ : ∀ b r, t ≠ .cons b r := by intros; nofun)
    (hT : ∀ k es, chkT tb t k es = false := by intros; rfl) (hI : ∀ k tg e, chkI tb t k tg e = false := by intros; rfl) : All B tb U n t where
  fE := hE
  fL := fun _ _ h => by rw [hL] at h; cases h
  fO := fun _ _ h => by rw [hO] at h; cases h
  fP := fun _ _ h => by rw [hP] at h; cases h
  fQ := fun b r h => absurd h (hQ b r)
  fT := fun _ _ h => by rw [hT] at h; cases h
  fI := fun _ _ h => by rw [hI] at h; cases h
theorem pw_of {X : Cx} {op : PySem.BoolOp} {vs : List Expr} {p : Pos} {t : TT} (h : PT X (.BoolOp op vs p) t) : PW X (.BoolOp op vs p) t := ⟨fun _ => h.run⟩
theorem own_map (k : Cxt) (own : List Nat) : (ownP k own).map (·.2) = own := by
  unfold ownP
  rw [List.map_map]
  induction own with
  | nil => rfl
  | cons a l ih => simp only [List.map_cons, ih]; rfl
-- patterns
mutual
theorem pt_ok {C : Ct} : ∀ (p : Pt) {k : Cxt} {e : Expr} {X : Cx}, OkX B n k X → C.K = B.K → chkPt p k e = true → PG X e (tPq C p)
  | .nm i, k, e, X, ok, hC, h => by
    simp only [chkPt] at h
    split at h
    · simp only [Bool.and_eq_true, decide_eq_true_eq] at h
      obtain ⟨a, b⟩ := ok.sto h.2
      exact q_nm ok.nd (by rw [ok.N]; exact h.1) a b
    · cases h
  | .tup p, k, e, X, ok, hC, h => by
    simp only [chkPt] at h
    split at h
    · obtain ⟨a, b, c⟩ := pts_ok (C := C) p ok hC h
      exact q_tup (ok.K.trans hC.symm) ok.calm a b c
    · cases h
  | .nil, _, _, _, _, _, h => by cases h
  | .cons _ _, _, _, _, _, _, h => by cases h
theorem pts_ok {C : Ct} : ∀ (p : Pt) {k : Cxt} {es : List Expr} {X : Cx}, OkX B n k X → C.K = B.K → chkPts p k es = true → PGs X es (tPqs C p) ∧ (assignEach es X.env).length = p.len ∧ (assignEach es X.env).findIdx? (·.1) = none
  | .nil, k, es, X, ok, hC, h => by
    simp only [chkPts] at h
    split at h
    · exact ⟨q_nil, rfl, rfl⟩
    · cases h
  | .cons p q, k, es, X, ok, hC, h => by
    simp only [chkPts] at h
    split at h
    · rename_i e es
      simp only [Bool.and_eq_true] at h
      obtain ⟨a, b, c⟩ := pts_ok (C := C) q ok hC h.2
      have hp := pt_ok (C := C) p ok hC h.1
      have key : assignEach (e :: es) X.env = (false, assign e X.env) :: assignEach es X.env := by
        have h1 := h.1
        cases p with
        | nm i =>
          simp only [chkPt] at h1
          split at h1
          · rfl
          · cases h1
        | tup p =>
          simp only [chkPt] at h1
          split at h1
          · rfl
          · cases h1
        | nil => cases h1
        | cons _ _ => cases h1
      refine ⟨q_cons hp a (by rw [key]; rfl), by rw [key]; simp [b, Pt.len], by rw [key, List.findIdx?_cons]; simp [c]⟩
    · cases h
  | .nm _, _, _, _, _, _, h => by cases h
  | .tup _, _, _, _, _, _, h => by cases h
end
theorem all_ok (okb : OkB B tb U n) : ∀ t : T, All B tb U n t := by
  intro t
  induction t with
  | non =>
    refine .e fun {k e X C} ok hC h => ?_
    simp only [chkE] at h
    split at h
    · exact ⟨j_non, fun _ => t_of (ok.K.trans hC.symm) j_non fun _ => rfl⟩
    · cases h
  | bl b =>
    refine .e fun {k e X C} ok hC h => ?_
    simp only [chkE] at h
    split at h
    · simp only [decide_eq_true_eq] at h
      subst h
      exact ⟨j_bl, fun _ => t_of (ok.K.trans hC.symm) j_bl fun _ => rfl⟩
    · cases h
  | int b =>
    refine .e fun {k e X C} ok hC h => ?_
    simp only [chkE] at h
    split at h
    · simp only [decide_eq_true_eq] at h
      subst h
      exact ⟨j_int, fun _ => t_of (ok.K.trans hC.symm) j_int fun _ => rfl⟩
    · cases h
  | str b =>
    refine .e fun {k e X C} ok hC h => ?_
    simp only [chkE] at h
    split at h
    · simp only [decide_eq_true_eq] at h
      subst h
      exact ⟨j_str, fun _ => t_of (ok.K.trans hC.symm) j_str fun _ => rfl⟩
    · cases h
  | var i =>
    refine .e fun {k e X C} ok hC h => ?_
    simp only [chkE] at h
    split at h
    · simp only [Bool.and_eq_true, decide_eq_true_eq] at h
      obtain ⟨a, b, c⟩ := ok.vis h.2
      have q := j_var (C := C) (pos := by assumption) (by rw [ok.N]; exact h.1) a b c
      exact ⟨q, fun _ => t_of (ok.K.trans hC.symm) q fun _ => rfl⟩
    · cases h
  | glb i =>
    refine .e fun {k e X C} ok hC h => ?_
    simp only [chkE] at h
    split at h
    · simp only [Bool.and_eq_true, decide_eq_true_eq] at h
      obtain ⟨a, b⟩ := ok.gl h.2
      obtain ⟨u, v, d, m1, m2, m3, m4⟩ := okb.gls _ _ h.1
      have q := j_glb (C := C) (pos := by assumption) a (by rw [ok.mg]; exact m1) m2 (by rw [hC]; exact m3) b
      have e : evE (fnsN U n) (.glb i) = fun _ c => .ok (.d d, c) := by
        funext env c
        simp only [evE]
        show (match U.glb[i]? with | some d => Res.ok (W.d d, c) | none => Res.no) = _
        rw [m4]
      rw [e]
      exact ⟨q, fun _ => t_of (ok.K.trans hC.symm) q fun _ => rfl⟩
    · cases h
  | bin o a b iha ihb =>
    refine .e fun {k e X C} ok hC h => ?_
    simp only [chkE] at h
    split at h
    · simp only [Bool.and_eq_true, decide_eq_true_eq] at h
      obtain ⟨⟨rfl, h1⟩, h2⟩ := h
      have q := j_bin (o := o) (pos := by assumption) (ok.K.trans hC.symm) (iha.fE ok hC h1).1 (ihb.fE ok hC h2).1
      exact ⟨q, fun _ => t_of (ok.K.trans hC.symm) q fun _ => rfl⟩
    · cases h
  | neg a iha =>
    refine .e fun {k e X C} ok hC h => ?_
    simp only [chkE] at h
    split at h
    · have q := j_neg (pos := by assumption) (iha.fE ok hC h).1
      exact ⟨q, fun _ => t_of (ok.K.trans hC.symm) q fun _ => rfl⟩
    · cases h
  | unot a iha =>
    refine .e fun {k e X C} ok hC h => ?_
    simp only [chkE] at h
    split at h
    · obtain ⟨q1, q2⟩ := iha.fE ok hC h
      exact ⟨j_not (ok.K.trans hC.symm) q1, fun ht => t_not (q2 (by simpa only [tstOk] using ht))⟩
    · cases h
  | band a b iha ihb =>
    refine .e fun {k e X C} ok hC h => ?_
    simp only [chkE] at h
    split at h
    · simp only [Bool.and_eq_true] at h
      obtain ⟨a1, a2⟩ := iha.fE ok hC h.1
      obtain ⟨b1, b2⟩ := ihb.fE ok hC h.2
      refine ⟨j_and (ok.K.trans hC.symm) a1 (j_one b1), fun ht => ?_⟩
      simp only [tstOk, Bool.and_eq_true] at ht
      exact (w_and (a2 ht.1) (w_one (b2 ht.2))).pt
    · simp only [Bool.and_eq_true] at h
      obtain ⟨a1, a2⟩ := iha.fE ok hC h.1
      obtain ⟨b1, b2⟩ := ihb.fE ok hC h.2
      refine ⟨j_and (ok.K.trans hC.symm) a1 b1, fun ht => ?_⟩
      simp only [tstOk, Bool.and_eq_true] at ht
      exact (w_and (a2 ht.1) (pw_of (b2 ht.2))).pt
    · cases h
  | bor a b iha ihb =>
    refine .e fun {k e X C} ok hC h => ?_
    simp only [chkE] at h
    split at h
    · simp only [Bool.and_eq_true] at h
      obtain ⟨a1, a2⟩ := iha.fE ok hC h.1
      obtain ⟨b1, b2⟩ := ihb.fE ok hC h.2
      refine ⟨j_or (ok.K.trans hC.symm) a1 (j_one b1), fun ht => ?_⟩
      simp only [tstOk, Bool.and_eq_true] at ht
      exact (w_or (a2 ht.1) (w_one (b2 ht.2))).pt
    · simp only [Bool.and_eq_true] at h
      obtain ⟨a1, a2⟩ := iha.fE ok hC h.1
      obtain ⟨b1, b2⟩ := ihb.fE ok hC h.2
      refine ⟨j_or (ok.K.trans hC.symm) a1 b1, fun ht => ?_⟩
      simp only [tstOk, Bool.and_eq_true] at ht
      exact (w_or (a2 ht.1) (pw_of (b2 ht.2))).pt
    · cases h
  | cmp o a b iha ihb =>
    refine .e fun {k e X C} ok hC h => ?_
    simp only [chkE] at h
    split at h
    · simp only [Bool.and_eq_true, decide_eq_true_eq, Bool.not_eq_true'] at h
      obtain ⟨⟨⟨rfl, h0⟩, h1⟩, h2⟩ := h
      have hK := ok.K.trans hC.symm
      exact ⟨j_cmp hK ok.big (iha.fE ok hC h1).1 (ihb.fE ok hC h2).1 h0, fun _ => t_cmp hK ok.big (iha.fE ok hC h1).1 (ihb.fE ok hC h2).1 h0⟩
    · cases h
  | ife t a b iht iha ihb =>
    refine .e fun {k e X C} ok hC h => ?_
    simp only [chkE] at h
    split at h
    · simp only [Bool.and_eq_true] at h
      obtain ⟨⟨⟨h0, h1⟩, h2⟩, h3⟩ := h
      exact ⟨j_ife ((iht.fE ok hC h0).2 h1) (iha.fE ok hC h2).1 (ihb.fE ok hC h3).1, fun ht => by cases ht⟩
    · cases h
  | tup as iha =>
    refine .e fun {k e X C} ok hC h => ?_
    simp only [chkE] at h
    split at h
    · have q := j_tup (pos := by assumption) (k := by assumption) (iha.fL ok hC h)
      exact ⟨q, fun _ => t_of (ok.K.trans hC.symm) q fun _ => rfl⟩
    · cases h
  | lst as iha =>
    refine .e fun {k e X C} ok hC h => ?_
    simp only [chkE] at h
    split at h
    · have q := j_lst (pos := by assumption) (iha.fL ok hC h)
      exact ⟨q, fun _ => t_of (ok.K.trans hC.symm) q fun _ => rfl⟩
    · cases h
  | dct kvs ih =>
    refine .e fun {k e X C} ok hC h => ?_
    simp only [chkE] at h
    split at h
    · rename_i ks vs pos
      simp only [Bool.and_eq_true, decide_eq_true_eq] at h
      obtain ⟨q1, q2, q3⟩ := ih.fP (pos := pos) ok hC h.1
      have q : PE X (.Dict ks vs pos) (tE C (evE (fnsN U n) (.dct kvs))) := by
        cases ks with
        | nil =>
          cases vs with
          | cons _ _ => cases q3
          | nil =>
            have e0 : kvs = .nil := by
              have h1 := h.1
              cases kvs with
              | nil => rfl
              | cons a as => exact absurd h1 (by cases as <;> exact Bool.false_ne_true)
              | _ => exact (Bool.false_ne_true h1).elim
            subst e0
            exact peI j_dct0 fun σ H Q ⟨G, ι, env, c, s, en, h⟩ => ⟨G, ι, env, c, s, en, h⟩
        | cons a ks => exact j_dct q1 q2 q3 (by simp) h.2
      exact ⟨q, fun _ => t_of (ok.K.trans hC.symm) q fun _ => rfl⟩
    · cases h
  | call f as ih =>
    refine .e fun {k e X C} ok hC h => ?_
    simp only [chkE] at h
    split at h
    · rename_i x p es pos
      simp only [Bool.and_eq_true, decide_eq_true_eq] at h
      obtain ⟨⟨h1, h2⟩, h3⟩ := h
      obtain ⟨g, db⟩ := ok.gl h2
      obtain ⟨fa, fd, ps, m1, m2, m3, m4⟩ := okb.fns _ _ h1
      have hK := ok.K.trans hC.symm
      have F : FnG X.prog X.w X.K X.mg X.base n fa fd ps (spN X.K (callN U n f)) := by rw [ok.prog, ok.w, ok.K, ok.mg, ok.base]; exact m4
      have bd : Binds X.K fd ps [] := by rw [ok.K]; exact m3
      have kp : PySem.W.keepIn X.K (.ref fa) = true := by rw [ok.K]; exact m2
      have mg : X.mg x = some (.ref fa) := by rw [ok.mg]; exact m1
      have q : PE X (.Call (.Name x p) es [] pos) (tE C (evE (fnsN U n) (.call f as))) := by
        cases es with
        | nil =>
          have e0 : as = .nil := by cases as <;> first | rfl | cases h3
          subst e0
          exact j_call0 hK F ok.room ok.guards bd g mg kp db
        | cons e es =>
          have ns := list_star as (env := X.env) (pos := pos) h3
          cases as with
          | cons a as' =>
            have h3' := h3
            simp only [chkL, Bool.and_eq_true] at h3'
            have st := star_of h3'.1.1 es X.env
            rw [st] at ns
            exact j_call hK F ok.room ok.guards bd g mg kp (ih.fL ok hC h3) db st (by
              have := ns.1
              simpa [backTo] using this)
          | _ => cases h3
      exact ⟨q, fun _ => t_of hK q fun _ => rfl⟩
    · cases h
  | bi b as ih =>
    refine .e fun {k e X C} ok hC h => ?_
    simp only [chkE] at h
    split at h
    · rename_i x p e es pos
      simp only [Bool.and_eq_true, decide_eq_true_eq, bltB] at h
      obtain ⟨⟨rfl, h1, h2⟩, h3⟩ := h
      obtain ⟨g, db⟩ := ok.gl h2
      have hK := ok.K.trans hC.symm
      have ns := list_star as (env := X.env) (pos := pos) h3
      have q : PE X (.Call (.Name b.name p) (e :: es) [] pos) (tE C (evE (fnsN U n) (.bi b as))) := by
        cases as with
        | cons a as' =>
          have h3' := h3
          simp only [chkL, Bool.and_eq_true] at h3'
          have st := star_of h3'.1.1 es X.env
          rw [st] at ns
          exact j_bi hK ok.calm ok.big ok.guards b g (by rw [ok.mg]; exact okb.blt _ h1) (ih.fL ok hC h3) st (by have := ns.1; simpa [backTo] using this)
        | _ => cases h3
      exact ⟨q, fun _ => t_of hK q fun _ => rfl⟩
    · cases h
  | mkd as ih =>
    refine .e fun {k e X C} ok hC h => ?_
    simp only [chkE] at h
    split at h
    · rename_i x p e pos
      simp only [Bool.and_eq_true, decide_eq_true_eq, bltB] at h
      obtain ⟨⟨rfl, h1, h2⟩, h3⟩ := h
      obtain ⟨g, db⟩ := ok.gl h2
      have hK := ok.K.trans hC.symm
      have q : PE X (.Call (.Name ("dict" : Str) p) [e] [] pos) (tE C (evE (fnsN U n) (.mkd as))) := by
        cases as with
        | cons a as' =>
          have h3' := h3
          simp only [chkL, Bool.and_eq_true] at h3'
          exact j_mkd hK ok.calm g (by rw [ok.mg]; exact okb.blt _ h1) (ih.fL ok hC h3) (star_of h3'.1.1 [] X.env)
        | _ => cases h3
      exact ⟨q, fun _ => t_of hK q fun _ => rfl⟩
    · cases h
  | idx a i iha ihi =>
    refine .e fun {k e X C} ok hC h => ?_
    simp only [chkE] at h
    split at h
    · simp only [Bool.and_eq_true] at h
      have q := j_idx (pos := by assumption) (ok.K.trans hC.symm) ok.big (iha.fE ok hC h.1.2).1 (ihi.fE ok hC h.2).1 (plainIx_of h.1.1)
      exact ⟨q, fun _ => t_of (ok.K.trans hC.symm) q fun _ => rfl⟩
    · cases h
  | slc a lo hi iha ihl ihh =>
    refine .e fun {k e X C} ok hC h => ?_
    simp only [chkE] at h
    split at h
    · rename_i x l hh p1 p2
      simp only [Bool.and_eq_true] at h
      have q := j_slc (pos := p2) (p2 := p1) (ok.K.trans hC.symm) (iha.fE ok hC h.1.1).1 (ihl.fO ok hC h.1.2) (ihh.fO ok hC h.2)
      exact ⟨q, fun _ => t_of (ok.K.trans hC.symm) q fun _ => rfl⟩
    · cases h
  | rev a iha =>
    refine .e fun {k e X C} ok hC h => ?_
    simp only [chkE] at h
    split at h
    · simp only [Bool.and_eq_true] at h
      rename_i x0 y0 pos
      obtain ⟨k0, p1, p2, p3, rfl⟩ := isRev_of h.1
      have q := j_rev (pos := pos) (k := k0) (p1 := p1) (p2 := p2) (p3 := p3) (ok.K.trans hC.symm) (iha.fE ok hC h.2).1
      exact ⟨q, fun _ => t_of (ok.K.trans hC.symm) q fun _ => rfl⟩
    · cases h
  | isi t a iha =>
    refine .e fun {k e X C} ok hC h => ?_
    simp only [chkE] at h
    split at h
    · rename_i x p y z pos
      simp only [Bool.and_eq_true, decide_eq_true_eq, bltB] at h
      obtain ⟨⟨⟨⟨⟨rfl, hz⟩, h1, h2⟩, h3, h4⟩, h5⟩, h6⟩ := h
      obtain ⟨p2, rfl⟩ := nameIs_of hz
      obtain ⟨g, _⟩ := ok.gl h2
      obtain ⟨g2, _⟩ := ok.gl h4
      have hK := ok.K.trans hC.symm
      have q := j_isi (pos := pos) (p := p) (p2 := p2) t hK (iha.fE ok hC h6).1 g (by rw [ok.mg]; exact okb.blt _ h1) g2 (by rw [ok.mg]; exact okb.blt _ h3) (star_of h5 [.Name t.nm p2] X.env)
      exact ⟨q, fun _ => t_of hK q fun _ => rfl⟩
    · cases h
  | meth m o as iho ih =>
    refine .e fun {k e X C} ok hC h => ?_
    simp only [chkE] at h
    split at h
    · rename_i x name ap es cp
      simp only [Bool.and_eq_true, decide_eq_true_eq] at h
      obtain ⟨⟨⟨⟨⟨h1, h2⟩, h3⟩, h4⟩, h5⟩, h6⟩ := h
      have hK := ok.K.trans hC.symm
      have po := (iho.fE ok hC h5).1
      have ns := list_star as (env := X.env) (pos := cp) h6
      have q : PE X (.Call (.Attribute x name ap) es [] cp) (tE C (evE (fnsN U n) (.meth m o as))) := by
        cases es with
        | nil =>
          have e0 : as = .nil := by cases as <;> first | rfl | cases h6
          subst e0
          exact j_meth0 m h1 hK po (base_of h2) h3
        | cons e es =>
          cases as with
          | cons a as' =>
            have h6' := h6
            simp only [chkL, Bool.and_eq_true] at h6'
            have st := star_of h6'.1.1 es X.env
            refine j_meth m h1 hK po (ih.fL ok hC h6) (base_of h2) ?_ h3 st ?_
            · rw [ns.2]
              simp [keywordEach, backToKw]
              have := h4
              simp at this
              omega
            · have := ns.1
              rw [st] at this
              simpa [backTo] using this
          | _ => cases h6
      exact ⟨q, fun _ => t_of hK q fun _ => rfl⟩
    · cases h
  | lc own e p it ifs ihe ihi ihf =>
    refine .e fun {k ex X C} ok hC h => ?_
    simp only [chkE] at h
    split at h
    · rename_i elt tg iter cs scope pos
      simp only [Bool.and_eq_true] at h
      obtain ⟨⟨⟨⟨⟨⟨h1, h2⟩, h3⟩, h4⟩, h5⟩, h6⟩, h7⟩ := h
      have hK := ok.K.trans hC.symm
      have hq : C.q.K = B.K := hC
      have bo : BlkOk X.N X.env.scope scope (ownP k own) := by rw [ok.N, ok.sc]; exact blkOk_by h2
      have q := j_lc (C := C) (elt := elt) (pos := pos) ok.calm ok.nd (ihi.fI ok hC h4) bo (p := p) (fun x hx => by
          rw [own_map]
          have := List.all_eq_true.mp h3 x hx
          simpa using this)
        (fun s H A cl fp => pt_ok p (ok.blk s H scope A cl fp) hq h5) (fun s H A cl fp => ihf.fT (ok.blk s H scope A cl fp) hq h6) (fun s H A cl fp => (ihe.fE (ok.blk s H scope A cl fp) hq h7).1) (set_of h1)
      rw [own_map] at q
      exact ⟨q, fun _ => t_of hK q fun _ => rfl⟩
    · cases h
  | lzip as ih =>
    refine .e fun {k e X C} ok hC h => ?_
    simp only [chkE] at h
    split at h
    · rename_i x p y p2 a b pos2 pos
      simp only [Bool.and_eq_true, decide_eq_true_eq, bltB] at h
      obtain ⟨⟨⟨⟨rfl, rfl⟩, h1, h2⟩, h3, h4⟩, h5⟩ := h
      obtain ⟨g, _⟩ := ok.gl h2
      obtain ⟨g2, _⟩ := ok.gl h4
      have hK := ok.K.trans hC.symm
      have q : PE X (.Call (.Name ("list" : Str) p) [.Call (.Name ("zip" : Str) p2) [a, b] [] pos2] [] pos) (tE C (evE (fnsN U n) (.lzip as))) := by
        have h6 := (list_star as (env := X.env) (pos := pos2) h5).1
        cases as with
        | cons t1 as' =>
          have h5' := h5
          simp only [chkL, Bool.and_eq_true] at h5'
          refine j_lzip hK ok.calm g (by rw [ok.mg]; exact okb.blt _ h1) g2 (by rw [ok.mg]; exact okb.blt _ h3) (ih.fL ok hC h5) rfl (star_of h5'.1.1 [b] X.env) ?_
          rw [star_of h5'.1.1 [b] X.env] at h6
          simp only [backTo, List.map_cons, List.any_cons, Bool.or_eq_false_iff] at h6 ⊢
          first | exact h6.2 | simpa using h6
        | _ => cases h5
      exact ⟨q, fun _ => t_of hK q fun _ => rfl⟩
    · cases h
  | nil =>
    refine ⟨fun _ _ h => (Bool.false_ne_true h).elim, fun {k es X C} ok hC h => ?_, fun _ _ h => (Bool.false_ne_true h).elim, fun {k ks vs X C pos} ok hC h => ?_, fun b r h => (nomatch h), fun {k es X C} ok hC h => ?_, fun _ _ h => (Bool.false_ne_true h).elim⟩
    · simp only [chkL] at h
      split at h
      · exact l_nil
      · cases h
    · simp only [chkP, Bool.and_eq_true, List.isEmpty_iff] at h
      obtain ⟨rfl, rfl⟩ := h
      exact ⟨d_nil, rfl, rfl⟩
    · simp only [chkT, List.isEmpty_iff] at h
      subst h
      exact ts_nil
  | cons a as iha ih =>
    have hP : ∀ {k : Cxt} {ks : List (Option Expr)} {vs : List Expr} {X : Cx} {C : Ct} {pos : Pos}, OkX B n k X → C.K = B.K → chkP tb (.cons a as) k ks vs = true → PD X pos C ks vs (evP (fnsN U n) (.cons a as)) ∧ ks.all (·.isSome) = true ∧ ks.length = vs.length := by
      intro k ks vs X C pos ok hC h
      cases as with
      | cons b r =>
        simp only [chkP] at h
        split at h
        · split at h
          · simp only [Bool.and_eq_true] at h
            obtain ⟨qb, qr⟩ := ih.fQ b r rfl
            obtain ⟨r1, r2, r3⟩ := qr (pos := pos) ok hC h.2
            exact ⟨d_cons (iha.fE ok hC h.1.1).1 (qb ok hC h.1.2) r1, by simpa using r2, by simp [r3]⟩
          · cases h
        · cases h
      | _ => exact (Bool.false_ne_true h).elim
    refine ⟨fun _ _ h => (Bool.false_ne_true h).elim, fun {k es X C} ok hC h => ?_, fun _ _ h => (Bool.false_ne_true h).elim, hP, fun b r h => ?_, fun {k es X C} ok hC h => ?_, fun _ _ h => (Bool.false_ne_true h).elim⟩
    · simp only [chkL] at h
      split at h
      · simp only [Bool.and_eq_true] at h
        exact l_cons (iha.fE ok hC h.1.2).1 (ih.fL ok hC h.2) (star_of h.1.1 _)
      · cases h
    · cases h
      exact ⟨fun ok hC h => (iha.fE ok hC h).1, ih.fP⟩
    · cases as with
      | nil =>
        simp only [chkT] at h
        split at h
        · simp only [Bool.and_eq_true] at h
          have q := ts_one ((iha.fE ok hC h.1).2 h.2)
          have e0 : evT (fnsN U n) (.cons a .nil) = asB (evE (fnsN U n) a) := by
            funext env c
            simp only [evT, asB]
            cases evE (fnsN U n) a env c with
            | no => rfl
            | rs _ _ _ => rfl
            | ok r =>
              simp only [Res.bind_ok]
              cases truW r.2 r.1 with
              | none => rfl
              | some k => cases k <;> rfl
          rw [e0]
          exact q
        · cases h
      | _ => exact (Bool.false_ne_true h).elim
  | nop =>
    refine ⟨fun _ _ h => (Bool.false_ne_true h).elim, fun _ _ h => (Bool.false_ne_true h).elim, fun {k e X C} ok hC h => ?_, fun _ _ h => (Bool.false_ne_true h).elim, fun b r h => (nomatch h), fun _ _ h => (Bool.false_ne_true h).elim, fun _ _ h => (Bool.false_ne_true h).elim⟩
    cases e with
    | none => exact o_nop
    | some _ => cases h
  | sb a iha =>
    refine ⟨fun _ _ h => (Bool.false_ne_true h).elim, fun _ _ h => (Bool.false_ne_true h).elim, fun {k e X C} ok hC h => ?_, fun _ _ h => (Bool.false_ne_true h).elim, fun b r h => (nomatch h), fun _ _ h => (Bool.false_ne_true h).elim, fun _ _ h => (Bool.false_ne_true h).elim⟩
    cases e with
    | none => cases h
    | some e => exact o_sb (iha.fE ok hC h).1
  | rng as ih =>
    refine ⟨fun _ _ h => (Bool.false_ne_true h).elim, fun _ _ h => (Bool.false_ne_true h).elim, fun _ _ h => (Bool.false_ne_true h).elim, fun _ _ h => (Bool.false_ne_true h).elim, fun b r h => (nomatch h), fun _ _ h => (Bool.false_ne_true h).elim, fun {k tg e X C} ok hC h => ?_⟩
    simp only [chkI] at h
    split at h
    · simp only [Bool.and_eq_true, decide_eq_true_eq, bltB] at h
      obtain ⟨⟨rfl, h1, h2⟩, h3⟩ := h
      obtain ⟨g, db⟩ := ok.gl h2
      cases as with
      | cons a as' =>
        have h3' := h3
        simp only [chkL, Bool.and_eq_true] at h3'
        exact i_rng1 g (by rw [ok.mg]; exact okb.blt _ h1) (ih.fL ok hC h3) (star_of h3'.1.1 [] X.env)
      | _ => cases h3
    · cases h
  | rng2 as ih =>
    refine ⟨fun _ _ h => (Bool.false_ne_true h).elim, fun _ _ h => (Bool.false_ne_true h).elim, fun _ _ h => (Bool.false_ne_true h).elim, fun _ _ h => (Bool.false_ne_true h).elim, fun b r h => (nomatch h), fun _ _ h => (Bool.false_ne_true h).elim, fun {k tg e X C} ok hC h => ?_⟩
    simp only [chkI] at h
    split at h
    · simp only [Bool.and_eq_true, decide_eq_true_eq, bltB] at h
      obtain ⟨⟨rfl, h1, h2⟩, h3⟩ := h
      obtain ⟨g, db⟩ := ok.gl h2
      cases as with
      | cons a as' =>
        have h3' := h3
        simp only [chkL, Bool.and_eq_true] at h3'
        cases as' with
        | cons b as' =>
          simp only [chkL, Bool.and_eq_true] at h3'
          have e2 := star_of h3'.2.1.1 [] X.env
          exact i_rng2 g (by rw [ok.mg]; exact okb.blt _ h1) (ih.fL ok hC h3) (by rw [star_of h3'.1.1, e2]; rfl) e2
        | _ => cases h3'.2
      | _ => cases h3
    · cases h
  | zip as ih =>
    refine ⟨fun _ _ h => (Bool.false_ne_true h).elim, fun _ _ h => (Bool.false_ne_true h).elim, fun _ _ h => (Bool.false_ne_true h).elim, fun _ _ h => (Bool.false_ne_true h).elim, fun b r h => (nomatch h), fun _ _ h => (Bool.false_ne_true h).elim, fun {k tg e X C} ok hC h => ?_⟩
    simp only [chkI] at h
    split at h
    · simp only [Bool.and_eq_true, decide_eq_true_eq, bltB] at h
      obtain ⟨⟨⟨h0, rfl⟩, h1, h2⟩, h3⟩ := h
      obtain ⟨g, db⟩ := ok.gl h2
      cases tg <;> try (cases h0; done)
      cases as with
      | cons a as' =>
        have h3' := h3
        simp only [chkL, Bool.and_eq_true] at h3'
        cases as' with
        | cons b as' =>
          simp only [chkL, Bool.and_eq_true] at h3'
          have e2 := star_of h3'.2.1.1 [] X.env
          exact i_zip (ok.K.trans hC.symm) g (by rw [ok.mg]; exact okb.blt _ h1) (ih.fL ok hC h3) (star_of h3'.1.1 _ _) (by rw [e2]; rfl)
        | _ => cases h3'.2
      | _ => cases h3
    · cases h
  | it a iha =>
    refine ⟨fun _ _ h => (Bool.false_ne_true h).elim, fun _ _ h => (Bool.false_ne_true h).elim, fun _ _ h => (Bool.false_ne_true h).elim, fun _ _ h => (Bool.false_ne_true h).elim, fun b r h => (nomatch h), fun _ _ h => (Bool.false_ne_true h).elim, fun {k tg e X C} ok hC h => ?_⟩
    exact i_it (ok.K.trans hC.symm) (iha.fE ok hC (by simpa only [chkI] using h)).1
end
end Lf
end

section
set_option maxHeartbeats 8000000
/-! Statements. -/
namespace Lf
open PySem PySem.Spec PySem.Calls PyProof.Rows L2
theorem pts_noStar : ∀ (p : Pt) {k : Cxt} {es : List Expr}, chkPts p k es = true → es.all noStar = true
  | .nil, k, es, h => by
    simp only [chkPts] at h
    split at h
    · rfl
    · cases h
  | .cons p q, k, es, h => by
    simp only [chkPts] at h
    split at h
    · rename_i e es
      simp only [Bool.and_eq_true] at h
      have h1 := h.1
      simp only [List.all_cons, Bool.and_eq_true]
      refine ⟨?_, pts_noStar q h.2⟩
      cases p with
      | nm i =>
        simp only [chkPt] at h1
        split at h1
        · rfl
        · cases h1
      | tup p =>
        simp only [chkPt] at h1
        split at h1
        · rfl
        · cases h1
      | nil => cases h1
      | cons _ _ => cases h1
    · cases h
  | .nm _, _, _, h => by cases h
  | .tup _, _, _, h => by cases h
theorem each_cons {e : Expr} (h : noStar e = true) (es : List Expr) (env : Env) : assignEach (e :: es) env = (false, assign e env) :: assignEach es env := by
  cases e <;> first | rfl | cases h
theorem star_each {env : Env} : ∀ {es : List Expr}, (unStar es).all noStar = true → (assignEach es env).map (·.2) = (assignEach (unStar es) env).map (·.2) ∧ (assignEach es env).length = es.length ∧ (assignEach es env).findIdx? (·.1) = starAt es
  | [], _ => ⟨rfl, rfl, rfl⟩
  | e :: es, h => by
    by_cases hs : noStar e = true
    · have e1 : unStar (e :: es) = e :: unStar es := by cases e <;> first | rfl | cases hs
      have e2 : starAt (e :: es) = (starAt es).map (· + 1) := by cases e <;> first | rfl | cases hs
      rw [e1] at h ⊢
      simp only [List.all_cons, Bool.and_eq_true] at h
      obtain ⟨a, b, c⟩ := star_each (env := env) h.2
      rw [e2, each_cons hs, each_cons hs]
      refine ⟨by simp [a], by simp [b], ?_⟩
      rw [List.findIdx?_cons]
      simp [c]
    · cases e <;> try (exact absurd rfl hs)
      rename_i t p
      have e1 : unStar (.Starred t p :: es) = t :: unStar es := rfl
      rw [e1] at h ⊢
      simp only [List.all_cons, Bool.and_eq_true] at h
      obtain ⟨a, b, c⟩ := star_each (env := env) h.2
      rw [each_cons h.1]
      refine ⟨by simp only [assignEach, List.map_cons, a], by simp only [assignEach, List.length_cons, b], ?_⟩
      simp only [assignEach, List.findIdx?_cons]
      rfl
section
variable {B : Bs} {tb : Tb} {U : Pg} {n : Nat}
theorem g_ok (okb : OkB B tb U n) {C : Ct} : ∀ (g : Lf.G) {k : Cxt} {e : Expr} {X : Cx}, OkX B n k X → C.K = B.K → chkG tb g k e = true → PG X e (tG C (storeG (fnsN U n) g)) := by
  intro g k e X ok hC h
  cases g with
  | nm i =>
    simp only [chkG] at h
    split at h
    · simp only [Bool.and_eq_true, decide_eq_true_eq] at h
      obtain ⟨a, b⟩ := ok.sto h.2
      exact g_name (.inl rfl) ok.nd (by rw [ok.N]; exact h.1) a b
    · cases h
  | al i =>
    simp only [chkG] at h
    split at h
    · simp only [Bool.and_eq_true, decide_eq_true_eq] at h
      obtain ⟨a, b⟩ := ok.sto h.2
      exact g_name (.inr rfl) ok.nd (by rw [ok.N]; exact h.1) a b
    · cases h
  | pt p =>
    cases p with
    | tup p =>
      simp only [chkG] at h
      split at h
      · obtain ⟨a, b, c⟩ := pts_ok (C := C) p ok hC h
        exact g_pt (q_tup (ok.K.trans hC.symm) ok.calm a b c)
      · cases h
    | _ => exact (Bool.false_ne_true h).elim
  | unl p =>
    simp only [chkG] at h
    split at h
    · obtain ⟨a, b, c⟩ := pts_ok (C := C) p ok hC h
      exact g_unl (ok.K.trans hC.symm) ok.calm a b c
    · cases h
  | star p m i =>
    simp only [chkG] at h
    split at h
    · simp only [Bool.and_eq_true, decide_eq_true_eq] at h
      obtain ⟨⟨h1, h2⟩, h3⟩ := h
      obtain ⟨a, b, c⟩ := pts_ok (C := C) p ok hC h3
      obtain ⟨x, y, z⟩ := star_each (env := X.env) (pts_noStar p h3)
      exact g_star (ok.K.trans hC.symm) ok.calm a x (y.trans h1) (z.trans h2)
    · cases h
  | ix o i =>
    simp only [chkG] at h
    split at h
    · simp only [Bool.and_eq_true] at h
      exact g_ix ok.big h.1.1 ((all_ok okb o).fE ok hC h.1.2).1 ((all_ok okb i).fE ok hC h.2).1
    · cases h
theorem g_noStar {g : Lf.G} {k : Cxt} {e : Expr} (h : chkG tb g k e = true) : noStar e = true := by
  cases g with
  | nm i =>
    simp only [chkG] at h
    split at h
    · rfl
    · cases h
  | al i =>
    simp only [chkG] at h
    split at h
    · rfl
    · cases h
  | pt p =>
    cases p with
    | tup p =>
      simp only [chkG] at h
      split at h
      · rfl
      · cases h
    | _ => exact (Bool.false_ne_true h).elim
  | unl p =>
    simp only [chkG] at h
    split at h
    · rfl
    · cases h
  | star p m i =>
    simp only [chkG] at h
    split at h
    · rfl
    · cases h
  | ix o i =>
    simp only [chkG] at h
    split at h
    · rfl
    · cases h
theorem e_setc {t : T} {k : Cxt} {a b c d} : chkE tb t k (.SetComp a b c d) = false := by cases t <;> rfl
theorem e_dicc {t : T} {k : Cxt} {a b c d f} : chkE tb t k (.DictComp a b c d f) = false := by cases t <;> rfl
theorem s_setLc {C : Ct} {X : Cx} {i : Nat} {y : Str} {py : Pos} {elt tg iter : Expr} {ifs : List Expr} {scope : Scope} {own : List (Str × Nat)} {pos spos : Pos} {f : En → Cells → Res (List D × Lk × Cells)} {ft : En → Cells → Res (Bool × Cells)} {fe : En → Cells → Res (W × Cells)} {p : Pt} {F : Fns} {g : Lf.G}
    (hg0 : g = .nm i ∨ g = .al i) (hc : X.calm = true) (hN : X.N.Nodup) (hy : X.N[i]? = some y) (hyl : X.env.scope.names.lookup y = some .local)
    (hsw : swapsWith (.ListComp elt [⟨tg, iter, ifs, 0⟩] scope pos) (some (.Name y py)) spos.line X.env = pure true)
    (hi : PI X tg iter (tI C f)) (ok : BlkOk X.N X.env.scope scope own) (hp : ∀ x, x ∈ p.slots → x ∈ own.map (·.2))
    (hg : ∀ (s : Shared) (H : Hp) (A : Addr) (cl : List (Str × Addr)) (fp : List Addr), PG (X.blk s H scope (compEnvC scope cl A X.env) fp) tg (tPq C.q p))
    (ht : ∀ (s : Shared) (H : Hp) (A : Addr) (cl : List (Str × Addr)) (fp : List Addr), PTs (X.blk s H scope (compEnvC scope cl A X.env) fp) ifs (tB C.q ft))
    (he : ∀ (s : Shared) (H : Hp) (A : Addr) (cl : List (Str × Addr)) (fp : List Addr), PE (X.blk s H scope (compEnvC scope cl A X.env) fp) elt (tE C.q fe)) (hs : ∀ x, foldedSetIterable iter X.env x = pure x) :
    PS X (.Assign [.Name y py] (.ListComp elt [⟨tg, iter, ifs, 0⟩] scope pos) spos) (tS C fun env c => lcF (own.map (·.2)) p f ft fe env c >>= fun r => storeG F g r.1 env r.2 >>= fun q => .ok (.nx, q.1, q.2)) := by
  refine psI (ps_setLc hc hN hy hyl hsw hi ok hg ht he hs) fun Y σ H ⟨G, ι, env, c, s, en, h⟩ => lc_tell hp ⟨G, ι, env, c, s, en, RE.imp (RS.bind (rel := WR C.K) h) fun v H1 ⟨G1, c1, w1, e1, s1, r1, h1⟩ => ?_⟩
  refine name_tell (C := C) (F := F) hg0 ⟨G, H, G1, ι, env, c1, w1, e1, s1, en.keep e1, r1, ?_⟩
  dsimp only at h1
  cases hq : storeG F g w1 env c1 with
  | no => rw [hq] at h1; exact h1
  | rs x y z => rw [hq] at h1; exact h1
  | ok q => rw [hq] at h1; exact fun G' ι' H' σ' a b d => h1 G' ι' H' σ' a b d
theorem r_ok (okb : OkB B tb U n) {C : Ct} : ∀ (gs : List Lf.G) {ts : List T} {k : Cxt} {ns es : List Expr} {X : Cx}, OkX B n k X → C.K = B.K → chkR tb gs ts k ns es = true →
    PA X es (tR C (WQ C.K) (evR (fnsN U n) gs ts)) ∧ PGs X ns (tNms (gs.map slotG)) ∧ (assignEach ns X.env).length = gs.length ∧ (assignEach ns X.env).findIdx? (·.1) = none ∧ ns.length = gs.length ∧ es.length = gs.length ∧ es.all noStar = true
  | [], ts, k, ns, es, X, ok, hC, h => by
    simp only [chkR, Bool.and_eq_true, List.isEmpty_iff] at h
    obtain ⟨⟨rfl, rfl⟩, rfl⟩ := h
    exact ⟨r_nil, n_nil, rfl, rfl, rfl, rfl, rfl⟩
  | g :: gs, ts, k, ns, es, X, ok, hC, h => by
    simp only [chkR] at h
    split at h
    · split at h
      · split at h
        · rename_i t ts _ x p ns _ e es
          simp only [Bool.and_eq_true, decide_eq_true_eq] at h
          obtain ⟨⟨⟨⟨⟨h1, h2⟩, h3⟩, h4⟩, h5⟩, h6⟩ := h
          obtain ⟨a1, a2, a3, a4, a5, a6, a7⟩ := r_ok okb (C := C) gs ok hC h6
          obtain ⟨a, b⟩ := ok.sto h3
          refine ⟨r_cons ((all_ok okb t).fE ok hC h5).1 a1 (star_of h4 _ _), n_cons ok.nd (by rw [ok.N]; exact h2) a b a2 (by rw [each_cons rfl]; rfl), ?_, ?_, by simp [a5], by simp [a6], by simp [h4, a7]⟩
          · rw [each_cons rfl]; simp [a3]
          · rw [each_cons rfl, List.findIdx?_cons]; simp [a4]
        · cases h
      · cases h
    · cases h
end

/-! ### several names at once -/
theorem nms_eq {k : Cxt} {env : Env} (hs : env.scope = k.sc) (l : Nat) : (fun e : Expr => match e with
    | .Name id pos => if env.kindOf id == some .local && pos.line == l then some id else none
    | _ => none) = nmLoc k l := by
  funext e
  cases e <;> try rfl
  simp only [nmLoc, Env.kindOf, hs, Bool.and_eq_true, beq_iff_eq]
theorem blockKind_of {env : Env} (hk : env.scope.kind = .function) : env.blockKind = .function := by
  unfold Env.blockKind
  rw [hk]; rfl
theorem any_noStar {es : List Expr} (hn : es.all noStar = true) : (es.any fun | .Starred .. => true | _ => false) = false := by
  rw [List.any_eq_false]
  intro e he
  have := List.all_eq_true.mp hn e he
  cases e <;> first | (intro h; cases h; done) | cases this
theorem hd_line (ns : List Expr) : ((ns.head?.map (·.pos.line)).getD 0) = hdLine ns := by cases ns <;> rfl
theorem swap_yes {k : Cxt} {env : Env} {ns es : List Expr} {kt k2 : Nat} {pt p2 : Pos} (hk : env.scope.kind = .function) (hs : env.scope = k.sc) (hl : es.length = ns.length) (hn : es.all noStar = true) (h : swapB k ns es = true) :
    swappedStores [.Tuple ns kt pt] (.Tuple es k2 p2) env = pure (some (nmsOf k ns)) := by
  simp only [swapB, Bool.and_eq_true, Bool.not_eq_true'] at h
  obtain ⟨⟨⟨h1, h2⟩, h3⟩, h4⟩ := h
  unfold swappedStores
  simp only [hd_line, hl]
  have e := nms_eq hs (hdLine ns)
  have h2' : (((ns.filterMap (nmLoc k (hdLine ns))).length != ns.length || (ns.filterMap (nmLoc k (hdLine ns))).eraseDups.length != (ns.filterMap (nmLoc k (hdLine ns))).length) : Bool) = false := h2
  rw [← e] at h2'
  refine (if_neg ?_).trans ((if_neg ?_).trans ((if_neg ?_).trans ((if_neg ?_).trans ((if_neg ?_).trans ?_))))
  · rw [h1, blockKind_of hk]; simp
  · intro z; exact Bool.false_ne_true ((any_noStar hn).symm.trans z)
  · intro z; exact Bool.false_ne_true (h2'.symm.trans z)
  · rw [h3]; decide
  · rw [h4]; decide
  · unfold nmsOf
    rw [← e]
    rfl
theorem swap_no {k : Cxt} {env : Env} {ns es : List Expr} {kt k2 : Nat} {pt p2 : Pos} (hk : env.scope.kind = .function) (hs : env.scope = k.sc) (hl : es.length = ns.length) (hn : es.all noStar = true) (h : straightB k ns es = true) :
    swappedStores [.Tuple ns kt pt] (.Tuple es k2 p2) env = pure none := by
  simp only [straightB, Bool.or_eq_true] at h
  unfold swappedStores
  simp only [hd_line, hl]
  have e := nms_eq hs (hdLine ns)
  by_cases c1 : ((!(ns.length == 2 || ns.length == 3) || ns.length != ns.length || env.blockKind != .function) : Bool) = true
  · exact if_pos c1
  · refine (if_neg c1).trans ((if_neg ?_).trans ?_)
    · intro z; exact Bool.false_ne_true ((any_noStar hn).symm.trans z)
    · rcases h with (h | h) | h
      · exact absurd (by rw [h]; rfl) c1
      · have h' : (((ns.filterMap (nmLoc k (hdLine ns))).length != ns.length || (ns.filterMap (nmLoc k (hdLine ns))).eraseDups.length != (ns.filterMap (nmLoc k (hdLine ns))).length) : Bool) = true := h
        rw [← e] at h'
        exact if_pos h'
      · split <;> first | rfl | exact if_pos h
theorem nmLoc_some {k : Cxt} {l : Nat} {e : Expr} {x : Str} (h : nmLoc k l e = some x) : ∃ p, e = .Name x p ∧ k.sc.names.lookup x = some .local := by
  cases e <;> try (cases h; done)
  simp only [nmLoc] at h
  split at h
  · rename_i q; cases h; exact ⟨_, rfl, q.1⟩
  · cases h

/-! ### statements -/
theorem swLc_is {k : Cxt} {env : Env} {t : Str} {p : Pos} {elt : Expr} {gens : List Comprehension} {sc : Scope} {q : Pos} {l : Nat} (hk : env.scope.kind = .function) (hs : env.scope = k.sc) :
    swapsWith (.ListComp elt gens sc q) (some (.Name t p)) l env = pure (swLc k (.Name t p) (.ListComp elt gens sc q)) := by
  unfold swapsWith
  show (pure _ : Sem Bool) = pure _
  refine congrArg pure ?_
  simp only [swLc]
  rw [blockKind_of hk]
  simp only [Env.kindOf, hs]
  have e1 : ∀ a b : Bool, (a = true ↔ b = true) → a = b := fun a b h => by cases a <;> cases b <;> simp_all
  apply e1
  simp only [Bool.and_eq_true, beq_iff_eq, decide_eq_true_eq, Bool.not_eq_true', List.any_eq_false, Bool.or_eq_true, Prod.forall]
  constructor
  · rintro ⟨⟨⟨_, a⟩, b⟩, c⟩
    exact ⟨⟨a, b⟩, c⟩
  · rintro ⟨⟨a, b⟩, c⟩
    exact ⟨⟨⟨trivial, a⟩, b⟩, c⟩
section
variable {B : Bs} {tb : Tb} {U : Pg} {n : Nat}
theorem nms2 {k : Cxt} {a b : Expr} (h : oddNms k [a, b] = false) : ∃ x y p q, a = .Name x p ∧ b = .Name y q ∧ k.sc.names.lookup x = some .local ∧ k.sc.names.lookup y = some .local ∧ nmsOf k [a, b] = [x, y] := by
  simp only [oddNms, nmsOf, Bool.or_eq_false_iff, bne_eq_false_iff_eq] at h
  obtain ⟨h, _⟩ := h
  unfold nmsOf
  cases ha : nmLoc k (hdLine [a, b]) a with
  | none => simp only [List.filterMap_cons, ha, List.filterMap_nil] at h; cases hb : nmLoc k (hdLine [a, b]) b <;> simp [hb] at h
  | some x =>
    cases hb : nmLoc k (hdLine [a, b]) b with
    | none => simp [List.filterMap_cons, ha, hb] at h
    | some y =>
      obtain ⟨p, e1, l1⟩ := nmLoc_some ha
      obtain ⟨q, e2, l2⟩ := nmLoc_some hb
      exact ⟨x, y, p, q, e1, e2, l1, l2, by simp [List.filterMap_cons, ha, hb]⟩
theorem nms3 {k : Cxt} {a b c : Expr} (h : oddNms k [a, b, c] = false) : ∃ x y z p q r, a = .Name x p ∧ b = .Name y q ∧ c = .Name z r ∧ k.sc.names.lookup x = some .local ∧ k.sc.names.lookup y = some .local ∧ k.sc.names.lookup z = some .local ∧ nmsOf k [a, b, c] = [x, y, z] := by
  simp only [oddNms, nmsOf, Bool.or_eq_false_iff, bne_eq_false_iff_eq] at h
  obtain ⟨h, _⟩ := h
  unfold nmsOf
  cases ha : nmLoc k (hdLine [a, b, c]) a with
  | none => cases hb : nmLoc k (hdLine [a, b, c]) b <;> cases hc : nmLoc k (hdLine [a, b, c]) c <;> simp [List.filterMap_cons, ha, hb, hc] at h
  | some x =>
    cases hb : nmLoc k (hdLine [a, b, c]) b with
    | none => cases hc : nmLoc k (hdLine [a, b, c]) c <;> simp [List.filterMap_cons, ha, hb, hc] at h
    | some y =>
      cases hc : nmLoc k (hdLine [a, b, c]) c with
      | none => simp [List.filterMap_cons, ha, hb, hc] at h
      | some z =>
        obtain ⟨p, e1, l1⟩ := nmLoc_some ha
        obtain ⟨q, e2, l2⟩ := nmLoc_some hb
        obtain ⟨r, e3, l3⟩ := nmLoc_some hc
        exact ⟨x, y, z, p, q, r, e1, e2, e3, l1, l2, l3, by simp [List.filterMap_cons, ha, hb, hc]⟩
theorem r_slot : ∀ {gs : List Lf.G} {ts : List T} {k : Cxt} {ns es : List Expr}, chkR tb gs ts k ns es = true → ∀ {i : Nat} {x : Str} {p : Pos} {g : Lf.G}, ns[i]? = some (.Name x p) → gs[i]? = some g → k.N[slotG g]? = some x
  | [], _, _, _, _, _, i, _, _, _, _, h => by simp at h
  | g :: gs, ts, k, ns, es, h, i, x, p, g', h1, h2 => by
    simp only [chkR] at h
    split at h
    · split at h
      · split at h
        · simp only [Bool.and_eq_true, decide_eq_true_eq] at h
          cases i with
          | zero => simp at h1 h2; obtain ⟨rfl, rfl⟩ := h1; subst h2; exact h.1.1.1.1.2
          | succ i => exact r_slot h.2 (by simpa using h1) (by simpa using h2)
        · cases h
      · cases h
    · cases h
theorem par_ok (okb : OkB B tb U n) {C : Ct} {gs : List Lf.G} {ts : List T} {k : Cxt} {ns es : List Expr} {X : Cx} {kt k2 : Nat} {pt p2 pos : Pos} (ok : OkX B n k X) (hC : C.K = B.K) (hk : X.env.scope.kind = .function) (h1 : gs.length ≤ 16384) (h2 : (gs.map slotG).Nodup) (h3 : chkR tb gs ts k ns es = true)
    (h4 : swapB k ns es = true ∨ straightB k ns es = true) : PS X (.Assign [.Tuple ns kt pt] (.Tuple es k2 p2) pos) (tS C (exS (fnsN U n) (.par gs ts))) := by
  obtain ⟨a1, a2, a3, a4, a5, a6, a7⟩ := r_ok okb (C := C) gs ok hC h3
  rcases h4 with h4 | h4
  · have hw := swap_yes (kt := kt) (k2 := k2) (pt := pt) (p2 := p2) hk ok.sc (a6.trans a5.symm) a7 h4
    simp only [swapB, Bool.and_eq_true, Bool.not_eq_true', Bool.or_eq_true, beq_iff_eq] at h4
    obtain ⟨⟨⟨h5, h6⟩, h7⟩, h8⟩ := h4
    rcases h5 with h5 | h5
    · match ns, gs, es, h5, a5, a6 with
      | [e1, e2], [g1, g2], [v1, v2], _, _, _ =>
        obtain ⟨x, y, p, q, rfl, rfl, l1, l2, en⟩ := nms2 h6
        rw [en] at hw
        have s1 := r_slot h3 (i := 0) rfl rfl
        have s2 := r_slot h3 (i := 1) rfl rfl
        have nd : slotG g1 ≠ slotG g2 := by simpa using h2
        exact s_par2 ok.calm ok.nd (by rw [ok.N]; exact s1) (by rw [ok.N]; exact s2) nd (by rw [ok.sc]; exact l1) (by rw [ok.sc]; exact l2) a1 hw
    · match ns, gs, es, h5, a5, a6 with
      | [e1, e2, e3], [g1, g2, g3], [v1, v2, v3], _, _, _ =>
        obtain ⟨x, y, z, p, q, r, rfl, rfl, rfl, l1, l2, l3, en⟩ := nms3 h6
        rw [en] at hw
        have s1 := r_slot h3 (i := 0) rfl rfl
        have s2 := r_slot h3 (i := 1) rfl rfl
        have s3 := r_slot h3 (i := 2) rfl rfl
        have nd : (slotG g1 ≠ slotG g2 ∧ slotG g1 ≠ slotG g3) ∧ slotG g2 ≠ slotG g3 := by simpa using h2
        exact s_par3 ok.calm ok.nd (by rw [ok.N]; exact s1) (by rw [ok.N]; exact s2) (by rw [ok.N]; exact s3) nd.1.1 nd.1.2 nd.2 (by rw [ok.sc]; exact l1) (by rw [ok.sc]; exact l2) (by rw [ok.sc]; exact l3) a1 hw
  · have hw := swap_no (kt := kt) (k2 := k2) (pt := pt) (p2 := p2) hk ok.sc (a6.trans a5.symm) a7 h4
    exact s_parT ok.calm a2 a3 a4 a1 hw rfl rfl (Nat.le_trans h1 (by decide))
theorem asg_ok (okb : OkB B tb U n) {C : Ct} {g : Lf.G} {e : T} {k : Cxt} {tg v : Expr} {X : Cx} {pos : Pos} (ok : OkX B n k X) (hC : C.K = B.K) (hk : X.env.scope.kind = .function) (h1 : chkG tb g k tg = true) (h2 : chkE tb e k v = true) (h3 : (!isTup tg || !isTup v) = true) :
    PS X (.Assign [tg] v pos) (tS C (exS (fnsN U n) (.asg g e))) := by
  have pe := ((all_ok okb e).fE (C := C) ok hC h2).1
  have pg := g_ok okb (C := C) g ok hC h1
  have m1 : (assignEach [tg] X.env).map (·.2) = [assign tg X.env] := by rw [each_cons (g_noStar h1)]; rfl
  have hw : swappedStores [tg] v X.env = pure none := by
    cases tg <;> try rfl
    · cases g <;> exact absurd h1 (by first | exact Bool.false_ne_true | (rename_i p; cases p <;> exact Bool.false_ne_true))
    · cases v <;> first | rfl | (simp [isTup] at h3; done)
  have plain : swapsWithSole [tg] v pos.line X.env = pure false → PS X (.Assign [tg] v pos) (tS C (exS (fnsN U n) (.asg g e))) := fun hs => s_asg pe pg hs hw m1
  cases v <;> try (exact plain rfl)
  · rename_i elt gens scope q
    cases tg <;> try (exact plain rfl)
    rename_i t p
    have sw := swLc_is (k := k) (t := t) (p := p) (elt := elt) (gens := gens) (sc := scope) (q := q) (l := pos.line) hk ok.sc
    cases hsw : swLc k (.Name t p) (.ListComp elt gens scope q) with
    | false => rw [hsw] at sw; exact plain sw
    | true =>
      rw [hsw] at sw
      cases e <;> try (exact (Bool.false_ne_true h2).elim)
      rename_i own el pt it ifs
      simp only [chkE] at h2
      split at h2
      · rename_i elt' tg' iter' cs' scope' pos' heq
        cases heq
        simp only [Bool.and_eq_true] at h2
        obtain ⟨⟨⟨⟨⟨⟨i1, i2⟩, i3⟩, i4⟩, i5⟩, i6⟩, i7⟩ := h2
        have hq : C.q.K = B.K := hC
        have bo : BlkOk X.N X.env.scope scope (ownP k own) := by rw [ok.N, ok.sc]; exact blkOk_by i2
        have hyl : X.env.scope.names.lookup t = some .local := by
          simp only [swLc, Bool.and_eq_true, decide_eq_true_eq] at hsw
          rw [ok.sc]; exact hsw.1.1
        have nm : ∃ i, (g = .nm i ∨ g = .al i) ∧ k.N[i]? = some t := by
          cases g with
          | nm i =>
            simp only [chkG, Bool.and_eq_true, decide_eq_true_eq] at h1
            exact ⟨i, .inl rfl, h1.1⟩
          | al i =>
            simp only [chkG, Bool.and_eq_true, decide_eq_true_eq] at h1
            exact ⟨i, .inr rfl, h1.1⟩
          | pt p => cases p <;> exact (Bool.false_ne_true h1).elim
          | unl p => exact (Bool.false_ne_true h1).elim
          | star _ _ _ => exact (Bool.false_ne_true h1).elim
          | ix _ _ => exact (Bool.false_ne_true h1).elim
        obtain ⟨i, gi, ni⟩ := nm
        have q := s_setLc (C := C) (elt := elt) (pos := q) (spos := pos) (F := fnsN U n) gi ok.calm ok.nd (by rw [ok.N]; exact ni) hyl sw ((all_ok okb it).fI ok hC i4) bo (p := pt) (fun x hx => by
            rw [own_map]
            have := List.all_eq_true.mp i3 x hx
            simpa using this)
          (fun s H A cl fp => pt_ok pt (ok.blk s H scope A cl fp) hq i5) (fun s H A cl fp => (all_ok okb ifs).fT (ok.blk s H scope A cl fp) hq i6) (fun s H A cl fp => ((all_ok okb el).fE (ok.blk s H scope A cl fp) hq i7).1) (set_of i1)
        rw [own_map] at q
        exact q
      · cases h2
  · exact (Bool.false_ne_true (e_setc.symm.trans h2)).elim
  · exact (Bool.false_ne_true (e_dicc.symm.trans h2)).elim
theorem s_ok (okb : OkB B tb U n) {C : Ct} (hC : C.K = B.K) : ∀ s : S, (∀ {k : Cxt} {st : Stmt} {X : Cx}, OkX B n k X → X.env.scope.kind = .function → chkS tb s k st = true → PS X st (tS C (exS (fnsN U n) s))) ∧
    (∀ {k : Cxt} {ss : List Stmt} {X : Cx}, OkX B n k X → X.env.scope.kind = .function → chkB tb s k ss = true → PSs X ss (tS C (exS (fnsN U n) s))) := by
  intro s
  induction s with
  | asg g e =>
    refine ⟨fun {k st X} ok hk h => ?_, fun ok hk h => (Bool.false_ne_true h).elim⟩
    simp only [chkS] at h
    split at h
    · simp only [Bool.and_eq_true] at h
      exact asg_ok okb ok hC hk h.1.1 h.1.2 h.2
    · cases h
  | par gs ts =>
    refine ⟨fun {k st X} ok hk h => ?_, fun ok hk h => (Bool.false_ne_true h).elim⟩
    simp only [chkS] at h
    split at h
    · simp only [Bool.and_eq_true, decide_eq_true_eq, Bool.or_eq_true] at h
      exact par_ok okb ok hC hk h.1.1.1 h.1.1.2 h.1.2 h.2
    · cases h
  | ret e =>
    refine ⟨fun {k st X} ok hk h => ?_, fun ok hk h => (Bool.false_ne_true h).elim⟩
    simp only [chkS] at h
    split at h
    · exact s_ret ((all_ok okb e).fE ok hC h).1
    · cases h
  | ife t a b iha ihb =>
    refine ⟨fun {k st X} ok hk h => ?_, fun ok hk h => (Bool.false_ne_true h).elim⟩
    simp only [chkS] at h
    split at h
    · simp only [Bool.and_eq_true] at h
      exact s_ife (((all_ok okb t).fE ok hC h.1.1.1).2 h.1.1.2) (iha.2 ok hk h.1.2) (ihb.2 ok hk h.2)
    · cases h
  | forr p it b ihb =>
    refine ⟨fun {k st X} ok hk h => ?_, fun ok hk h => (Bool.false_ne_true h).elim⟩
    simp only [chkS] at h
    split at h
    · simp only [Bool.and_eq_true] at h
      exact s_for ok.pass ok.calm ((all_ok okb it).fI ok hC h.1.1.2) (pt_ok p ok hC h.1.2) (ihb.2 ok hk h.2) (set_of h.1.1.1)
    · cases h
  | whl t b ihb =>
    refine ⟨fun {k st X} ok hk h => ?_, fun ok hk h => (Bool.false_ne_true h).elim⟩
    simp only [chkS] at h
    split at h
    · simp only [Bool.and_eq_true] at h
      exact s_whl ok.pass (((all_ok okb t).fE ok hC h.1.1).2 h.1.2) (ihb.2 ok hk h.2)
    · cases h
  | ex e =>
    refine ⟨fun {k st X} ok hk h => ?_, fun ok hk h => (Bool.false_ne_true h).elim⟩
    simp only [chkS] at h
    split at h
    · rename_i v pos
      simp only [Bool.and_eq_true, Bool.not_eq_true'] at h
      exact s_ex ((all_ok okb e).fE ok hC h.2).1 (by cases v <;> first | rfl | cases h.1)
    · cases h
  | brk =>
    refine ⟨fun {k st X} ok hk h => ?_, fun ok hk h => (Bool.false_ne_true h).elim⟩
    simp only [chkS] at h
    split at h
    · exact s_brk
    · cases h
  | cnt =>
    refine ⟨fun {k st X} ok hk h => ?_, fun ok hk h => (Bool.false_ne_true h).elim⟩
    simp only [chkS] at h
    split at h
    · exact s_cnt
    · cases h
  | pass =>
    refine ⟨fun {k st X} ok hk h => ?_, fun ok hk h => (Bool.false_ne_true h).elim⟩
    simp only [chkS] at h
    split at h
    · exact s_pass
    · cases h
  | nil =>
    refine ⟨fun ok hk h => (Bool.false_ne_true h).elim, fun {k ss X} ok hk h => ?_⟩
    simp only [chkB, List.isEmpty_iff] at h
    subst h
    exact s_nil
  | cons a b iha ihb =>
    refine ⟨fun ok hk h => (Bool.false_ne_true h).elim, fun {k ss X} ok hk h => ?_⟩
    simp only [chkB] at h
    split at h
    · simp only [Bool.and_eq_true] at h
      exact s_cons (iha.1 ok hk h.1) (ihb.2 ok hk h.2)
    · cases h
end
end Lf
end

section
set_option maxHeartbeats 8000000
/-! A whole program; the law's own call. -/
namespace Lf
open PySem PySem.Spec PySem.Calls PyProof.Rows L2
/-- a def as the text has it: its name, its place, its names by slots, its parameters -/
structure Df where
  name : Str
  st : Stmt
  N : List Str
  ps : List Str
def Df.cxt (d : Df) : Cxt := ⟨defScope d.st, d.N, fun _ => true⟩
def scpB (d : Df) : Bool := decide ((defScope d.st).kind = .function) && !(defScope d.st).isCoroutine && !(defScope d.st).isGenerator && decide d.N.Nodup && decide (d.N.take d.ps.length = d.ps) &&
  (d.ps.all fun x => decide ((defScope d.st).names.lookup x = some .local) || decide ((defScope d.st).names.lookup x = some .cell)) && (defScope d.st).names.all fun y => !decide (y.2 = .free)
theorem scp_ok {d : Df} (h : scpB d = true) : FnScope d.N d.ps (defScope d.st) := by
  simp only [scpB, Bool.and_eq_true, decide_eq_true_eq, Bool.not_eq_true', List.all_eq_true, Bool.or_eq_true, decide_eq_false_iff_not] at h
  obtain ⟨⟨⟨⟨⟨⟨h1, h2⟩, h3⟩, h4⟩, h5⟩, h6⟩, h7⟩ := h
  exact ⟨h1, h2, h3, h4, h5, h6, h7⟩
/-- what is checked of a def once for all -/
def dfB (tb : Tb) (f : Fd) (d : Df) : Bool := scpB d && decide (f.params = d.ps.length) && decide (f.slots = d.N.length) && chkB tb f.body d.cxt (defBody d.st)
/-- its arguments bind to its parameters -/
def Bd (d : Df) : Prop := ∀ (kV doc pm : Value) (an : Option Addr) (cdv ct : Value) (us : List Value), us.length = d.ps.length → bindArgs (PySem.W.fnOf d.name d.name (defArgs d.st) (defBody d.st) (defScope d.st) .none kV doc pm an cdv ct) ⟨us, []⟩ = pure (d.ps.zip us)
/-- a def as it stands behind the top -/
structure Fct (K : PySem.W.Frag) (d : Df) : Prop where
  ex : ∃ f fd, PySem.W.nsIn K mainGlobals d.name = some (some (.ref f)) ∧ Fun K d.name d.name d.st f fd
theorem fct_mk {K : PySem.W.Frag} {d : Df} {f : Addr} {oc : Value} {od an : Option Addr} {osl : Array (Option Value)} {kV doc pm cdv ct : Value} (a : PySem.W.nsIn K mainGlobals d.name = some (some (.ref f)))
    (l : K.lookup f = some ⟨oc, od, .func (PySem.W.fnOf d.name d.name (defArgs d.st) (defBody d.st) (defScope d.st) .none kV doc pm an cdv ct), osl⟩) (c : PySem.W.codeIn K cdv d.name = true) (k : PySem.W.keepIn K (.ref f) = true) : Fct K d :=
  ⟨f, _, a, fun_mk (st := d.st) l c k⟩
/-- all of them, one by one -/
inductive Each {α : Type} (Q : α → Prop) : List α → Prop
  | nil : Each Q []
  | cons {a : α} {l : List α} : Q a → Each Q l → Each Q (a :: l)
theorem Each.at {α : Type} {Q : α → Prop} : ∀ {l : List α} {i : Nat} {a : α}, Each Q l → l[i]? = some a → Q a
  | _, 0, _, .cons h _, e => by simp at e; subst e; exact h
  | _, i + 1, _, .cons _ t, e => t.at (i := i) (by simpa using e)
/-- a constant as it stands behind the top -/
structure Cst (K : PySem.W.Frag) (c : Str × D) : Prop where
  ex : ∃ u v, PySem.W.nsIn K mainGlobals c.1 = some (some u) ∧ RelV v u ∧ Dv K (fun _ => none) v c.2
section
variable {P : Program} {w : World} {K : PySem.W.Frag} {mg : Str → Option Value} {h : Heap}
theorem fn_at {tb : Tb} {U : Pg} {base : Heap} {n i : Nat} {d : Df} {f : Addr} {fd : FuncData} {fdef : Fd} (ih : OkB ⟨P, w, K, mg, base⟩ tb U n) (hf : U.fns[i]? = some fdef) (b : Fun K d.name d.name d.st f fd) (b1 : scpB d = true) (b2 : fdef.params = d.ps.length) (b3 : fdef.slots = d.N.length)
    (b4 : chkB tb fdef.body d.cxt (defBody d.st) = true) : FnG P w K mg base (n + 1) f fd d.ps (spN K (callN U (n + 1) i)) := by
  have S := scp_ok b1
  have hlen : ∀ ws c r, callN U (n + 1) i ws c = .ok r → ws.length = d.ps.length := fun ws c r q => by
    simp only [callN, hf, runFn] at q
    split at q
    · rename_i hl; rw [← b2]; exact hl.1
    · cases q
  refine fnG b S (fun vs H Q E q => sp_len hlen q) fun cdv A outer s H vs Q E room gu q => ?_
  have ok : OkX ⟨P, w, K, mg, base⟩ n d.cxt (cxOf CX0 P w K mg base d.N d.name (defScope d.st) f cdv A outer s H E).nox :=
    ⟨rfl, rfl, rfl, rfl, rfl, rfl, S.nd, rfl, rfl, fun _ => rfl, by have := room.un; show Big (A.deeper _); unfold Big; omega, gu, room, rfl⟩
  have hbody := (s_ok (C := ⟨K, fun _ _ _ _ _ => True, fun _ _ _ _ => False⟩) ih rfl fdef.body).2 ok S.kind b4
  obtain ⟨t, l1, l2⟩ := body_run (C := ⟨K, fun _ _ _ _ _ => True, fun _ _ _ _ => False⟩) hf q
  refine ⟨_, hbody, ?_⟩
  have e : L2.start d.N vs = vs.map some ++ List.replicate (fdef.slots - fdef.params) none := by
    unfold L2.start
    rw [b3, l1]
  rw [e]
  exact t
theorem prog_ok {tb : Tb} {U : Pg} {ds : List Df} {cs : List (Str × D)} (X : K.In h) (Gn : h.Ns mainGlobals mg) (hn : tb.fn = ds.map (·.name)) (hg : tb.gl = cs.map (·.1)) (hd : U.glb = cs.map (·.2))
    (chk : ∀ (i : Nat) (d : Df), ds[i]? = some d → ∃ f, U.fns[i]? = some f ∧ dfB tb f d = true) (bd : Each Bd ds) (fc : Each (Fct K) ds) (cc : Each (Cst K) cs) (bl : Each (fun x => PySem.W.nsIn K mainGlobals x = some none) tb.bl)
    (base : Heap) : ∀ n : Nat, OkB ⟨P, w, K, mg, base⟩ tb U n := by
  have gls : ∀ (i : Nat) (x : Str), tb.gl[i]? = some x → ∃ u v d, mg x = some u ∧ RelV v u ∧ Dv K (fun _ => none) v d ∧ U.glb[i]? = some d := by
    intro i x hx
    rw [hg, List.getElem?_map] at hx
    cases hc : cs[i]? with
    | none => rw [hc] at hx; cases hx
    | some c =>
      rw [hc] at hx
      cases hx
      obtain ⟨u, v, a, b, e⟩ := (cc.at hc).ex
      exact ⟨u, v, c.2, PySem.W.mg_of X Gn a, b, e, by rw [hd, List.getElem?_map, hc]; rfl⟩
  have blt : ∀ x ∈ tb.bl, mg x = none := fun x hx => by
    obtain ⟨i, hi⟩ := List.getElem?_of_mem hx
    exact PySem.W.mg_none_of X Gn (bl.at hi)
  intro n
  induction n with
  | zero =>
    refine ⟨fun i x hx => ?_, gls, blt⟩
    rw [hn, List.getElem?_map] at hx
    cases hc : ds[i]? with
    | none => rw [hc] at hx; cases hx
    | some d =>
      rw [hc] at hx
      cases hx
      obtain ⟨f, fd, a, b⟩ := (fc.at hc).ex
      refine ⟨f, fd, d.ps, PySem.W.mg_of X Gn a, b.kp, b.binds (bd.at hc), ?_, ?_⟩
      · rintro vs H Q E ⟨_, _, _, _, _, _, _, q⟩; exact q.elim
      · rintro A outer s H args us vs Q E _ _ _ _ ⟨_, _, _, _, _, _, _, q⟩; exact q.elim
  | succ n ih =>
    refine ⟨fun i x hx => ?_, gls, blt⟩
    rw [hn, List.getElem?_map] at hx
    cases hc : ds[i]? with
    | none => rw [hc] at hx; cases hx
    | some d =>
      rw [hc] at hx
      cases hx
      obtain ⟨f, fd, a, b⟩ := (fc.at hc).ex
      obtain ⟨fdef, hf, hb⟩ := chk i d hc
      simp only [dfB, Bool.and_eq_true, decide_eq_true_eq] at hb
      obtain ⟨⟨⟨b1, b2⟩, b3⟩, b4⟩ := hb
      exact ⟨f, fd, d.ps, PySem.W.mg_of X Gn a, b.kp, b.binds (bd.at hc), fn_at ih hf b b1 b2 b3 b4⟩
end
/-! ### the law -/
theorem dvs_ints {K : PySem.W.Frag} {G : Hp} : ∀ ns : List Int, Dvs K G (ns.map V.int) (ns.map D.int)
  | [] => .nil
  | n :: ns => .cons (.int n) (dvs_ints ns)
theorem law_sp {K : PySem.W.Frag} {U : Pg} {n i : Nat} {H : Hp} {a : Addr} {ns : List Int} {E : XK} (sq : SqL K H a (ns.map V.int)) (h : ∃ c, callN U n i [.sq (ns.map D.int)] [] = .ok (.d (.bl true), c)) :
    spN K (callN U n i) [.ref a] H (fun v _ => v = .bl true) E := by
  obtain ⟨c, h⟩ := h
  refine ⟨H, [], [], [.sq (ns.map D.int)], ⟨fun _ _ z => z, rfl, List.nodup_nil, by simp, fun k x a h1 _ => by simp at h1⟩, .cons ⟨a, _, rfl, sq, dvs_ints ns⟩ .nil, rfl, ?_⟩
  rw [h]
  intro G' H' v _ _ r
  have r : Dv K G' v (.bl true) := r
  cases r; rfl
/-- the law's call from outside -/
theorem callG {P : Program} {w : World} {K : PySem.W.Frag} {mg mb : Str → Option Value} {k : Nat} {fa a : Addr} {fd : FuncData} {x : Str} {sp : Sp} {s₁ : Shared} {vs : List Value} {ns : List Int} (kin : K.In s₁.heap) (gn : s₁.heap.Ns mainGlobals mg) (bn : s₁.heap.Ns builtinsNs mb)
    (boot : ∀ x : Str, x ≠ "__name__" → mb x = bootBuiltins x) (lim : s₁.heap.NoLimit) (gens : s₁.gens = #[]) (obj : s₁.heap.get? a = some { cls := .type "list", data := .seq vs.toArray }) (are : IntsAre vs ns) (short : ns.length ≤ sizeLine) (room : Room k callerA)
    (F : ∀ base : Heap, K.In base → base.Ns mainGlobals mg → FnG P w K mg base k fa fd [x] sp) (bind : ∀ (s : Shared) (u : Value), BindsTo s fd ⟨[u], []⟩ [(x, u)])
    (pr : ∀ H : Hp, SqL K H a (ns.map V.int) → sp [.ref a] H (fun v _ => v = .bl true) fun _ _ _ => False) :
    codeAny (model P w) callerA (.call (.ref fa) ⟨[.ref a], []⟩) (fun r s' => r = .ok (.ret (.bool true)) ∧ OldK s₁.heap s'.heap ∧ s'.os = s₁.os ∧ AllBare s'.gens) s₁ := by
  have rel := vals_ints are
  have size := are.length
  have go : ∀ H : Hp, (∀ b u, H b = some u → b = a ∧ ∃ ob xs, u = .frz ob (.lst xs)) → SqL K H a (ns.map V.int) → HOk P w H s₁.heap → (H a ≠ none → K.lookup a = none) →
      codeAny (model P w) callerA (.call (.ref fa) ⟨[.ref a], []⟩) (fun r s' => r = .ok (.ret (.bool true)) ∧ OldK s₁.heap s'.heap ∧ s'.os = s₁.os ∧ AllBare s'.gens) s₁ := by
    intro H only sq hok free
    have stays : ∀ {b : Addr} {o : Obj}, s₁.heap.get? b = some o → (b = a → H a = none) → (hidT s₁.heap H).get? b = some o := fun {b o} e z => hidT_get e (by
      cases q : H b with
      | none => rfl
      | some u => obtain ⟨rfl, _⟩ := only b u q; rw [z rfl] at q; cases q)
    have dicts : ∀ {b : Addr} {m : Str → Option Value}, s₁.heap.Ns b m → (hidT s₁.heap H).Ns b m := fun {b m} ⟨o, es, ep, e, d, r⟩ => ⟨o, es, ep, stays e (fun z => by
      subst z
      rw [obj] at e; cases e
      exact absurd (show Data.seq vs.toArray _ = Data.dict es ep from d) nofun), d, r⟩
    have kin' : K.In (hidT s₁.heap H) := fun b o e => stays (kin b o e) fun z => by
      subst z
      cases q : H b with
      | none => rfl
      | some u => rw [free (by rw [q]; simp)] at e; cases e
    obtain ⟨mc, l1, l2⟩ := lim
    have e0 : Env0 P w K mg (hidT s₁.heap H) callerA [] s₁ H := ⟨rfl, ⟨kin', dicts gn, ⟨mb, dicts bn, boot⟩, ⟨mc, dicts l1, l2⟩⟩, fun _ _ e => of_hidT e, Nat.le_of_eq (hidT_size _ _), trivial, fun b hb => by simp [frs] at hb, hok, .of_eq gens⟩
    refine codeAny_mono ((F _ kin' (dicts gn)).run room rfl e0 (us := [.ref a]) (vs := [.ref a]) (.cons rfl .nil) (pr H sq) (bind s₁ (.ref a))) ?_
    intro r s' h
    cases r with
    | error e => exact False.elim h
    | ok fl =>
      cases fl with
      | next => exact False.elim h
      | brk => exact False.elim h
      | cont => exact False.elim h
      | ret u =>
        obtain ⟨v, H', os, bare, un, hok', r', q⟩ := h
        have q' : v = .bl true := q
        subst q'
        obtain rfl : u = Value.bool true := r'
        refine ⟨rfl, OldK.of_keep fun b o e => ?_, os, bare⟩
        cases q : H b with
        | none => exact un.keep b o e q (by simp [frs]) (by simp)
        | some u =>
          obtain ⟨rfl, ob, xs, rfl⟩ := only b u q
          obtain ⟨e1, _⟩ := hok b _ q
          obtain ⟨e2, _⟩ := hok' b _ (un.frzs b ob _ q)
          rw [e] at e1; cases e1
          exact e2
  cases hk : K.lookup a with
  | some o =>
    have e := kin a o hk
    rw [obj] at e
    cases e
    exact go (fun _ => none) (fun b u z => nomatch z) (.inr ⟨_, vs.toArray, _, hk, rfl, rfl, rfl, by rw [List.size_toArray, size]; exact short, by simpa using rel⟩) (fun b u z => nomatch z) fun z => absurd rfl z
  | none =>
    have at_a : ∀ {b : Addr} {u : HO}, (if b = a then some (HO.frz { cls := .type "list", data := .seq vs.toArray } (.lst (ns.map V.int))) else none) = some u → b = a ∧ u = .frz { cls := .type "list", data := .seq vs.toArray } (.lst (ns.map V.int)) := fun {b u} z => by
      by_cases hb : b = a
      · rw [if_pos hb] at z; cases z; exact ⟨hb, rfl⟩
      · rw [if_neg hb] at z; cases z
    refine go (fun b => if b = a then some (.frz { cls := .type "list", data := .seq vs.toArray } (.lst (ns.map V.int))) else none) (fun b u z => ?_) (.inl (.inr ⟨{ cls := .type "list", data := .seq vs.toArray }, if_pos rfl⟩)) (fun b u z => ?_) fun _ => hk
    · obtain ⟨e1, e2⟩ := at_a z
      exact ⟨e1, _, _, e2⟩
    · obtain ⟨e1, e2⟩ := at_a z
      subst e1; subst e2
      exact ⟨obj, by rw [List.length_map]; exact short, vs, _, rel, obj⟩
/-- the end: what k_head leaves -/
theorem walkL {l : PySem.W.OpenLaw} {k i : Nat} {q : Program} {loose : List Str} {XP : (Str → Option Value) → Heap → Prop} {YP : World → Heap → Prop} {d : DefRec} {K : Params → PySem.W.Frag} {x : Str} {U : Pg}
    (hn : l.most = some 63) (hdf : d.params.defaults = []) (hr : Room k callerA) (hY : ∀ (w : World) (h : Heap), YP w h → (K w.params).In h)
    (F : ∀ (w : World) (mg : Str → Option Value) (fa : Addr) (h : Heap), (K w.params).In h → h.Ns mainGlobals mg → mg d.name = some (.ref fa) →
      ∃ fd : FuncData, (∀ (s : Shared) (u : Value), BindsTo s fd ⟨[u], []⟩ [(x, u)]) ∧ ∀ base : Heap, (K w.params).In base → base.Ns mainGlobals mg → FnG l.prog w (K w.params) mg base k fa fd [x] (spN (K w.params) (callN U k i)))
    (law : ∀ ns : List Int, ns.length ≤ 63 → ∃ c, callN U k i [.sq (ns.map D.int)] [] = .ok (.d (.bl true), c)) :
    PySem.W.WalkO q loose XP YP l.row.toRowW d [] (fun f vs => PySem.call f vs) := by
  refine Att.attach_call hn hdf fun w s₀ s₁ mg mb fa o pm cd doc a vs ns Gr Y ho hd hcd hmg hobj hints hlen hg => ?_
  have kin := hY w _ Y
  obtain ⟨fd, hb, hF⟩ := F w mg fa _ kin Gr.T.g hmg
  exact callG kin Gr.T.g Gr.T.b Gr.T.builtins Gr.T.nolimit hg hobj hints (Nat.le_trans hlen (by decide)) hr hF hb fun H sq => law_sp sq (law ns hlen)
/-- the law's def among the others -/
theorem law_mk {P : Program} {w : World} {K : PySem.W.Frag} {mg : Str → Option Value} {h : Heap} {tb : Tb} {U : Pg} {ds : List Df} {cs : List (Str × D)} {i k : Nat} {d : Df} {fa : Addr} {x : Str} (X : K.In h) (Gn : h.Ns mainGlobals mg) (hn : tb.fn = ds.map (·.name)) (hg : tb.gl = cs.map (·.1)) (hd : U.glb = cs.map (·.2))
    (chk : ∀ (i : Nat) (d : Df), ds[i]? = some d → ∃ f, U.fns[i]? = some f ∧ dfB tb f d = true) (bd : Each Bd ds) (fc : Each (Fct K) ds) (cc : Each (Cst K) cs) (bl : Each (fun x => PySem.W.nsIn K mainGlobals x = some none) tb.bl)
    (hi : ds[i]? = some d) (hm : mg d.name = some (.ref fa)) (hp : d.ps = [x]) :
    ∃ fd : FuncData, (∀ (s : Shared) (u : Value), BindsTo s fd ⟨[u], []⟩ [(x, u)]) ∧ ∀ base : Heap, K.In base → base.Ns mainGlobals mg → FnG P w K mg base (k + 1) fa fd [x] (spN K (callN U (k + 1) i)) := by
  have hx : tb.fn[i]? = some d.name := by rw [hn, List.getElem?_map, hi]; rfl
  obtain ⟨f, fd, a, b⟩ := (fc.at hi).ex
  have e := hm.symm.trans (PySem.W.mg_of X Gn a)
  cases e
  have bs : Binds K fd d.ps [] := b.binds (bd.at hi)
  refine ⟨fd, fun s u => ?_, fun base _ _ => ?_⟩
  · obtain ⟨oc, od, kV, doc, pm, an, cdv, ct, osl, rfl, lk, hcd⟩ := b.ex
    have q := bd.at hi kV doc pm an cdv ct [u] (by rw [hp]; rfl)
    rw [hp] at q
    exact .of_eq q
  · obtain ⟨fdef, hf, hb⟩ := chk i d hi
    simp only [dfB, Bool.and_eq_true, decide_eq_true_eq] at hb
    obtain ⟨⟨⟨b1, b2⟩, b3⟩, b4⟩ := hb
    have q := fn_at (P := P) (w := w) (mg := mg) (prog_ok (P := P) (w := w) X Gn hn hg hd chk bd fc cc bl base k) hf b b1 b2 b3 b4
    rw [hp] at q
    exact q
end Lf
end

section
set_option maxHeartbeats 4000000
/-! A text run with what is done behind it: rules for simp, step by step. -/
namespace Lf
open PySem
variable {β : Type}
/-- what is done of an error -/
abbrev Xk (β : Type) := Str → List D → Cells → Res β
def rB {α : Type} (r : Res α) (X : Xk β) (K : α → Res β) : Res β := match r with
  | .ok a => K a
  | .rs x y c => X x y c
  | .no => .no
theorem rB_bind {α γ : Type} (r : Res α) (f : α → Res γ) (X : Xk β) (K : γ → Res β) : rB (r >>= f) X K = rB r X fun a => rB (f a) X K := by cases r <;> rfl
theorem rB_ok {α : Type} (a : α) (X : Xk β) (K : α → Res β) : rB (.ok a) X K = K a := rfl
theorem rB_no {α : Type} (X : Xk β) (K : α → Res β) : rB (.no : Res α) X K = .no := rfl
/-- an error that is none -/
def xNo : Xk β := fun _ _ _ => .no
/-- an option, then the rest -/
def oK {α : Type} (o : Option α) (K : α → Cells → Res β) (c : Cells) : Res β := match o with
  | some a => K a c
  | none => .no
theorem oK_some {α : Type} (a : α) (K : α → Cells → Res β) (c : Cells) : oK (some a) K c = K a c := rfl
theorem oK_eq {α : Type} (o : Option α) (K : α → Cells → Res β) (c : Cells) : (ofO o >>= fun a => K a c) = oK o K c := by cases o <;> rfl
def oC (o : Option Cells) (K : Cells → Res β) : Res β := match o with
  | some c => K c
  | none => .no
theorem oC_some (c : Cells) (K : Cells → Res β) : oC (some c) K = K c := rfl
theorem oC_eq (o : Option Cells) (K : Cells → Res β) : (ofO o >>= fun a => K a) = oC o K := by cases o <;> rfl
def cE (F : Fns) (X : Xk β) (t : T) (env : En) (c : Cells) (K : W → Cells → Res β) : Res β := rB (evE F t env c) X fun r => K r.1 r.2
def cL (F : Fns) (X : Xk β) (t : T) (env : En) (c : Cells) (K : List W → Cells → Res β) : Res β := rB (evL F t env c) X fun r => K r.1 r.2
def cO (F : Fns) (X : Xk β) (t : T) (env : En) (c : Cells) (K : Option Int → Cells → Res β) : Res β := rB (evO F t env c) X fun r => K r.1 r.2
def cP (F : Fns) (X : Xk β) (t : T) (env : En) (c : Cells) (K : List (D × D) → Cells → Res β) : Res β := rB (evP F t env c) X fun r => K r.1 r.2
def cT (F : Fns) (X : Xk β) (t : T) (env : En) (c : Cells) (K : Bool → Cells → Res β) : Res β := rB (evT F t env c) X fun r => K r.1 r.2
def cI (F : Fns) (X : Xk β) (t : T) (env : En) (c : Cells) (K : List D → Lk → Cells → Res β) : Res β := rB (evI F t env c) X fun r => K r.1 r.2.1 r.2.2
def cG (F : Fns) (X : Xk β) (g : G) (w : W) (env : En) (c : Cells) (K : En → Cells → Res β) : Res β := rB (storeG F g w env c) X fun r => K r.1 r.2
def cR (F : Fns) (X : Xk β) (gs : List G) (ts : List T) (env : En) (c : Cells) (K : List W → Cells → Res β) : Res β := rB (evR F gs ts env c) X fun r => K r.1 r.2
def cS (F : Fns) (X : Xk β) (s : S) (env : En) (c : Cells) (K : Fl → En → Cells → Res β) : Res β := rB (exS F s env c) X fun r => K r.1 r.2.1 r.2.2
/-! ### simple expressions -/
section
variable {F : Fns} {X : Xk β} {env : En} {c : Cells} {K : W → Cells → Res β} {a b t : T}
theorem cE_non : cE F X .non env c K = K (.d .non) c := rfl
theorem cE_bl {k : Bool} : cE F X (.bl k) env c K = K (.d (.bl k)) c := rfl
theorem cE_int {i : Int} : cE F X (.int i) env c K = K (.d (.int i)) c := rfl
theorem cE_str {x : Str} : cE F X (.str x) env c K = K (.d (.str x)) c := rfl
theorem cE_var0 {w : W} {r : En} : cE F X (.var 0) (some w :: r) c K = K w c := rfl
theorem cE_varS {i : Nat} {w : Option W} {r : En} : cE F X (.var (i + 1)) (w :: r) c K = cE F X (.var i) r c K := rfl
def kGl (o : Option D) (c : Cells) (K : W → Cells → Res β) : Res β := match o with
  | some d => K (.d d) c
  | none => .no
theorem cE_glb {i : Nat} {U : Pg} {n : Nat} : cE (fnsN U n) X (.glb i) env c K = kGl U.glb[i]? c K := by
  simp only [cE, evE, fnsN]
  cases U.glb[i]? <;> rfl
theorem kGl_some {d : D} : kGl (some d) c K = K (.d d) c := rfl
/-- two values seen, then the rest -/
def vBin (o : Operator) (x y : Option D) (c : Cells) (K : W → Cells → Res β) : Res β := match x, y with
  | some x, some y => oK (binD o x y) K c
  | _, _ => .no
def kBin2 (o : Operator) (x : W) (K : W → Cells → Res β) : W → Cells → Res β := fun y c => vBin o (view c x) (view c y) c K
def kBin1 (F : Fns) (X : Xk β) (o : Operator) (b : T) (env : En) (K : W → Cells → Res β) : W → Cells → Res β := fun w c => cE F X b env c (kBin2 o w K)
theorem cE_bin {o : Operator} : cE F X (.bin o a b) env c K = cE F X a env c (kBin1 F X o b env K) := by
  simp only [cE, evE, rB_bind, kBin1, kBin2]
  congr; funext r; congr; funext q
  cases view q.2 r.1 <;> cases view q.2 q.1 <;> first | rfl | skip
  simp only [vBin]; cases binD o _ _ <;> rfl
theorem kBin1_eq {o : Operator} {w : W} : kBin1 F X o b env K w c = cE F X b env c (kBin2 o w K) := rfl
theorem kBin2_dd {o : Operator} {x y : D} : kBin2 o (.d x) K (.d y) c = oK (binD o x y) K c := rfl
theorem kBin2_eq {o : Operator} {x y : W} : kBin2 o x K y c = vBin o (view c x) (view c y) c K := rfl
theorem vBin_some {o : Operator} {x y : D} : vBin o (some x) (some y) c K = oK (binD o x y) K c := rfl
def kNeg (K : W → Cells → Res β) : W → Cells → Res β := fun w c => match view c w with
  | some (.int i) => K (.d (.int (-i))) c
  | _ => .no
theorem cE_neg : cE F X (.neg a) env c K = cE F X a env c (kNeg K) := by
  simp only [cE, evE, rB_bind, kNeg]
  congr; funext r
  cases view r.2 r.1 with
  | none => rfl
  | some d => cases d <;> rfl
def kRev (K : W → Cells → Res β) : W → Cells → Res β := fun w c => match view c w with
  | some (.lst xs) => K (.fl xs.reverse) c
  | some (.tup xs) => K (.d (.tup xs.reverse)) c
  | _ => .no
theorem cE_rev : cE F X (.rev a) env c K = cE F X a env c (kRev K) := by
  simp only [cE, evE, rB_bind, kRev]
  congr; funext r
  cases view r.2 r.1 with
  | none => rfl
  | some d => cases d <;> rfl
theorem kRev_tup {xs : List D} : kRev K (.d (.tup xs)) c = K (.d (.tup xs.reverse)) c := rfl
theorem kRev_lst {xs : List D} : kRev K (.d (.lst xs)) c = K (.fl xs.reverse) c := rfl
theorem kRev_fl {xs : List D} : kRev K (.fl xs) c = K (.fl xs.reverse) c := rfl
def kIsi (t : Ty) (K : W → Cells → Res β) : W → Cells → Res β := fun w c => match view c w with
  | some x => K (.d (.bl (isD t x))) c
  | none => .no
theorem cE_isi {t : Ty} : cE F X (.isi t a) env c K = cE F X a env c (kIsi t K) := by
  simp only [cE, evE, rB_bind, kIsi]
  congr; funext r
  cases view r.2 r.1 <;> rfl
theorem kIsi_d {t : Ty} {x : D} : kIsi t K (.d x) c = K (.d (.bl (isD t x))) c := rfl
theorem kIsi_fl {t : Ty} {xs : List D} : kIsi t K (.fl xs) c = K (.d (.bl (isD t (.lst xs)))) c := rfl
theorem kNeg_int {i : Int} : kNeg K (.d (.int i)) c = K (.d (.int (-i))) c := rfl
/-- a truth, then the rest -/
def vTru (o : Option Bool) (c : Cells) (K : Bool → Cells → Res β) : Res β := oK o K c
def kNot (K : W → Cells → Res β) : W → Cells → Res β := fun w c => oK (truW c w) (fun k => K (.d (.bl (!k)))) c
theorem cE_unot : cE F X (.unot a) env c K = cE F X a env c (kNot K) := by
  simp only [cE, evE, rB_bind, kNot]
  congr; funext r
  cases truW r.2 r.1 <;> rfl
theorem kNot_bl {k : Bool} : kNot K (.d (.bl k)) c = K (.d (.bl (!k))) c := rfl
theorem kNot_eq {w : W} : kNot K w c = oK (truW c w) (fun k => K (.d (.bl (!k)))) c := rfl
def kAnd (F : Fns) (X : Xk β) (b : T) (env : En) (K : W → Cells → Res β) : W → Cells → Res β := fun w c => oK (truW c w) (fun k c => if k = true then cE F X b env c K else K w c) c
theorem cE_band : cE F X (.band a b) env c K = cE F X a env c (kAnd F X b env K) := by
  simp only [cE, evE, rB_bind, kAnd]
  congr; funext r
  cases truW r.2 r.1 with
  | none => rfl
  | some k => cases k <;> rfl
theorem kAnd_bl {k : Bool} : kAnd F X b env K (.d (.bl k)) c = if k = true then cE F X b env c K else K (.d (.bl false)) c := by cases k <;> rfl
def kOr (F : Fns) (X : Xk β) (b : T) (env : En) (K : W → Cells → Res β) : W → Cells → Res β := fun w c => oK (truW c w) (fun k c => if k = true then K w c else cE F X b env c K) c
theorem cE_bor : cE F X (.bor a b) env c K = cE F X a env c (kOr F X b env K) := by
  simp only [cE, evE, rB_bind, kOr]
  congr; funext r
  cases truW r.2 r.1 with
  | none => rfl
  | some k => cases k <;> rfl
theorem kOr_bl {k : Bool} : kOr F X b env K (.d (.bl k)) c = if k = true then K (.d (.bl true)) c else cE F X b env c K := by cases k <;> rfl
theorem kAnd_eq {w : W} : kAnd F X b env K w c = oK (truW c w) (fun k c => if k = true then cE F X b env c K else K w c) c := rfl
theorem kOr_eq {w : W} : kOr F X b env K w c = oK (truW c w) (fun k c => if k = true then K w c else cE F X b env c K) c := rfl
def vCmp (o : CmpOp) (x y : Option D) (c : Cells) (K : W → Cells → Res β) : Res β := match x, y with
  | some x, some y => oK (cmpD o x y) (fun k => K (.d (.bl k))) c
  | _, _ => .no
def kCmp2 (o : CmpOp) (x : W) (K : W → Cells → Res β) : W → Cells → Res β := fun y c => vCmp o (view c x) (view c y) c K
def kCmp1 (F : Fns) (X : Xk β) (o : CmpOp) (b : T) (env : En) (K : W → Cells → Res β) : W → Cells → Res β := fun w c => cE F X b env c (kCmp2 o w K)
theorem cE_cmp {o : CmpOp} : cE F X (.cmp o a b) env c K = cE F X a env c (kCmp1 F X o b env K) := by
  simp only [cE, evE, rB_bind, kCmp1, kCmp2]
  congr; funext r; congr; funext q
  cases view q.2 r.1 <;> cases view q.2 q.1 <;> first | rfl | skip
  simp only [vCmp]; cases cmpD o _ _ <;> rfl
theorem kCmp1_eq {o : CmpOp} {w : W} : kCmp1 F X o b env K w c = cE F X b env c (kCmp2 o w K) := rfl
theorem kCmp2_eq {o : CmpOp} {x y : W} : kCmp2 o x K y c = vCmp o (view c x) (view c y) c K := rfl
theorem vCmp_some {o : CmpOp} {x y : D} : vCmp o (some x) (some y) c K = oK (cmpD o x y) (fun k => K (.d (.bl k))) c := rfl
def kIte (F : Fns) (X : Xk β) (a b : T) (env : En) (K : W → Cells → Res β) : W → Cells → Res β := fun w c => oK (truW c w) (fun k c => if k = true then cE F X a env c K else cE F X b env c K) c
theorem cE_ife : cE F X (.ife t a b) env c K = cE F X t env c (kIte F X a b env K) := by
  simp only [cE, evE, rB_bind, kIte]
  congr; funext r
  cases truW r.2 r.1 with
  | none => rfl
  | some k => cases k <;> rfl
theorem kIte_bl {k : Bool} : kIte F X a b env K (.d (.bl k)) c = if k = true then cE F X a env c K else cE F X b env c K := by cases k <;> rfl
theorem kIte_eq {w : W} : kIte F X a b env K w c = oK (truW c w) (fun k c => if k = true then cE F X a env c K else cE F X b env c K) c := rfl
/-- a row -/
def kTup (K : W → Cells → Res β) : List W → Cells → Res β := fun ws c => oK (frzs ws) (fun xs c => oK (tupW xs) K c) c
theorem cE_tup : cE F X (.tup a) env c K = cL F X a env c (kTup K) := by
  simp only [cE, cL, evE, rB_bind, kTup]
  congr; funext r
  cases frzs r.1 with
  | none => rfl
  | some xs => simp only [ofO_some, Res.bind_ok, rB_ok, oK_some]; cases tupW xs <;> rfl
def kLst (K : W → Cells → Res β) : List W → Cells → Res β := fun ws c => oK (frzs ws) (fun xs c => oK (lstW xs) K c) c
theorem cE_lst : cE F X (.lst a) env c K = cL F X a env c (kLst K) := by
  simp only [cE, cL, evE, rB_bind, kLst]
  congr; funext r
  cases frzs r.1 with
  | none => rfl
  | some xs => simp only [ofO_some, Res.bind_ok, rB_ok, oK_some]; cases lstW xs <;> rfl
theorem kTup_eq {ws : List W} : kTup K ws c = oK (frzs ws) (fun xs c => oK (tupW xs) K c) c := rfl
theorem kLst_eq {ws : List W} : kLst K ws c = oK (frzs ws) (fun xs c => oK (lstW xs) K c) c := rfl
theorem tup_ok {xs : List D} (h : xs.length ≤ LINE) : tupW xs = some (.d (.tup xs)) := by simp [tupW, okLen, h]
theorem lst_ok {xs : List D} (h : xs.length ≤ LINE) : lstW xs = some (.fl xs) := by simp [lstW, okLen, h]
theorem kTup0 : kTup K [] c = K (.d (.tup [])) c := rfl
theorem kTup1 {x : D} : kTup K [.d x] c = K (.d (.tup [x])) c := rfl
theorem kTup2 {x y : D} : kTup K [.d x, .d y] c = K (.d (.tup [x, y])) c := rfl
theorem kTup3 {x y z : D} : kTup K [.d x, .d y, .d z] c = K (.d (.tup [x, y, z])) c := rfl
theorem kTup4 {x y z u : D} : kTup K [.d x, .d y, .d z, .d u] c = K (.d (.tup [x, y, z, u])) c := rfl
theorem kTup5 {x y z u v : D} : kTup K [.d x, .d y, .d z, .d u, .d v] c = K (.d (.tup [x, y, z, u, v])) c := rfl
theorem kLst0 : kLst K [] c = K (.fl []) c := rfl
theorem kLst1 {x : D} : kLst K [.d x] c = K (.fl [x]) c := rfl
theorem kLst2 {x y : D} : kLst K [.d x, .d y] c = K (.fl [x, y]) c := rfl
theorem kLst3 {x y z : D} : kLst K [.d x, .d y, .d z] c = K (.fl [x, y, z]) c := rfl
theorem kLst4 {x y z u : D} : kLst K [.d x, .d y, .d z, .d u] c = K (.fl [x, y, z, u]) c := rfl
theorem kLst5 {x y z u v : D} : kLst K [.d x, .d y, .d z, .d u, .d v] c = K (.fl [x, y, z, u, v]) c := rfl
/-- calls -/
def kRet (ws : List W) (c : Cells) (K : W → Cells → Res β) (r : Res (W × Cells)) : Res β := match r with
  | .ok (w, sub) => oK (backW (refsOf ws) w) K (putBack (refsOf ws) sub c)
  | _ => .no
def kCall (F : Fns) (X : Xk β) (f : Nat) (K : W → Cells → Res β) : List W → Cells → Res β := fun ws c => rB (F.call f ws c) X fun r => K r.1 r.2
theorem cE_call {f : Nat} : cE F X (.call f a) env c K = cL F X a env c (kCall F X f K) := by
  simp only [cE, cL, evE, rB_bind, kCall]
theorem kCall_eq {U : Pg} {n f : Nat} {ws : List W} (h : ws.all W.slotB = true) : kCall (fnsN U n) X f K ws c = kRet ws c K (callN U n f (ws.map (renW (refsOf ws))) ((refsOf ws).map fun n => c.getD n .gone)) := by
  simp only [kCall, fnsN, callIn]
  rw [if_pos h]
  cases callN U n f (ws.map (renW (refsOf ws))) ((refsOf ws).map fun n => c.getD n .gone) with
  | no => rfl
  | rs x y z => rfl
  | ok p =>
    simp only [kRet]
    cases backW (refsOf ws) p.1 <;> rfl
theorem kRet_ok {ws : List W} {w : W} {sub : Cells} : kRet ws c K (.ok (w, sub)) = oK (backW (refsOf ws) w) K (putBack (refsOf ws) sub c) := rfl
def vBi (b : Bi) (o : Option (List D)) (c : Cells) (K : W → Cells → Res β) : Res β := match o with
  | some xs => oK (biD b xs) K c
  | none => .no
def kBi (k : Bi) (K : W → Cells → Res β) : List W → Cells → Res β := fun ws c => vBi k (views c ws) c K
theorem cE_bi {k : Bi} : cE F X (.bi k a) env c K = cL F X a env c (kBi k K) := by
  simp only [cE, cL, evE, rB_bind, kBi]
  congr; funext r
  cases views r.2 r.1 with
  | none => rfl
  | some xs => simp only [ofO_some, Res.bind_ok, rB_ok, vBi]; cases biD k xs <;> rfl
theorem kBi_d1 {k : Bi} {x : D} : kBi k K [.d x] c = oK (biD k [x]) K c := rfl
theorem kBi_d2 {k : Bi} {x y : D} : kBi k K [.d x, .d y] c = oK (biD k [x, y]) K c := rfl
theorem kBi_eq {k : Bi} {ws : List W} : kBi k K ws c = vBi k (views c ws) c K := rfl
theorem vBi_some {k : Bi} {xs : List D} : vBi k (some xs) c K = oK (biD k xs) K c := rfl
/-- x[i] -/
def vIdx (kvs : Option (List (D × D))) (x k : Option D) (c : Cells) (K : W → Cells → Res β) : Res β := match kvs, k with
  | some kvs, some k => oK (dGet kvs k) (fun x => K (.d x)) c
  | none, some k => (match x with
    | some x => oK (idxD x k) (fun x => K (.d x)) c
    | none => .no)
  | _, _ => .no
def kIdx2 (x : W) (K : W → Cells → Res β) : W → Cells → Res β := fun y c => vIdx (viewD c x) (view c x) (view c y) c K
def kIdx1 (F : Fns) (X : Xk β) (b : T) (env : En) (K : W → Cells → Res β) : W → Cells → Res β := fun w c => cE F X b env c (kIdx2 w K)
theorem cE_idx : cE F X (.idx a b) env c K = cE F X a env c (kIdx1 F X b env K) := by
  simp only [cE, evE, rB_bind, kIdx1, kIdx2]
  congr; funext r; congr; funext q
  cases viewD q.2 r.1 <;> cases view q.2 q.1 <;> first | rfl | skip
  · cases view q.2 r.1 <;> first | rfl | skip
    rename_i k x
    simp only [vIdx]; cases idxD x k <;> rfl
  · rename_i kvs k
    simp only [vIdx]; cases dGet kvs k <;> rfl
theorem kIdx1_eq {w : W} : kIdx1 F X b env K w c = cE F X b env c (kIdx2 w K) := rfl
theorem kIdx2_eq {x y : W} : kIdx2 x K y c = vIdx (viewD c x) (view c x) (view c y) c K := rfl
theorem kIdx2_dd {x k : D} : kIdx2 (.d x) K (.d k) c = oK (idxD x k) (fun x => K (.d x)) c := rfl
theorem vIdx_dct {kvs : List (D × D)} {x : Option D} {k : D} : vIdx (some kvs) x (some k) c K = oK (dGet kvs k) (fun x => K (.d x)) c := rfl
theorem vIdx_seq {x k : D} : vIdx none (some x) (some k) c K = oK (idxD x k) (fun x => K (.d x)) c := rfl
/-- x[lo:hi] -/
def vSlc (x : Option D) (l h : Option Int) (c : Cells) (K : W → Cells → Res β) : Res β := match x with
  | some x => oK (slcD x l h) K c
  | none => .no
def kSlc3 (x : W) (l : Option Int) (K : W → Cells → Res β) : Option Int → Cells → Res β := fun h c => vSlc (viewS c x) l h c K
def kSlc2 (F : Fns) (X : Xk β) (x : W) (hi : T) (env : En) (K : W → Cells → Res β) : Option Int → Cells → Res β := fun l c => cO F X hi env c (kSlc3 x l K)
def kSlc1 (F : Fns) (X : Xk β) (lo hi : T) (env : En) (K : W → Cells → Res β) : W → Cells → Res β := fun w c => cO F X lo env c (kSlc2 F X w hi env K)
theorem cE_slc {lo hi : T} : cE F X (.slc a lo hi) env c K = cE F X a env c (kSlc1 F X lo hi env K) := by
  simp only [cE, cO, evE, rB_bind, kSlc1, kSlc2, kSlc3]
  congr; funext r; congr; funext l; congr; funext h
  cases viewS h.2 r.1 <;> first | rfl | skip
  rename_i x; simp only [vSlc]; cases slcD x l.1 h.1 <;> rfl
theorem kSlc1_eq {lo hi : T} {w : W} : kSlc1 F X lo hi env K w c = cO F X lo env c (kSlc2 F X w hi env K) := rfl
theorem kSlc2_eq {hi : T} {w : W} {l : Option Int} : kSlc2 F X w hi env K l c = cO F X hi env c (kSlc3 w l K) := rfl
theorem kSlc3_lst {xs : List D} {l h : Option Int} : kSlc3 (.d (.lst xs)) l K h c = K (.fl (cutL xs l h)) c := rfl
theorem kSlc3_fl {xs : List D} {l h : Option Int} : kSlc3 (.fl xs) l K h c = K (.fl (cutL xs l h)) c := rfl
theorem kSlc3_str {z : Str} {l h : Option Int} (hz : z.length ≤ 16777216) : kSlc3 (.d (.str z)) l K h c = K (.d (.str ⟨(cutL z.cps.toList l h).toArray⟩)) c := by
  show oK (if z.length ≤ LINE then some (W.d (.str ⟨(cutL z.cps.toList l h).toArray⟩)) else none) K c = _
  rw [if_pos hz]; rfl
theorem kSlc3_tup {xs : List D} {l h : Option Int} : kSlc3 (.d (.tup xs)) l K h c = K (.d (.tup (cutL xs l h))) c := rfl
theorem kSlc3_sq {xs : List D} {l h : Option Int} : kSlc3 (.sq xs) l K h c = K (.fl (cutL xs l h)) c := rfl
theorem kSlc3_eq {w : W} {l h : Option Int} : kSlc3 w l K h c = vSlc (viewS c w) l h c K := rfl
theorem vSlc_some {x : D} {l h : Option Int} : vSlc (some x) l h c K = oK (slcD x l h) K c := rfl
/-- methods -/
def kMe2 (m : Me) (w : W) (K : W → Cells → Res β) : List W → Cells → Res β := fun ws c => match meW c m w ws with
  | some p => K p.1 p.2
  | none => .no
def kMe1 (F : Fns) (X : Xk β) (m : Me) (as : T) (env : En) (K : W → Cells → Res β) : W → Cells → Res β := fun w c => if tyMe c w m = true then cL F X as env c (kMe2 m w K) else .no
theorem cE_meth {m : Me} : cE F X (.meth m a b) env c K = cE F X a env c (kMe1 F X m b env K) := by
  simp only [cE, cL, evE, rB_bind, kMe1, kMe2]
  congr; funext r
  cases tyMe r.2 r.1 m <;> first | rfl | skip
  simp only [↓reduceIte, rB_bind]
  congr; funext q
  cases meW q.2 m r.1 q.1 <;> rfl
theorem kMe1_eq {m : Me} {w : W} {as : T} : kMe1 F X m as env K w c = if tyMe c w m = true then cL F X as env c (kMe2 m w K) else .no := rfl
def oP (o : Option (W × Cells)) (K : W → Cells → Res β) : Res β := match o with
  | some p => K p.1 p.2
  | none => .no
theorem oP_some {w : W} : oP (some (w, c)) K = K w c := rfl
theorem kMe2_eq {m : Me} {w : W} {ws : List W} : kMe2 m w K ws c = oP (meW c m w ws) K := by
  simp only [kMe2, oP]
/-- displays of dicts -/
def kDct (K : W → Cells → Res β) : List (D × D) → Cells → Res β := fun kvs c => if kvs.length ≤ 15 then K (.fd (dMerge [] kvs)) c else .no
theorem cE_dct : cE F X (.dct a) env c K = cP F X a env c (kDct K) := by
  simp only [cE, cP, evE, rB_bind, kDct]
  congr; funext r
  by_cases h : r.1.length ≤ 15
  · simp only [if_pos h]; rfl
  · simp only [if_neg h]; rfl
theorem kDct_eq {kvs : List (D × D)} : kDct K kvs c = if kvs.length ≤ 15 then K (.fd (dMerge [] kvs)) c else .no := rfl
def kMkd (K : W → Cells → Res β) : List W → Cells → Res β := fun ws c => match ws with
  | [.d (.lst xs)] => oK (pairsOf xs) (fun kvs => K (.fd (dMerge [] kvs))) c
  | _ => .no
theorem cE_mkd : cE F X (.mkd a) env c K = cL F X a env c (kMkd K) := by
  simp only [cE, cL, evE, rB_bind, kMkd]
  congr; funext r
  obtain ⟨ws, c'⟩ := r
  dsimp only
  split
  · rename_i xs
    simp only [rB_bind]
    cases pairsOf xs <;> rfl
  · rename_i h
    first
      | rfl
      | (split
         · exact absurd rfl (h _)
         · rfl)
theorem kMkd_lst {xs : List D} : kMkd K [.d (.lst xs)] c = oK (pairsOf xs) (fun kvs => K (.fd (dMerge [] kvs))) c := rfl
def kLzip (K : W → Cells → Res β) : List W → Cells → Res β := fun ws c => oK (zipT ws) (fun xs => K (.fl xs)) c
theorem cE_lzip : cE F X (.lzip a) env c K = cL F X a env c (kLzip K) := by
  simp only [cE, cL, evE, rB_bind, kLzip]
  congr; funext r
  cases zipT r.1 <;> rfl
theorem kLzip_eq {ws : List W} : kLzip K ws c = oK (zipT ws) (fun xs => K (.fl xs)) c := rfl
end
/-! ### rows, bounds, entries, tests -/
section
variable {F : Fns} {X : Xk β} {env : En} {c : Cells} {a b t : T}
theorem cL_nil {K : List W → Cells → Res β} : cL F X .nil env c K = K [] c := rfl
def kRow (w : W) (K : List W → Cells → Res β) : List W → Cells → Res β := fun ws c => K (w :: ws) c
def kCons (F : Fns) (X : Xk β) (b : T) (env : En) (K : List W → Cells → Res β) : W → Cells → Res β := fun w c => oK (frzW w) (fun w c => cL F X b env c (kRow w K)) c
theorem cL_cons {K : List W → Cells → Res β} : cL F X (.cons a b) env c K = cE F X a env c (kCons F X b env K) := by
  simp only [cL, cE, evL, rB_bind, kCons, kRow]
  congr; funext r
  cases frzW r.1 with
  | none => rfl
  | some w => simp only [ofO_some, Res.bind_ok, rB_ok, oK_some, rB_bind]
theorem kRow_eq {w : W} {ws : List W} {K : List W → Cells → Res β} : kRow w K ws c = K (w :: ws) c := rfl
theorem kCons_d {x : D} {K : List W → Cells → Res β} : kCons F X b env K (.d x) c = cL F X b env c (kRow (.d x) K) := rfl
theorem kCons_ref {n : Nat} {K : List W → Cells → Res β} : kCons F X b env K (.ref n) c = cL F X b env c (kRow (.ref n) K) := rfl
theorem kCons_fl {xs : List D} {K : List W → Cells → Res β} : kCons F X b env K (.fl xs) c = cL F X b env c (kRow (.d (.lst xs)) K) := rfl
theorem kCons_sq {xs : List D} {K : List W → Cells → Res β} : kCons F X b env K (.sq xs) c = cL F X b env c (kRow (.sq xs) K) := rfl
theorem cO_nop {K : Option Int → Cells → Res β} : cO F X .nop env c K = K none c := rfl
def kSb (K : Option Int → Cells → Res β) : W → Cells → Res β := fun w c => match view c w with
  | some (.int i) => K (some i) c
  | _ => .no
theorem cO_sb {K : Option Int → Cells → Res β} : cO F X (.sb a) env c K = cE F X a env c (kSb K) := by
  simp only [cO, cE, evO, rB_bind, kSb]
  congr; funext r
  cases view r.2 r.1 with
  | none => rfl
  | some d => cases d <;> rfl
theorem kSb_int {i : Int} {K : Option Int → Cells → Res β} : kSb K (.d (.int i)) c = K (some i) c := rfl
theorem cP_nil {K : List (D × D) → Cells → Res β} : cP F X .nil env c K = K [] c := rfl
def kPr3 (kw xw : W) (K : List (D × D) → Cells → Res β) : List (D × D) → Cells → Res β := fun kvs c => match kw, xw with
    | .d a, .d x => (match keyD a with
      | some _ => K ((a, x) :: kvs) c
      | none => .no)
    | _, _ => .no
def kPr2 (F : Fns) (X : Xk β) (kw : W) (r : T) (env : En) (K : List (D × D) → Cells → Res β) : W → Cells → Res β := fun w c => oK (frzW w) (fun xw c => cP F X r env c (kPr3 kw xw K)) c
def kPr1 (F : Fns) (X : Xk β) (v r : T) (env : En) (K : List (D × D) → Cells → Res β) : W → Cells → Res β := fun w c => oK (frzW w) (fun kw c => cE F X v env c (kPr2 F X kw r env K)) c
theorem cP_cons {r : T} {K : List (D × D) → Cells → Res β} : cP F X (.cons a (.cons b r)) env c K = cE F X a env c (kPr1 F X b r env K) := by
  simp only [cP, cE, evP, rB_bind, kPr1, kPr2, kPr3]
  congr; funext r'
  cases frzW r'.1 with
  | none => rfl
  | some kw =>
    simp only [ofO_some, Res.bind_ok, rB_ok, oK_some, rB_bind]
    congr; funext q
    cases frzW q.1 with
    | none => rfl
    | some xw =>
      simp only [ofO_some, Res.bind_ok, rB_ok, oK_some, rB_bind]
      congr; funext p
      cases kw <;> cases xw <;> first | rfl | skip
      rename_i x y
      dsimp only
      cases keyD x <;> rfl
theorem kPr1_eq {v r : T} {w : W} {K : List (D × D) → Cells → Res β} : kPr1 F X v r env K w c = oK (frzW w) (fun kw c => cE F X v env c (kPr2 F X kw r env K)) c := rfl
theorem kPr1_d {v r : T} {x : D} {K : List (D × D) → Cells → Res β} : kPr1 F X v r env K (.d x) c = cE F X v env c (kPr2 F X (.d x) r env K) := rfl
theorem kPr2_d {kw : W} {r : T} {x : D} {K : List (D × D) → Cells → Res β} : kPr2 F X kw r env K (.d x) c = cP F X r env c (kPr3 kw (.d x) K) := rfl
theorem kPr2_fl {kw : W} {r : T} {xs : List D} {K : List (D × D) → Cells → Res β} : kPr2 F X kw r env K (.fl xs) c = cP F X r env c (kPr3 kw (.d (.lst xs)) K) := rfl
theorem kPr3_s {x : Str} {y : D} {kvs : List (D × D)} {K : List (D × D) → Cells → Res β} : kPr3 (.d (.str x)) (.d y) K kvs c = K ((.str x, y) :: kvs) c := rfl
theorem kPr3_i {x : Int} {y : D} {kvs : List (D × D)} {K : List (D × D) → Cells → Res β} : kPr3 (.d (.int x)) (.d y) K kvs c = K ((.int x, y) :: kvs) c := rfl
theorem cT_nil {K : Bool → Cells → Res β} : cT F X .nil env c K = K true c := rfl
def kTst (F : Fns) (X : Xk β) (b : T) (env : En) (K : Bool → Cells → Res β) : W → Cells → Res β := fun w c => oK (truW c w) (fun k c => if k = true then cT F X b env c K else K false c) c
theorem cT_cons {K : Bool → Cells → Res β} : cT F X (.cons a b) env c K = cE F X a env c (kTst F X b env K) := by
  simp only [cT, cE, evT, rB_bind, kTst]
  congr; funext r
  cases truW r.2 r.1 with
  | none => rfl
  | some k => cases k <;> rfl
theorem kTst_bl {k : Bool} {K : Bool → Cells → Res β} : kTst F X b env K (.d (.bl k)) c = if k = true then cT F X b env c K else K false c := by cases k <;> rfl
theorem kTst_eq {w : W} {K : Bool → Cells → Res β} : kTst F X b env K w c = oK (truW c w) (fun k c => if k = true then cT F X b env c K else K false c) c := rfl
/-! ### what is walked -/
def kRng (K : List D → Lk → Cells → Res β) : List W → Cells → Res β := fun ws c => oK (views c ws) (fun xs c => oK (rng1 xs) (fun items => K items none) c) c
theorem cI_rng {K : List D → Lk → Cells → Res β} : cI F X (.rng a) env c K = cL F X a env c (kRng K) := by
  simp only [cI, cL, evI, rB_bind, kRng]
  congr; funext r
  cases views r.2 r.1 with
  | none => rfl
  | some xs => simp only [ofO_some, Res.bind_ok, rB_ok, oK_some]; cases rng1 xs <;> rfl
theorem kRng_int {j : Int} {K : List D → Lk → Cells → Res β} (h : -4611686018427387904 ≤ j ∧ j < 4611686018427387904) : kRng K [.d (.int j)] c = K (rngL 0 j.toNat) none c := by
  have e : rng1 [.int j] = some (rngL 0 j.toNat) := by simp only [rng1]; rw [if_pos h]
  show oK (rng1 [.int j]) _ c = _
  rw [e]; rfl
def kRng2 (K : List D → Lk → Cells → Res β) : List W → Cells → Res β := fun ws c => oK (views c ws) (fun xs c => oK (rng2 xs) (fun items => K items none) c) c
theorem cI_rng2 {K : List D → Lk → Cells → Res β} : cI F X (.rng2 a) env c K = cL F X a env c (kRng2 K) := by
  simp only [cI, cL, evI, rB_bind, kRng2]
  congr; funext r
  cases views r.2 r.1 with
  | none => rfl
  | some xs => simp only [ofO_some, Res.bind_ok, rB_ok, oK_some]; cases rng2 xs <;> rfl
theorem kRng2_int {i j : Int} {K : List D → Lk → Cells → Res β} (h : -4611686018427387904 ≤ i ∧ i < 4611686018427387904 ∧ -4611686018427387904 ≤ j ∧ j < 4611686018427387904) : kRng2 K [.d (.int i), .d (.int j)] c = K (rngL i (j - i).toNat) none c := by
  have e : rng2 [.int i, .int j] = some (rngL i (j - i).toNat) := by simp only [rng2]; rw [if_pos h]
  show oK (rng2 [.int i, .int j]) _ c = _
  rw [e]; rfl
def kZip (K : List D → Lk → Cells → Res β) : List W → Cells → Res β := fun ws c => oK (zipW ws) (fun xs => K xs none) c
theorem cI_zip {K : List D → Lk → Cells → Res β} : cI F X (.zip a) env c K = cL F X a env c (kZip K) := by
  simp only [cI, cL, evI, rB_bind, kZip]
  congr; funext r
  cases zipW r.1 <;> rfl
theorem kZip_tt {xs ys : List D} {K : List D → Lk → Cells → Res β} : kZip K [.d (.tup xs), .d (.tup ys)] c = K (zipD xs ys) none c := rfl
theorem kZip_ll {xs ys : List D} {K : List D → Lk → Cells → Res β} : kZip K [.d (.lst xs), .d (.lst ys)] c = K (zipD xs ys) none c := rfl
def oW (o : Option (List D × Lk × Cells)) (K : List D → Lk → Cells → Res β) : Res β := match o with
  | some p => K p.1 p.2.1 p.2.2
  | none => .no
theorem oW_some {xs : List D} {l : Lk} {K : List D → Lk → Cells → Res β} : oW (some (xs, l, c)) K = K xs l c := rfl
def kIt (K : List D → Lk → Cells → Res β) : W → Cells → Res β := fun w c => oW (walked c w) K
theorem cI_it {K : List D → Lk → Cells → Res β} : cI F X (.it a) env c K = cE F X a env c (kIt K) := by
  simp only [cI, cE, evI, rB_bind, kIt]
  congr; funext r
  cases walked r.2 r.1 <;> rfl
theorem kIt_lst {xs : List D} {K : List D → Lk → Cells → Res β} : kIt K (.d (.lst xs)) c = K xs none c := rfl
theorem kIt_tup {xs : List D} {K : List D → Lk → Cells → Res β} : kIt K (.d (.tup xs)) c = K xs none c := rfl
theorem kIt_fl {xs : List D} {K : List D → Lk → Cells → Res β} : kIt K (.fl xs) c = K xs none c := rfl
theorem kIt_str {x : Str} {K : List D → Lk → Cells → Res β} : kIt K (.d (.str x)) c = K (x.cps.toList.map (fun z => .str ⟨#[z]⟩)) none c := rfl
def vWk (o : Option Cell) (n : Nat) (c : Cells) (K : List D → Lk → Cells → Res β) : Res β := match o with
    | some (.lst xs) => K xs (some (n, true)) (c.set n (.lk xs))
    | some (.lk xs) => K xs (some (n, false)) c
    | _ => .no
theorem kIt_ref {n : Nat} {K : List D → Lk → Cells → Res β} : kIt K (.ref n) c = vWk c[n]? n c K := by
  simp only [kIt, walked, vWk]
  cases c[n]? with
  | none => rfl
  | some x => cases x <;> rfl
theorem vWk_lst {n : Nat} {xs : List D} {K : List D → Lk → Cells → Res β} : vWk (some (.lst xs)) n c K = K xs (some (n, true)) (c.set n (.lk xs)) := rfl
theorem vWk_lk {n : Nat} {xs : List D} {K : List D → Lk → Cells → Res β} : vWk (some (.lk xs)) n c K = K xs (some (n, false)) c := rfl
/-- the lock's check -/
def ckd (l : Lk) (xs : List D) (c : Cells) (r : Res β) : Res β := if okLk l xs c = true then r else .no
theorem ckd_none {xs : List D} {r : Res β} : ckd none xs c r = r := rfl
theorem ckd_some {n : Nat} {k : Bool} {xs : List D} {r : Res β} (h : c[n]? = some (.lk xs)) : ckd (some (n, k)) xs c r = r := by
  simp [ckd, okLk, h, D.sames_rfl]
def unl (l : Lk) (xs : List D) (c : Cells) (K : Cells → Res β) : Res β := oC (unlock l xs c) K
theorem unl_none {xs : List D} {K : Cells → Res β} : unl none xs c K = K c := rfl
theorem unl_t {n : Nat} {xs : List D} {K : Cells → Res β} (h : c[n]? = some (.lk xs)) : unl (some (n, true)) xs c K = K (c.set n (.lst xs)) := by
  simp [unl, unlock, okLk, h, D.sames_rfl, oC]
theorem unl_f {n : Nat} {xs : List D} {K : Cells → Res β} (h : c[n]? = some (.lk xs)) : unl (some (n, false)) xs c K = K c := by
  simp [unl, unlock, okLk, h, D.sames_rfl, oC]
/-! ### patterns, slots -/
def cN (i : Nat) (w : W) (env : En) (c : Cells) (K : En → Cells → Res β) : Res β := match setW env i w with
  | some e => K e c
  | none => .no
def kEn (x : Option W) (K : En → Cells → Res β) : En → Cells → Res β := fun env c => K (x :: env) c
theorem cN_0 {w : W} {x : Option W} {r : En} {K : En → Cells → Res β} : cN 0 w (x :: r) c K = K (some w :: r) c := rfl
theorem cN_S {i : Nat} {w : W} {x : Option W} {r : En} {K : En → Cells → Res β} : cN (i + 1) w (x :: r) c K = cN i w r c (kEn x K) := by
  simp only [cN, setW, List.length_cons, Nat.add_lt_add_iff_right, List.set_cons_succ, kEn]
  by_cases h : i < r.length
  · simp only [if_pos h]
  · simp only [if_neg h]
theorem kEn_eq {x : Option W} {K : En → Cells → Res β} : kEn x K env c = K (x :: env) c := rfl
def cB (p : Pt) (x : D) (env : En) (c : Cells) (K : En → Cells → Res β) : Res β := oK (bindP p x env) K c
def cBs (p : Pt) (xs : List D) (env : En) (c : Cells) (K : En → Cells → Res β) : Res β := oK (bindPs p xs env) K c
theorem cB_nm {i : Nat} {x : D} {K : En → Cells → Res β} : cB (.nm i) x env c K = cN i (.d x) env c K := by
  simp only [cB, bindP, cN, setW]
  by_cases h : i < env.length
  · simp only [if_pos h]; rfl
  · simp only [if_neg h]; rfl
theorem cB_tup {p : Pt} {xs : List D} {K : En → Cells → Res β} : cB (.tup p) (.tup xs) env c K = cBs p xs env c K := rfl
theorem cBs_nil {K : En → Cells → Res β} : cBs .nil [] env c K = K env c := rfl
def kBs (q : Pt) (xs : List D) (K : En → Cells → Res β) : En → Cells → Res β := fun env c => cBs q xs env c K
theorem cBs_cons {p q : Pt} {x : D} {xs : List D} {K : En → Cells → Res β} : cBs (.cons p q) (x :: xs) env c K = cB p x env c (kBs q xs K) := by
  simp only [cBs, cB, bindPs, kBs]
  cases bindP p x env <;> rfl
theorem kBs_eq {q : Pt} {xs : List D} {K : En → Cells → Res β} : kBs q xs K env c = cBs q xs env c K := rfl
/-! ### comprehensions -/
/-- the turns that are left, behind those done -/
def cLc (F : Fns) (env : En) (e : T) (p : Pt) (ifs : T) (l : Lk) (its xs : List D) (c : Cells) (acc : List D) (K : W → Cells → Res β) : Res β :=
  rB (lcTurns (okLk l its) (fun x c => ofO (bindP p x env) >>= fun env' => evT F ifs env' c >>= fun k =>
      if k.1 = true then evE F e env' k.2 >>= fun w => ofO (frz w.1) >>= fun y => .ok (some y, w.2) else .ok (none, k.2)) xs c acc) xNo fun q => unl l its q.2 (K (.fl q.1))
def kLc (F : Fns) (own : List Nat) (e : T) (p : Pt) (ifs : T) (env : En) (K : W → Cells → Res β) : List D → Lk → Cells → Res β := fun xs l c => cLc F (clearO own env) e p ifs l xs xs c [] K
theorem lcTurns_rs {ck : Cells → Bool} {f : D → Cells → Res (Option D × Cells)} : ∀ {xs : List D} {c : Cells} {acc : List D} {x : Str} {y : List D} {z : Cells}, lcTurns ck f xs c acc ≠ .rs x y z
  | [], c, acc, x, y, z => by
    unfold lcTurns
    split <;> nofun
  | a :: xs, c, acc, x, y, z => by
    unfold lcTurns
    split
    · split
      · exact lcTurns_rs
      · split
        · exact lcTurns_rs
        · nofun
      · nofun
    · nofun
theorem cE_lc {own : List Nat} {e it ifs : T} {p : Pt} {K : W → Cells → Res β} : cE F X (.lc own e p it ifs) env c K = cI F X it env c (kLc F own e p ifs env K) := by
  simp only [cE, cI, evE, rB_bind, kLc, cLc]
  congr; funext r
  have hn : ∀ x y z, lcTurns (okLk r.2.1 r.1) (fun x c => ofO (bindP p x (clearO own env)) >>= fun env' => evT F ifs env' c >>= fun k =>
      if k.1 = true then evE F e env' k.2 >>= fun w => ofO (frz w.1) >>= fun y => .ok (some y, w.2) else .ok (none, k.2)) r.1 r.2.2 [] ≠ .rs x y z := fun x y z => lcTurns_rs
  revert hn
  generalize lcTurns (okLk r.2.1 r.1) (fun x c => ofO (bindP p x (clearO own env)) >>= fun env' => evT F ifs env' c >>= fun k =>
      if k.1 = true then evE F e env' k.2 >>= fun w => ofO (frz w.1) >>= fun y => .ok (some y, w.2) else .ok (none, k.2)) r.1 r.2.2 [] = q
  intro hn
  cases q with
  | no => rfl
  | rs x y z => exact absurd rfl (hn x y z)
  | ok q =>
    simp only [rB_ok, unl]
    cases unlock r.2.1 r.1 q.2 <;> rfl
theorem kLc_eq {own : List Nat} {e ifs : T} {p : Pt} {xs : List D} {l : Lk} {K : W → Cells → Res β} : kLc F own e p ifs env K xs l c = cLc F (clearO own env) e p ifs l xs xs c [] K := rfl
theorem cLc_nil {e ifs : T} {p : Pt} {l : Lk} {its acc : List D} {K : W → Cells → Res β} : cLc F env e p ifs l its [] c acc K = ckd l its c (unl l its c (K (.fl acc))) := by
  simp only [cLc, lcTurns, ckd]
  by_cases h : okLk l its c = true
  · simp only [if_pos h]; rfl
  · simp only [if_neg h]; rfl
def kLc3 (F : Fns) (env0 : En) (e : T) (p : Pt) (ifs : T) (l : Lk) (its xs acc : List D) (K : W → Cells → Res β) : W → Cells → Res β := fun w c => oK (frz w) (fun y c => if acc.length < LINE then cLc F env0 e p ifs l its xs c (acc ++ [y]) K else .no) c
def kLc2 (F : Fns) (env0 env : En) (e : T) (p : Pt) (ifs : T) (l : Lk) (its xs acc : List D) (K : W → Cells → Res β) : Bool → Cells → Res β := fun k c => if k = true then cE F xNo e env c (kLc3 F env0 e p ifs l its xs acc K) else cLc F env0 e p ifs l its xs c acc K
def kLc1 (F : Fns) (env0 : En) (e : T) (p : Pt) (ifs : T) (l : Lk) (its xs acc : List D) (K : W → Cells → Res β) : En → Cells → Res β := fun env c => cT F xNo ifs env c (kLc2 F env0 env e p ifs l its xs acc K)
theorem cLc_cons {e ifs : T} {p : Pt} {l : Lk} {x : D} {its xs acc : List D} {K : W → Cells → Res β} : cLc F env e p ifs l its (x :: xs) c acc K = ckd l its c (cB p x env c (kLc1 F env e p ifs l its xs acc K)) := by
  simp only [cLc, lcTurns, ckd, cB]
  by_cases h : okLk l its c = true
  · simp only [if_pos h]
    cases bindP p x env with
    | none => rfl
    | some env' =>
      simp only [ofO_some, Res.bind_ok, oK_some, kLc1, cT]
      cases evT F ifs env' c with
      | no => rfl
      | rs _ _ _ => rfl
      | ok k =>
        simp only [Res.bind_ok, rB_ok, kLc2, cE]
        by_cases hk : k.1 = true
        · simp only [if_pos hk]
          cases evE F e env' k.2 with
          | no => rfl
          | rs _ _ _ => rfl
          | ok w =>
            simp only [Res.bind_ok, rB_ok, kLc3]
            cases frz w.1 with
            | none => rfl
            | some y =>
              simp only [ofO_some, Res.bind_ok, oK_some, cLc]
              by_cases ha : acc.length < LINE
              · simp only [if_pos ha]
              · simp only [if_neg ha]; rfl
        · simp only [if_neg hk, cLc]
  · simp only [if_neg h]; rfl
theorem kLc1_eq {env0 : En} {e ifs : T} {p : Pt} {l : Lk} {its xs acc : List D} {K : W → Cells → Res β} : kLc1 F env0 e p ifs l its xs acc K env c = cT F xNo ifs env c (kLc2 F env0 env e p ifs l its xs acc K) := rfl
theorem kLc2_t {env0 : En} {e ifs : T} {p : Pt} {l : Lk} {its xs acc : List D} {K : W → Cells → Res β} : kLc2 F env0 env e p ifs l its xs acc K true c = cE F xNo e env c (kLc3 F env0 e p ifs l its xs acc K) := rfl
theorem kLc2_f {env0 : En} {e ifs : T} {p : Pt} {l : Lk} {its xs acc : List D} {K : W → Cells → Res β} : kLc2 F env0 env e p ifs l its xs acc K false c = cLc F env0 e p ifs l its xs c acc K := rfl
theorem kLc2_eq {k : Bool} {env0 : En} {e ifs : T} {p : Pt} {l : Lk} {its xs acc : List D} {K : W → Cells → Res β} : kLc2 F env0 env e p ifs l its xs acc K k c = if k = true then cE F xNo e env c (kLc3 F env0 e p ifs l its xs acc K) else cLc F env0 e p ifs l its xs c acc K := rfl
theorem kLc3_d {env0 : En} {e ifs : T} {p : Pt} {l : Lk} {y : D} {its xs acc : List D} {K : W → Cells → Res β} (h : acc.length < LINE) : kLc3 F env0 e p ifs l its xs acc K (.d y) c = cLc F env0 e p ifs l its xs c (acc ++ [y]) K := by
  simp only [kLc3, frz, oK_some, if_pos h]
theorem kLc3_fl {env0 : En} {e ifs : T} {p : Pt} {l : Lk} {y : List D} {its xs acc : List D} {K : W → Cells → Res β} (h : acc.length < LINE) : kLc3 F env0 e p ifs l its xs acc K (.fl y) c = cLc F env0 e p ifs l its xs c (acc ++ [.lst y]) K := by
  simp only [kLc3, frz, oK_some, if_pos h]
/-- one turn alone -/
def kLt3 (K : Option D → Cells → Res β) : W → Cells → Res β := fun w c => oK (frz w) (fun y => K (some y)) c
def kLt2 (F : Fns) (env : En) (e : T) (K : Option D → Cells → Res β) : Bool → Cells → Res β := fun k c => if k = true then cE F xNo e env c (kLt3 K) else K none c
def kLt1 (F : Fns) (e ifs : T) (K : Option D → Cells → Res β) : En → Cells → Res β := fun env c => cT F xNo ifs env c (kLt2 F env e K)
theorem kLt1_eq {e ifs : T} {K : Option D → Cells → Res β} : kLt1 F e ifs K env c = cT F xNo ifs env c (kLt2 F env e K) := rfl
theorem kLt2_eq {e : T} {k : Bool} {K : Option D → Cells → Res β} : kLt2 F env e K k c = if k = true then cE F xNo e env c (kLt3 K) else K none c := rfl
theorem kLt3_d {x : D} {K : Option D → Cells → Res β} : kLt3 K (.d x) c = K (some x) c := rfl
theorem kLt3_fl {x : List D} {K : Option D → Cells → Res β} : kLt3 K (.fl x) c = K (some (.lst x)) c := rfl
theorem kLc_turn {e ifs : T} {p : Pt} {l : Lk} {x : D} {its xs acc : List D} {K : W → Cells → Res β} : cB p x env c (kLt1 F e ifs (fun o c => match o with
      | some y => if acc.length < LINE then cLc F env e p ifs l its xs c (acc ++ [y]) K else .no
      | none => cLc F env e p ifs l its xs c acc K)) = cB p x env c (kLc1 F env e p ifs l its xs acc K) := by
  simp only [cB]
  cases bindP p x env with
  | none => rfl
  | some env' =>
    simp only [oK_some, kLc1, kLt1, cT]
    cases evT F ifs env' c with
    | no => rfl
    | rs _ _ _ => rfl
    | ok k =>
      simp only [rB_ok, kLc2, kLt2]
      by_cases hk : k.1 = true
      · simp only [if_pos hk, cE]
        cases evE F e env' k.2 with
        | no => rfl
        | rs _ _ _ => rfl
        | ok w =>
          simp only [rB_ok, kLc3, kLt3]
      · simp only [if_neg hk]
/-- a comprehension whose turns change nothing: g tells an item's element, or none -/
theorem cLc_pure {e ifs : T} {p : Pt} {l : Lk} {its : List D} {K : W → Cells → Res β} (g : D → Option D) (hl : ∀ r : Res β, ckd l its c r = r) : ∀ {xs acc : List D}, acc.length + xs.length ≤ LINE →
    (∀ x ∈ xs, ∀ K : Option D → Cells → Res β, cB p x env c (kLt1 F e ifs K) = K (g x) c) →
    cLc F env e p ifs l its xs c acc K = unl l its c (K (.fl (acc ++ xs.filterMap g)))
  | [], acc, _, _ => by rw [cLc_nil, hl]; simp
  | x :: xs, acc, hn, h => by
    have hx := h x List.mem_cons_self
    rw [cLc_cons, hl]
    have ih := fun acc hn => cLc_pure (K := K) g hl (xs := xs) (acc := acc) hn fun y hy => h y (List.mem_cons_of_mem _ hy)
    have hx := hx (fun o c => match o with
      | some y => if acc.length < LINE then cLc F env e p ifs l its xs c (acc ++ [y]) K else .no
      | none => cLc F env e p ifs l its xs c acc K)
    refine Eq.trans (Eq.trans kLc_turn.symm hx) ?_
    simp only [List.length_cons] at hn
    cases hg : g x with
    | none =>
      dsimp only
      rw [ih acc (by omega), List.filterMap_cons_none hg]
    | some y =>
      dsimp only
      rw [if_pos (by omega), ih (acc ++ [y]) (by simp; omega), List.filterMap_cons_some hg]
      simp
end
/-! ### stores, statements -/
section
variable {F : Fns} {X : Xk β} {env : En} {c : Cells} {w : W}
/-- a value into a slot; a fresh container becomes a cell -/
theorem cG_d {i : Nat} {x : D} {K : En → Cells → Res β} : cG F X (.nm i) (.d x) env c K = cN i (.d x) env c K := by
  simp only [cG, storeG, readyG, frzW, ofO_some, Res.bind_ok, rB_ok, putW, cN]
  cases setW env i (.d x) <;> rfl
theorem cG_ref {i n : Nat} {K : En → Cells → Res β} : cG F X (.nm i) (.ref n) env c K = cN i (.ref n) env c K := by
  simp only [cG, storeG, readyG, frzW, ofO_some, Res.bind_ok, rB_ok, putW, cN]
  cases setW env i (.ref n) <;> rfl
theorem cG_sq {i : Nat} {xs : List D} {K : En → Cells → Res β} : cG F X (.nm i) (.sq xs) env c K = cN i (.sq xs) env c K := by
  simp only [cG, storeG, readyG, frzW, ofO_some, Res.bind_ok, rB_ok, putW, cN]
  cases setW env i (.sq xs) <;> rfl
theorem cG_fl {i : Nat} {xs : List D} {K : En → Cells → Res β} : cG F X (.nm i) (.fl xs) env c K = cN i (.d (.lst xs)) env c K := by
  simp only [cG, storeG, readyG, frzW, ofO_some, Res.bind_ok, rB_ok, putW, cN]
  cases setW env i (.d (.lst xs)) <;> rfl
theorem cG_fd {i : Nat} {kvs : List (D × D)} {K : En → Cells → Res β} : cG F X (.nm i) (.fd kvs) env c K = cN i (.ref c.length) env (c ++ [.dct kvs]) K := by
  simp only [cG, storeG, readyG, frzW, ofO_some, Res.bind_ok, rB_ok, putW, cN]
  cases setW env i (.ref c.length) <;> rfl
theorem cA_d {i : Nat} {x : D} {K : En → Cells → Res β} : cG F X (.al i) (.d x) env c K = cN i (.d x) env c K := by
  simp only [cG, storeG, readyG, frzW, ofO_some, Res.bind_ok, rB_ok, putW, cN]
  cases setW env i (.d x) <;> rfl
theorem cA_ref {i n : Nat} {K : En → Cells → Res β} : cG F X (.al i) (.ref n) env c K = cN i (.ref n) env c K := by
  simp only [cG, storeG, readyG, frzW, ofO_some, Res.bind_ok, rB_ok, putW, cN]
  cases setW env i (.ref n) <;> rfl
theorem cA_fl {i : Nat} {xs : List D} {K : En → Cells → Res β} : cG F X (.al i) (.fl xs) env c K = cN i (.ref c.length) env (c ++ [.lst xs]) K := by
  simp only [cG, storeG, readyG, frzW, ofO_some, Res.bind_ok, rB_ok, putW, cN]
  cases setW env i (.ref c.length) <;> rfl
theorem cA_fd {i : Nat} {kvs : List (D × D)} {K : En → Cells → Res β} : cG F X (.al i) (.fd kvs) env c K = cN i (.ref c.length) env (c ++ [.dct kvs]) K := by
  simp only [cG, storeG, readyG, frzW, ofO_some, Res.bind_ok, rB_ok, putW, cN]
  cases setW env i (.ref c.length) <;> rfl
def vPt (p : Pt) (o : Option D) (env : En) (c : Cells) (K : En → Cells → Res β) : Res β := match o with
  | some x => cB p x env c K
  | none => .no
theorem cG_pt {p : Pt} {K : En → Cells → Res β} : cG F X (.pt p) w env c K = vPt p (view c w) env c K := by
  simp only [cG, storeG, vPt, cB]
  cases view c w with
  | none => rfl
  | some x => simp only [ofO_some, Res.bind_ok, rB_ok, rB_ok]; cases bindP p x env <;> rfl
theorem vPt_some {p : Pt} {x : D} {K : En → Cells → Res β} : vPt p (some x) env c K = cB p x env c K := rfl
def vUn (p : Pt) (o : Option D) (env : En) (c : Cells) (K : En → Cells → Res β) : Res β := match o with
  | some (.lst xs) => cBs p xs env c K
  | _ => .no
theorem cG_unl {p : Pt} {K : En → Cells → Res β} : cG F X (.unl p) w env c K = vUn p (view c w) env c K := by
  simp only [cG, storeG, vUn, cBs]
  cases view c w with
  | none => rfl
  | some x =>
    cases x <;> first | rfl | skip
    dsimp only
    cases bindPs p _ env <;> rfl
theorem vUn_some {p : Pt} {xs : List D} {K : En → Cells → Res β} : vUn p (some (.lst xs)) env c K = cBs p xs env c K := rfl
def vSt (p : Pt) (n i : Nat) (o : Option (List D)) (env : En) (c : Cells) (K : En → Cells → Res β) : Res β := match o with
  | some xs => if n ≤ xs.length + 1 ∧ i < n ∧ xs.length ≤ 16384 then cBs p (xs.take i ++ [.lst ((xs.drop i).take (xs.length + 1 - n))] ++ (xs.drop i).drop (xs.length + 1 - n)) env c K else .no
  | none => .no
theorem cG_star {p : Pt} {n i : Nat} {K : En → Cells → Res β} : cG F X (.star p n i) w env c K = vSt p n i (starXs c w) env c K := by
  simp only [cG, storeG, vSt, cBs]
  cases starXs c w with
  | none => rfl
  | some xs =>
    dsimp only
    by_cases h : n ≤ xs.length + 1 ∧ i < n ∧ xs.length ≤ 16384
    · rw [if_pos h, if_pos h]
      cases bindPs p _ env <;> rfl
    · rw [if_neg h, if_neg h]; rfl
theorem vSt_some {p : Pt} {n i : Nat} {xs : List D} {K : En → Cells → Res β} (h : n ≤ xs.length + 1 ∧ i < n ∧ xs.length ≤ 16384) : vSt p n i (some xs) env c K = cBs p (xs.take i ++ [.lst ((xs.drop i).take (xs.length + 1 - n))] ++ (xs.drop i).drop (xs.length + 1 - n)) env c K := by
  simp only [vSt]; rw [if_pos h]
def kIx2 (x : D) (o : W) (env : En) (K : En → Cells → Res β) : W → Cells → Res β := fun q c => oK (view c q) (fun k c => oC (putIx c o k x) (K env)) c
def kIx1 (F : Fns) (X : Xk β) (x : D) (i : T) (env : En) (K : En → Cells → Res β) : W → Cells → Res β := fun o c => cE F X i env c (kIx2 x o env K)
theorem cG_ix {o i : T} {x : D} {K : En → Cells → Res β} : cG F X (.ix o i) (.d x) env c K = cE F X o env c (kIx1 F X x i env K) := by
  simp only [cG, storeG, frz, ofO_some, Res.bind_ok, rB_ok, cE, rB_bind, kIx1, kIx2]
  congr; funext r; congr; funext q
  cases view q.2 q.1 with
  | none => rfl
  | some k => simp only [ofO_some, Res.bind_ok, rB_ok, oK_some]; cases putIx q.2 r.1 k x <;> rfl
theorem cG_ixl {o i : T} {x : List D} {K : En → Cells → Res β} : cG F X (.ix o i) (.fl x) env c K = cE F X o env c (kIx1 F X (.lst x) i env K) := by
  simp only [cG, storeG, frz, ofO_some, Res.bind_ok, rB_ok, cE, rB_bind, kIx1, kIx2]
  congr; funext r; congr; funext q
  cases view q.2 q.1 with
  | none => rfl
  | some k => simp only [ofO_some, Res.bind_ok, rB_ok, oK_some]; cases putIx q.2 r.1 k (.lst x) <;> rfl
theorem kIx1_eq {x : D} {o : W} {i : T} {K : En → Cells → Res β} : kIx1 F X x i env K o c = cE F X i env c (kIx2 x o env K) := rfl
theorem kIx2_d {x k : D} {o : W} {K : En → Cells → Res β} : kIx2 x o env K (.d k) c = oC (putIx c o k x) (K env) := rfl
variable {K : Fl → En → Cells → Res β} {e t : T} {a b : S} {g : G}
def kNx (K : Fl → En → Cells → Res β) : En → Cells → Res β := fun env c => K .nx env c
theorem kNx_eq : kNx K env c = K .nx env c := rfl
def kAsg (F : Fns) (X : Xk β) (g : G) (env : En) (K : Fl → En → Cells → Res β) : W → Cells → Res β := fun w c => cG F X g w env c (kNx K)
theorem cS_asg : cS F X (.asg g e) env c K = cE F X e env c (kAsg F X g env K) := by
  simp only [cS, cE, cG, exS, rB_bind, kAsg, kNx]; rfl
theorem kAsg_eq : kAsg F X g env K w c = cG F X g w env c (kNx K) := rfl
def cW (gs : List G) (ws : List W) (env : En) (c : Cells) (K : En → Cells → Res β) : Res β := match putWs gs ws env c with
  | some r => K r.1 r.2
  | none => .no
def kPar (gs : List G) (env : En) (K : Fl → En → Cells → Res β) : List W → Cells → Res β := fun ws c => cW gs ws env c (kNx K)
theorem cS_par {gs : List G} {ts : List T} : cS F X (.par gs ts) env c K = cR F X gs ts env c (kPar gs env K) := by
  simp only [cS, cR, exS, rB_bind, kPar, cW, kNx]
  congr; funext r
  cases putWs gs r.1 env r.2 <;> rfl
theorem kPar_eq {gs : List G} {ws : List W} : kPar gs env K ws c = cW gs ws env c (kNx K) := rfl
theorem cR_nil {K : List W → Cells → Res β} : cR F X [] [] env c K = K [] c := rfl
def kRw (F : Fns) (X : Xk β) (g : G) (gs : List G) (ts : List T) (env : En) (K : List W → Cells → Res β) : W → Cells → Res β := fun w c => oK (readyG g w) (fun w c => cR F X gs ts env c (kRow w K)) c
theorem cR_cons {gs : List G} {ts : List T} {K : List W → Cells → Res β} : cR F X (g :: gs) (t :: ts) env c K = cE F X t env c (kRw F X g gs ts env K) := by
  simp only [cR, cE, evR, rB_bind, kRw, kRow]
  congr; funext r
  cases readyG g r.1 with
  | none => rfl
  | some w => simp only [ofO_some, Res.bind_ok, rB_ok, oK_some, rB_bind]
theorem kRw_eq {gs : List G} {ts : List T} {K : List W → Cells → Res β} : kRw F X g gs ts env K w c = oK (readyG g w) (fun w c => cR F X gs ts env c (kRow w K)) c := rfl
theorem kRw_nd {i : Nat} {x : D} {gs : List G} {ts : List T} {K : List W → Cells → Res β} : kRw F X (.nm i) gs ts env K (.d x) c = cR F X gs ts env c (kRow (.d x) K) := rfl
theorem kRw_nf {i : Nat} {x : List D} {gs : List G} {ts : List T} {K : List W → Cells → Res β} : kRw F X (.nm i) gs ts env K (.fl x) c = cR F X gs ts env c (kRow (.d (.lst x)) K) := rfl
theorem kRw_nr {i n : Nat} {gs : List G} {ts : List T} {K : List W → Cells → Res β} : kRw F X (.nm i) gs ts env K (.ref n) c = cR F X gs ts env c (kRow (.ref n) K) := rfl
theorem kRw_ad {i : Nat} {x : D} {gs : List G} {ts : List T} {K : List W → Cells → Res β} : kRw F X (.al i) gs ts env K (.d x) c = cR F X gs ts env c (kRow (.d x) K) := rfl
theorem kRw_af {i : Nat} {x : List D} {gs : List G} {ts : List T} {K : List W → Cells → Res β} : kRw F X (.al i) gs ts env K (.fl x) c = cR F X gs ts env c (kRow (.fl x) K) := rfl
theorem kRw_ar {i n : Nat} {gs : List G} {ts : List T} {K : List W → Cells → Res β} : kRw F X (.al i) gs ts env K (.ref n) c = cR F X gs ts env c (kRow (.ref n) K) := rfl
theorem cW_nil {K : En → Cells → Res β} : cW [] [] env c K = K env c := rfl
def kWs (gs : List G) (ws : List W) (K : En → Cells → Res β) : En → Cells → Res β := fun env c => cW gs ws env c K
theorem cW_cons {gs : List G} {ws : List W} {K : En → Cells → Res β} : cW (g :: gs) (w :: ws) env c K = match putW (slotG g) w env c with
    | some r => cW gs ws r.1 r.2 K
    | none => .no := by
  simp only [cW, putWs]
  cases putW (slotG g) w env c <;> rfl
theorem cW_nd {i : Nat} {x : D} {gs : List G} {ws : List W} {K : En → Cells → Res β} : cW (.nm i :: gs) (.d x :: ws) env c K = cN i (.d x) env c (kWs gs ws K) := by
  rw [cW_cons]; simp only [slotG, putW, cN, kWs]; cases setW env i (.d x) <;> rfl
theorem cW_nr {i n : Nat} {gs : List G} {ws : List W} {K : En → Cells → Res β} : cW (.nm i :: gs) (.ref n :: ws) env c K = cN i (.ref n) env c (kWs gs ws K) := by
  rw [cW_cons]; simp only [slotG, putW, cN, kWs]; cases setW env i (.ref n) <;> rfl
theorem cW_ad {i : Nat} {x : D} {gs : List G} {ws : List W} {K : En → Cells → Res β} : cW (.al i :: gs) (.d x :: ws) env c K = cN i (.d x) env c (kWs gs ws K) := by
  rw [cW_cons]; simp only [slotG, putW, cN, kWs]; cases setW env i (.d x) <;> rfl
theorem cW_ar {i n : Nat} {gs : List G} {ws : List W} {K : En → Cells → Res β} : cW (.al i :: gs) (.ref n :: ws) env c K = cN i (.ref n) env c (kWs gs ws K) := by
  rw [cW_cons]; simp only [slotG, putW, cN, kWs]; cases setW env i (.ref n) <;> rfl
theorem cW_af {i : Nat} {xs : List D} {gs : List G} {ws : List W} {K : En → Cells → Res β} : cW (.al i :: gs) (.fl xs :: ws) env c K = cN i (.ref c.length) env (c ++ [.lst xs]) (kWs gs ws K) := by
  rw [cW_cons]; simp only [slotG, putW, cN, kWs]; cases setW env i (.ref c.length) <;> rfl
theorem kWs_eq {gs : List G} {ws : List W} {K : En → Cells → Res β} : kWs gs ws K env c = cW gs ws env c K := rfl
def kRt (env : En) (K : Fl → En → Cells → Res β) : W → Cells → Res β := fun w c => K (.ret w) env c
theorem cS_ret : cS F X (.ret e) env c K = cE F X e env c (kRt env K) := by
  simp only [cS, cE, exS, rB_bind, kRt]; rfl
theorem kRt_eq : kRt env K w c = K (.ret w) env c := rfl
def kEx (env : En) (K : Fl → En → Cells → Res β) : W → Cells → Res β := fun w c => K .nx env c
theorem cS_ex : cS F X (.ex e) env c K = cE F X e env c (kEx env K) := by
  simp only [cS, cE, exS, rB_bind, kEx]; rfl
theorem kEx_eq : kEx env K w c = K .nx env c := rfl
def kIf (F : Fns) (X : Xk β) (a b : S) (env : En) (K : Fl → En → Cells → Res β) : W → Cells → Res β := fun w c => oK (truW c w) (fun k c => if k = true then cS F X a env c K else cS F X b env c K) c
theorem cS_if : cS F X (.ife t a b) env c K = cE F X t env c (kIf F X a b env K) := by
  simp only [cS, cE, exS, rB_bind, kIf]
  congr; funext r
  cases truW r.2 r.1 with
  | none => rfl
  | some k => cases k <;> rfl
theorem kIf_bl {k : Bool} : kIf F X a b env K (.d (.bl k)) c = if k = true then cS F X a env c K else cS F X b env c K := rfl
theorem kIf_eq : kIf F X a b env K w c = oK (truW c w) (fun k c => if k = true then cS F X a env c K else cS F X b env c K) c := rfl
def kSeq (F : Fns) (X : Xk β) (b : S) (K : Fl → En → Cells → Res β) : Fl → En → Cells → Res β := fun f env c => match f with
  | .nx => cS F X b env c K
  | f => K f env c
theorem cS_cons : cS F X (.cons a b) env c K = cS F X a env c (kSeq F X b K) := by
  simp only [cS, exS, rB_bind, kSeq]
  congr; funext r
  obtain ⟨f, e, c'⟩ := r
  cases f <;> rfl
theorem cS_nil : cS F X .nil env c K = K .nx env c := rfl
theorem cS_brk : cS F X .brk env c K = K .bk env c := rfl
theorem cS_cnt : cS F X .cnt env c K = K .ct env c := rfl
theorem cS_pass : cS F X .pass env c K = K .nx env c := rfl
theorem kSeq_nx : kSeq F X b K .nx env c = cS F X b env c K := rfl
theorem kSeq_ret : kSeq F X b K (.ret w) env c = K (.ret w) env c := rfl
theorem kSeq_bk : kSeq F X b K .bk env c = K .bk env c := rfl
theorem kSeq_ct : kSeq F X b K .ct env c = K .ct env c := rfl
/-! ### loops -/
def unlF (l : Lk) (its : List D) (K : Fl → En → Cells → Res β) : Fl → En → Cells → Res β := fun f env c => unl l its c (K f env)
/-- the turns of a for that are left -/
def cFor (F : Fns) (X : Xk β) (p : Pt) (b : S) (l : Lk) (its xs : List D) (env : En) (c : Cells) (K : Fl → En → Cells → Res β) : Res β :=
  rB (forTurns (okLk l its) (fun x e c' => ofO (bindP p x e) >>= fun e' => exS F b e' c') xs env c) X fun q => unl l its q.2.2 (K q.1 q.2.1)
def kFor (F : Fns) (X : Xk β) (p : Pt) (b : S) (env : En) (K : Fl → En → Cells → Res β) : List D → Lk → Cells → Res β := fun xs l c => cFor F X p b l xs xs env c K
theorem cS_for {p : Pt} {it : T} : cS F X (.forr p it b) env c K = cI F X it env c (kFor F X p b env K) := by
  simp only [cS, cI, exS, rB_bind, kFor, cFor]
  congr; funext r; congr; funext q
  simp only [unl]
  cases unlock r.2.1 r.1 q.2.2 <;> rfl
theorem kFor_eq {p : Pt} {xs : List D} {l : Lk} : kFor F X p b env K xs l c = cFor F X p b l xs xs env c K := rfl
theorem cFor_nil {p : Pt} {l : Lk} {its : List D} : cFor F X p b l its [] env c K = ckd l its c (unl l its c (K .nx env)) := by
  simp only [cFor, forTurns, ckd]
  by_cases h : okLk l its c = true
  · simp only [if_pos h]; rfl
  · simp only [if_neg h]; rfl
def kTurn (F : Fns) (X : Xk β) (p : Pt) (b : S) (l : Lk) (its xs : List D) (K : Fl → En → Cells → Res β) : Fl → En → Cells → Res β := fun f env c => match f with
  | .nx => cFor F X p b l its xs env c K
  | .ct => cFor F X p b l its xs env c K
  | .bk => unl l its c (K .nx env)
  | .ret w => unl l its c (K (.ret w) env)
def kBody (F : Fns) (X : Xk β) (b : S) (K : Fl → En → Cells → Res β) : En → Cells → Res β := fun env c => cS F X b env c K
theorem kBody_eq : kBody F X b K env c = cS F X b env c K := rfl
theorem cFor_cons {p : Pt} {l : Lk} {x : D} {its xs : List D} : cFor F X p b l its (x :: xs) env c K = ckd l its c (cB p x env c (kBody F X b (kTurn F X p b l its xs K))) := by
  simp only [cFor, forTurns, ckd, cB, kBody, cS, kTurn]
  by_cases h : okLk l its c = true
  · simp only [if_pos h]
    cases bindP p x env with
    | none => rfl
    | some env' =>
      simp only [ofO_some, Res.bind_ok, rB_ok, oK_some, rB_bind]
      congr; funext r
      obtain ⟨f, e, c'⟩ := r
      cases f <;> rfl
  · simp only [if_neg h]; rfl
theorem kTurn_nx {p : Pt} {l : Lk} {its xs : List D} : kTurn F X p b l its xs K .nx env c = cFor F X p b l its xs env c K := rfl
theorem kTurn_ct {p : Pt} {l : Lk} {its xs : List D} : kTurn F X p b l its xs K .ct env c = cFor F X p b l its xs env c K := rfl
theorem kTurn_bk {p : Pt} {l : Lk} {its xs : List D} : kTurn F X p b l its xs K .bk env c = unl l its c (K .nx env) := rfl
theorem kTurn_ret {p : Pt} {l : Lk} {its xs : List D} : kTurn F X p b l its xs K (.ret w) env c = unl l its c (K (.ret w) env) := rfl
/-- a while's turns, so many at most -/
def cWh (F : Fns) (X : Xk β) (t : T) (b : S) (n : Nat) (env : En) (c : Cells) (K : Fl → En → Cells → Res β) : Res β :=
  rB (whTurns (fun e c' => evE F t e c' >>= fun r => ofO (truW r.2 r.1) >>= fun k => .ok (k, r.2)) (fun e c' => exS F b e c') n env c) X fun q => K q.1 q.2.1 q.2.2
theorem cS_whl {U : Pg} {n : Nat} : cS (fnsN U n) X (.whl t b) env c K = cWh (fnsN U n) X t b U.fuel env c K := by
  simp only [cS, exS, cWh]; rfl
def kWTurn (F : Fns) (X : Xk β) (t : T) (b : S) (n : Nat) (K : Fl → En → Cells → Res β) : Fl → En → Cells → Res β := fun f env c => match f with
  | .nx => cWh F X t b n env c K
  | .ct => cWh F X t b n env c K
  | .bk => K .nx env c
  | .ret w => K (.ret w) env c
def kWTest (F : Fns) (X : Xk β) (t : T) (b : S) (n : Nat) (env : En) (K : Fl → En → Cells → Res β) : W → Cells → Res β := fun w c => oK (truW c w) (fun k c => if k = true then cS F X b env c (kWTurn F X t b n K) else K .nx env c) c
theorem cWh_S {n : Nat} : cWh F X t b (n + 1) env c K = cE F X t env c (kWTest F X t b n env K) := by
  simp only [cWh, whTurns, rB_bind, cE, kWTest, cS, kWTurn]
  congr; funext r
  cases truW r.2 r.1 with
  | none => rfl
  | some k =>
    simp only [ofO_some, Res.bind_ok, rB_ok, oK_some, rB_ok]
    by_cases hk : k = true
    · simp only [if_pos hk, rB_bind]
      congr; funext r
      obtain ⟨f, e, c'⟩ := r
      cases f <;> rfl
    · simp only [if_neg hk]; rfl
theorem kWTest_bl {n : Nat} {k : Bool} : kWTest F X t b n env K (.d (.bl k)) c = if k = true then cS F X b env c (kWTurn F X t b n K) else K .nx env c := rfl
theorem kWTest_eq {n : Nat} : kWTest F X t b n env K w c = oK (truW c w) (fun k c => if k = true then cS F X b env c (kWTurn F X t b n K) else K .nx env c) c := rfl
theorem kWTurn_nx {n : Nat} : kWTurn F X t b n K .nx env c = cWh F X t b n env c K := rfl
theorem kWTurn_ct {n : Nat} : kWTurn F X t b n K .ct env c = cWh F X t b n env c K := rfl
theorem kWTurn_bk {n : Nat} : kWTurn F X t b n K .bk env c = K .nx env c := rfl
theorem kWTurn_ret {n : Nat} : kWTurn F X t b n K (.ret w) env c = K (.ret w) env c := rfl
end
/-! ### defs -/
def kFin (k : Nat) : Fl → En → Cells → Res (W × Cells) := fun f env c => match f with
  | .ret w => finish k w c
  | .nx => finish k (.d .non) c
  | _ => .no
theorem kFin_ret {k : Nat} {w : W} {env : En} {c : Cells} : kFin k (.ret w) env c = finish k w c := rfl
theorem kFin_nx {k : Nat} {env : En} {c : Cells} : kFin k .nx env c = finish k (.d .non) c := rfl
theorem finish_d {k : Nat} {x : D} {c : Cells} : finish k (.d x) c = .ok (.d x, c.take k) := rfl
theorem finish_fl {k : Nat} {x : List D} {c : Cells} : finish k (.fl x) c = .ok (.fl x, c.take k) := rfl
theorem finish_fd {k : Nat} {x : List (D × D)} {c : Cells} : finish k (.fd x) c = .ok (.fd x, c.take k) := rfl
theorem finish_sq {k : Nat} {x : List D} {c : Cells} : finish k (.sq x) c = .ok (.sq x, c.take k) := rfl
def vFin (k : Nat) (o : Option Cell) (c : Cells) : Res (W × Cells) := match o with
  | some (.lst xs) => .ok (.fl xs, c.take k)
  | some (.dct kvs) => .ok (.fd kvs, c.take k)
  | _ => .no
theorem finish_old {k n : Nat} {c : Cells} (h : n < k) : finish k (.ref n) c = .ok (.ref n, c.take k) := by simp only [finish]; rw [if_pos h]
theorem finish_new {k n : Nat} {c : Cells} (h : ¬ n < k) : finish k (.ref n) c = vFin k c[n]? c := by
  simp only [finish, vFin]; rw [if_neg h]; all_goals rfl
theorem vFin_lst {k : Nat} {xs : List D} {c : Cells} : vFin k (some (.lst xs)) c = .ok (.fl xs, c.take k) := rfl
theorem vFin_dct {k : Nat} {xs : List (D × D)} {c : Cells} : vFin k (some (.dct xs)) c = .ok (.fd xs, c.take k) := rfl
theorem run_def {U : Pg} {n i : Nat} {fd : Fd} {ws : List W} {c : Cells} (hi : U.fns[i]? = some fd) (h1 : ws.length = fd.params ∧ fd.params ≤ fd.slots) :
    callN U (n + 1) i ws c = cS (fnsN U n) (fun x y z => .rs x y z) fd.body (ws.map some ++ List.replicate (fd.slots - fd.params) none) c (kFin c.length) := by
  simp only [callN, hi, runFn]
  rw [if_pos h1]
  simp only [cS, fnsN]
  generalize exS _ fd.body (ws.map some ++ List.replicate (fd.slots - fd.params) none) c = q
  cases q with
  | no => rfl
  | rs x y z => rfl
  | ok r =>
    obtain ⟨f, e, c'⟩ := r
    cases f <;> rfl
end Lf
end

section
set_option maxHeartbeats 4000000
/-! Rules for data. -/
namespace Lf
open PySem
section
variable {β : Type} {K : W → Cells → Res β} {c : Cells} {i j : Int} {x y : Str} {xs ys : List D} {a b : D}
theorem r_add : kBin2 .Add (.d (.int i)) K (.d (.int j)) c = K (.d (.int (i + j))) c := rfl
theorem r_addb {k : Bool} : kBin2 .Add (.d (.int i)) K (.d (.bl k)) c = K (.d (.int (i + b2i k))) c := rfl
theorem r_sub : kBin2 .Sub (.d (.int i)) K (.d (.int j)) c = K (.d (.int (i - j))) c := rfl
theorem r_mul (h : (-18446744073709551616 < i ∧ i < 18446744073709551616) ∨ (-18446744073709551616 < j ∧ j < 18446744073709551616)) : kBin2 .Mult (.d (.int i)) K (.d (.int j)) c = K (.d (.int (i * j))) c := by
  rw [kBin2_dd]; simp only [binD]; rw [if_pos h]; rfl
theorem r_div (h : 0 < j ∧ j < 1073741824) : kBin2 .FloorDiv (.d (.int i)) K (.d (.int j)) c = K (.d (.int (i / j))) c := by
  rw [kBin2_dd]; simp only [binD]; rw [if_pos h]; rfl
theorem r_mod (h : 0 < j) : kBin2 .Mod (.d (.int i)) K (.d (.int j)) c = K (.d (.int (i % j))) c := by
  rw [kBin2_dd]; simp only [binD]; rw [if_pos h]; rfl
theorem r_pow {n : Nat} (h : (OfNat.ofNat n : Nat) ≤ 1000000 ∧ i.natAbs < 18446744073709551616) : kBin2 .Pow (.d (.int i)) K (.d (.int (no_index (OfNat.ofNat n)))) c = K (.d (.int (i ^ (OfNat.ofNat n : Nat)))) c := by
  rw [kBin2_dd]; simp only [binD]
  rw [if_pos ⟨Int.natCast_nonneg n, by have := h.1; show (n : Int) ≤ 1000000; have : n ≤ 1000000 := h.1; omega, h.2⟩]; rfl
theorem r_shl (h : 0 ≤ j ∧ j ≤ 1000000 ∧ i.natAbs < 18446744073709551616) : kBin2 .LShift (.d (.int i)) K (.d (.int j)) c = K (.d (.int (i * 2 ^ j.toNat))) c := by
  rw [kBin2_dd]; simp only [binD]; rw [if_pos h]; rfl
theorem r_shr (h : 0 ≤ j) : kBin2 .RShift (.d (.int i)) K (.d (.int j)) c = K (.d (.int (i / 2 ^ j.toNat))) c := by
  rw [kBin2_dd]; simp only [binD]; rw [if_pos h]; rfl
theorem r_and : kBin2 .BitAnd (.d (.int i)) K (.d (.int j)) c = K (.d (.int (Builtin.bitAnd i j))) c := rfl
theorem r_adds (h : x.length + y.length ≤ 16777216) : kBin2 .Add (.d (.str x)) K (.d (.str y)) c = K (.d (.str (x ++ y))) c := by
  rw [kBin2_dd]; simp only [binD]; rw [if_pos h]; rfl
theorem r_addt (h : xs.length + ys.length ≤ 16777216) : kBin2 .Add (.d (.tup xs)) K (.d (.tup ys)) c = K (.d (.tup (xs ++ ys))) c := by
  rw [kBin2_dd]; simp only [binD]; rw [if_pos h]; rfl
theorem r_addl (h : xs.length + ys.length ≤ 16777216) : kBin2 .Add (.d (.lst xs)) K (.d (.lst ys)) c = K (.fl (xs ++ ys)) c := by
  rw [kBin2_dd]; simp only [binD]; rw [if_pos h]; rfl
theorem r_addl1 (h : xs.length + ys.length ≤ 16777216) : kBin2 .Add (.d (.lst xs)) K (.fl ys) c = K (.fl (xs ++ ys)) c := by
  rw [kBin2_eq]; simp only [view, vBin_some, binD]; rw [if_pos h]; rfl
theorem r_addl2 (h : xs.length + ys.length ≤ 16777216) : kBin2 .Add (.fl xs) K (.fl ys) c = K (.fl (xs ++ ys)) c := by
  rw [kBin2_eq]; simp only [view, vBin_some, binD]; rw [if_pos h]; rfl
theorem r_addl3 (h : xs.length + ys.length ≤ 16777216) : kBin2 .Add (.fl xs) K (.d (.lst ys)) c = K (.fl (xs ++ ys)) c := by
  rw [kBin2_eq]; simp only [view, vBin_some, binD]; rw [if_pos h]; rfl
/-! comparisons -/
mutual
theorem D.eq_rfl : ∀ x : D, x.eq x = true
  | .non => rfl
  | .bl a => by simp [D.eq]
  | .int a => by simp [D.eq]
  | .str a => by simp [D.eq]
  | .tup xs => by simp [D.eq, D.eqs_rfl xs]
  | .lst xs => by simp [D.eq, D.eqs_rfl xs]
theorem D.eqs_rfl : ∀ x : List D, D.eqs x x = true
  | [] => rfl
  | x :: xs => by simp [D.eqs, D.eq_rfl x, D.eqs_rfl xs]
end
theorem r_eq (h : min a.dep b.dep ≤ 180) : kCmp2 .Eq (.d a) K (.d b) c = K (.d (.bl (a.eq b))) c := by
  rw [kCmp2_eq]; simp only [view, vCmp_some, cmpD]; rw [if_pos h, oK_some]
theorem r_ne (h : min a.dep b.dep ≤ 180) : kCmp2 .NotEq (.d a) K (.d b) c = K (.d (.bl (!a.eq b))) c := by
  rw [kCmp2_eq]; simp only [view, vCmp_some, cmpD]; rw [if_pos h, oK_some]
theorem r_eqi : kCmp2 .Eq (.d (.int i)) K (.d (.int j)) c = K (.d (.bl (decide (i = j)))) c := by
  exact r_eq (a := .int i) (b := .int j) (by show min 0 0 ≤ 180; decide)
theorem r_nei : kCmp2 .NotEq (.d (.int i)) K (.d (.int j)) c = K (.d (.bl (!decide (i = j)))) c := by
  exact r_ne (a := .int i) (b := .int j) (by show min 0 0 ≤ 180; decide)
theorem r_eqs : kCmp2 .Eq (.d (.str x)) K (.d (.str y)) c = K (.d (.bl (decide (x = y)))) c := by
  exact r_eq (a := .str x) (b := .str y) (by show min 0 0 ≤ 180; decide)
theorem r_nes : kCmp2 .NotEq (.d (.str x)) K (.d (.str y)) c = K (.d (.bl (!decide (x = y)))) c := by
  exact r_ne (a := .str x) (b := .str y) (by show min 0 0 ≤ 180; decide)
theorem r_eqt0 : kCmp2 .Eq (.d (.tup xs)) K (.d (.tup [])) c = K (.d (.bl xs.isEmpty)) c := by
  exact (r_eq (a := .tup xs) (b := .tup []) (by show min (D.deps xs + 1) (0 + 1) ≤ 180; omega)).trans (by cases xs <;> rfl)
theorem r_net0 : kCmp2 .NotEq (.d (.tup xs)) K (.d (.tup [])) c = K (.d (.bl (!xs.isEmpty))) c := by
  exact (r_ne (a := .tup xs) (b := .tup []) (by show min (D.deps xs + 1) (0 + 1) ≤ 180; omega)).trans (by cases xs <;> rfl)
theorem r_eql0 : kCmp2 .Eq (.d (.lst xs)) K (.d (.lst [])) c = K (.d (.bl xs.isEmpty)) c := by
  exact (r_eq (a := .lst xs) (b := .lst []) (by show min (D.deps xs + 1) (0 + 1) ≤ 180; omega)).trans (by cases xs <;> rfl)
theorem r_nel0 : kCmp2 .NotEq (.d (.lst xs)) K (.d (.lst [])) c = K (.d (.bl (!xs.isEmpty))) c := by
  exact (r_ne (a := .lst xs) (b := .lst []) (by show min (D.deps xs + 1) (0 + 1) ≤ 180; omega)).trans (by cases xs <;> rfl)
theorem emp_snoc {x : D} : (xs ++ [x]).isEmpty = false := by cases xs <;> rfl
theorem r_in_l (h : a.dep ≤ 180) : kCmp2 .In (.d a) K (.d (.lst xs)) c = K (.d (.bl (inD a xs))) c := by
  rw [kCmp2_eq]; simp only [view, vCmp_some, cmpD]; rw [if_pos h, oK_some]
theorem r_in_t (h : a.dep ≤ 180) : kCmp2 .In (.d a) K (.d (.tup xs)) c = K (.d (.bl (inD a xs))) c := by
  rw [kCmp2_eq]; simp only [view, vCmp_some, cmpD]; rw [if_pos h, oK_some]
theorem r_ni_l (h : a.dep ≤ 180) : kCmp2 .NotIn (.d a) K (.d (.lst xs)) c = K (.d (.bl (!inD a xs))) c := by
  rw [kCmp2_eq]; simp only [view, vCmp_some, cmpD]; rw [if_pos h, oK_some]
theorem r_ni_t (h : a.dep ≤ 180) : kCmp2 .NotIn (.d a) K (.d (.tup xs)) c = K (.d (.bl (!inD a xs))) c := by
  rw [kCmp2_eq]; simp only [view, vCmp_some, cmpD]; rw [if_pos h, oK_some]
theorem inD_s (z : Str) : ∀ xs : List Str, inD (.str z) (xs.map .str) = decide (z ∈ xs)
  | [] => rfl
  | x :: xs => by
    have ih := inD_s z xs
    simp only [inD] at ih
    simp only [inD, List.map_cons, List.any_cons, ih, D.eq, List.mem_cons]
    by_cases h : z = x
    · subst h; simp
    · have h' : ¬ x = z := fun e => h e.symm
      simp [h, h']
theorem r_in_sl {z : Str} {xs : List Str} : kCmp2 .In (.d (.str z)) K (.d (.lst (xs.map .str))) c = K (.d (.bl (decide (z ∈ xs)))) c := by
  rw [r_in_l (by show 0 ≤ 180; decide), inD_s]
theorem r_in_st {z : Str} {xs : List Str} : kCmp2 .In (.d (.str z)) K (.d (.tup (xs.map .str))) c = K (.d (.bl (decide (z ∈ xs)))) c := by
  rw [r_in_t (by show 0 ≤ 180; decide), inD_s]
theorem r_ni_sl {z : Str} {xs : List Str} : kCmp2 .NotIn (.d (.str z)) K (.d (.lst (xs.map .str))) c = K (.d (.bl (!decide (z ∈ xs)))) c := by
  rw [r_ni_l (by show 0 ≤ 180; decide), inD_s]
theorem r_ni_st {z : Str} {xs : List Str} : kCmp2 .NotIn (.d (.str z)) K (.d (.tup (xs.map .str))) c = K (.d (.bl (!decide (z ∈ xs)))) c := by
  rw [r_ni_t (by show 0 ≤ 180; decide), inD_s]
theorem r_in_it : kCmp2 .In (.d (.int i)) K (.d (.tup xs)) c = K (.d (.bl (inD (.int i) xs))) c := r_in_t (by show 0 ≤ 180; decide)
theorem r_ni_it : kCmp2 .NotIn (.d (.int i)) K (.d (.tup xs)) c = K (.d (.bl (!inD (.int i) xs))) c := r_ni_t (by show 0 ≤ 180; decide)
theorem r_isN : kCmp2 .Is (.d a) K (.d .non) c = K (.d (.bl a.isN)) c := rfl
theorem r_isNN : kCmp2 .IsNot (.d a) K (.d .non) c = K (.d (.bl (!a.isN))) c := rfl
theorem r_lts : kCmp2 .Lt (.d (.str x)) K (.d (.str y)) c = K (.d (.bl (decide (x.cps.toList < y.cps.toList)))) c := rfl
theorem r_les : kCmp2 .LtE (.d (.str x)) K (.d (.str y)) c = K (.d (.bl (!decide (y.cps.toList < x.cps.toList)))) c := rfl
theorem r_gts : kCmp2 .Gt (.d (.str x)) K (.d (.str y)) c = K (.d (.bl (decide (y.cps.toList < x.cps.toList)))) c := rfl
theorem r_ges : kCmp2 .GtE (.d (.str x)) K (.d (.str y)) c = K (.d (.bl (!decide (x.cps.toList < y.cps.toList)))) c := rfl
theorem r_addbi {b : Bool} : kBin2 .Add (.d (.bl b)) K (.d (.int i)) c = K (.d (.int (b2i b + i))) c := rfl
theorem r_stri (h : i.natAbs.log2 < 1920) : kBi .str K [.d (.int i)] c = K (.d (.str (toString i))) c := by
  rw [kBi_d1]; simp only [biD]; rw [if_pos h]; rfl
theorem r_strb {b : Bool} : kBi .str K [.d (.bl b)] c = K (.d (.str (if b = true then "True" else "False"))) c := rfl
theorem r_strs {z : Str} : kBi .str K [.d (.str z)] c = K (.d (.str z)) c := rfl
theorem r_lt : kCmp2 .Lt (.d (.int i)) K (.d (.int j)) c = K (.d (.bl (decide (i < j)))) c := rfl
theorem r_le : kCmp2 .LtE (.d (.int i)) K (.d (.int j)) c = K (.d (.bl (decide (i ≤ j)))) c := rfl
theorem r_gt : kCmp2 .Gt (.d (.int i)) K (.d (.int j)) c = K (.d (.bl (decide (j < i)))) c := rfl
theorem r_ge : kCmp2 .GtE (.d (.int i)) K (.d (.int j)) c = K (.d (.bl (decide (j ≤ i)))) c := rfl
/-! built-ins -/
theorem r_lenl : kBi .len K [.d (.lst xs)] c = K (.d (.int xs.length)) c := rfl
theorem r_lent : kBi .len K [.d (.tup xs)] c = K (.d (.int xs.length)) c := rfl
theorem r_lens (h : x.length ≤ 16777216) : kBi .len K [.d (.str x)] c = K (.d (.int x.length)) c := by
  rw [kBi_d1]; simp only [biD]; rw [if_pos h]; rfl
theorem r_tupl : kBi .tuple K [.d (.lst xs)] c = K (.d (.tup xs)) c := rfl
theorem r_tupt : kBi .tuple K [.d (.tup xs)] c = K (.d (.tup xs)) c := rfl
theorem r_lisl : kBi .list K [.d (.lst xs)] c = K (.fl xs) c := rfl
theorem r_list : kBi .list K [.d (.tup xs)] c = K (.fl xs) c := rfl
theorem r_inti : kBi .int K [.d (.int i)] c = K (.d (.int i)) c := rfl
theorem r_intb {k : Bool} : kBi .int K [.d (.bl k)] c = K (.d (.int (b2i k))) c := rfl
theorem r_abs : kBi .abs K [.d (.int i)] c = K (.d (.int (if i < 0 then -i else i))) c := rfl
theorem r_max : kBi .max2 K [.d (.int i), .d (.int j)] c = K (.d (.int (if j > i then j else i))) c := rfl
theorem r_min : kBi .min2 K [.d (.int i), .d (.int j)] c = K (.d (.int (if j < i then j else i))) c := rfl
theorem r_repr (h : a.repOk = true) : kBi .repr K [.d a] c = K (.d (.str a.shown)) c := by
  rw [kBi_d1]; simp only [biD]; rw [if_pos h]; rfl
/-! cells -/
def vwC (o : Option Cell) : Option D := match o with
  | some (.lst xs) => some (.lst xs)
  | some (.lk xs) => some (.lst xs)
  | _ => none
theorem view_d : view c (.d a) = some a := rfl
theorem view_fl : view c (.fl xs) = some (.lst xs) := rfl
theorem view_ref {n : Nat} : view c (.ref n) = vwC c[n]? := by
  simp only [view, vwC]
  all_goals rfl
theorem vwC_lst : vwC (some (.lst xs)) = some (.lst xs) := rfl
theorem vwC_lk : vwC (some (.lk xs)) = some (.lst xs) := rfl
theorem vwC_dct {kvs : List (D × D)} : vwC (some (.dct kvs)) = none := rfl
def vwD (o : Option Cell) : Option (List (D × D)) := match o with
  | some (.dct kvs) => some kvs
  | _ => none
theorem viewD_ref {n : Nat} : viewD c (.ref n) = vwD c[n]? := by
  simp only [viewD, vwD]
  all_goals rfl
theorem viewD_d : viewD c (.d a) = none := rfl
theorem viewD_fl : viewD c (.fl xs) = none := rfl
theorem viewD_fd {kvs : List (D × D)} : viewD c (.fd kvs) = some kvs := rfl
theorem vwD_lst : vwD (some (.lst xs)) = none := rfl
theorem vwD_lk : vwD (some (.lk xs)) = none := rfl
theorem vwD_dct {kvs : List (D × D)} : vwD (some (.dct kvs)) = some kvs := rfl
theorem views_nil : views c [] = some [] := rfl
def cnsO (a : Option D) (b : Option (List D)) : Option (List D) := match a, b with
  | some x, some xs => some (x :: xs)
  | _, _ => none
theorem views_cons {w : W} {ws : List W} : views c (w :: ws) = cnsO (view c w) (views c ws) := by
  simp only [views, cnsO]
  all_goals rfl
theorem cnsO_some : cnsO (some a) (some xs) = some (a :: xs) := rfl
theorem frzs_nil : frzs [] = some [] := rfl
def cnsF (a : D) (b : Option (List D)) : Option (List D) := match b with
  | some xs => some (a :: xs)
  | none => none
theorem frzs_d {ws : List W} : frzs (.d a :: ws) = cnsF a (frzs ws) := by
  simp only [frzs, cnsF]
  all_goals rfl
theorem cnsF_some : cnsF a (some xs) = some (a :: xs) := rfl
/-- o[k] = x -/
def pIx (o : Option Cell) (c : Cells) (n : Nat) (k x : D) : Option Cells := match o with
    | some (.lst xs) => (match k with
      | .int i => (match L2.ixN xs.length i with
        | some j => some (c.set n (.lst (xs.set j x)))
        | none => none)
      | _ => none)
    | some (.dct kvs) => if (keyD k).isSome = true ∧ kvs.length < LINE then some (c.set n (.dct (dPut kvs k x))) else none
    | _ => none
theorem putIx_ref {n : Nat} : putIx c (.ref n) a b = pIx c[n]? c n a b := by
  simp only [putIx, pIx]
  all_goals rfl
theorem pIx_s {n : Nat} {kvs : List (D × D)} (h : kvs.length < 16777216) : pIx (some (.dct kvs)) c n (.str x) b = some (c.set n (.dct (dPut kvs (.str x) b))) := by
  simp only [pIx]; rw [if_pos ⟨rfl, h⟩]
theorem pIx_i {n : Nat} {kvs : List (D × D)} (h : kvs.length < 16777216) : pIx (some (.dct kvs)) c n (.int i) b = some (c.set n (.dct (dPut kvs (.int i) b))) := by
  simp only [pIx]; rw [if_pos ⟨rfl, h⟩]
theorem ixN_nat {n : Nat} {i : Int} (h0 : 0 ≤ i) (h : i < n) : L2.ixN n i = some i.toNat := by
  unfold L2.ixN; rw [if_pos h0, if_pos h]
theorem pIx_l {n : Nat} (h : 0 ≤ i ∧ i < xs.length) : pIx (some (.lst xs)) c n (.int i) b = some (c.set n (.lst (xs.set i.toNat b))) := by
  simp only [pIx, ixN_nat h.1 h.2]
/-! places -/
theorem at_nn {α : Type} {xs : List α} (h : 0 ≤ i ∧ i < xs.length) : L2.atI xs i = xs[i.toNat]? := by
  unfold L2.atI; rw [ixN_nat h.1 h.2]; rfl
theorem idx_lnn (h : 0 ≤ i ∧ i < xs.length) : idxD (.lst xs) (.int i) = xs[i.toNat]? := at_nn h
theorem idx_tnn (h : 0 ≤ i ∧ i < xs.length) : idxD (.tup xs) (.int i) = xs[i.toNat]? := at_nn h
theorem oK_getElem {α : Type} {xs : List α} {i : Nat} (h : i < xs.length) {K : α → Cells → Res β} : oK xs[i]? K c = K xs[i] c := by
  rw [List.getElem?_eq_getElem h]; rfl
theorem t2_0 : kIdx2 (.d (.tup (a :: xs))) K (.d (.int 0)) c = K (.d a) c := by
  rw [kIdx2_dd, idx_tnn ⟨by decide, by simp only [List.length_cons]; omega⟩]; rfl
theorem t2_1 {d : D} : kIdx2 (.d (.tup (a :: d :: xs))) K (.d (.int 1)) c = K (.d d) c := by
  rw [kIdx2_dd, idx_tnn ⟨by decide, by simp only [List.length_cons]; omega⟩]; rfl
theorem t2_2 {d e : D} : kIdx2 (.d (.tup (a :: d :: e :: xs))) K (.d (.int 2)) c = K (.d e) c := by
  rw [kIdx2_dd, idx_tnn ⟨by decide, by simp only [List.length_cons]; omega⟩]; rfl
theorem t2_3 {d e f : D} : kIdx2 (.d (.tup (a :: d :: e :: f :: xs))) K (.d (.int 3)) c = K (.d f) c := by
  rw [kIdx2_dd, idx_tnn ⟨by decide, by simp only [List.length_cons]; omega⟩]; rfl
theorem t2_4 {d e f g : D} : kIdx2 (.d (.tup (a :: d :: e :: f :: g :: xs))) K (.d (.int 4)) c = K (.d g) c := by
  rw [kIdx2_dd, idx_tnn ⟨by decide, by simp only [List.length_cons]; omega⟩]; rfl
theorem l2_0 : kIdx2 (.d (.lst (a :: xs))) K (.d (.int 0)) c = K (.d a) c := by
  rw [kIdx2_dd, idx_lnn ⟨by decide, by simp only [List.length_cons]; omega⟩]; rfl
theorem l2_1 {d : D} : kIdx2 (.d (.lst (a :: d :: xs))) K (.d (.int 1)) c = K (.d d) c := by
  rw [kIdx2_dd, idx_lnn ⟨by decide, by simp only [List.length_cons]; omega⟩]; rfl
theorem l2_2 {d e : D} : kIdx2 (.d (.lst (a :: d :: e :: xs))) K (.d (.int 2)) c = K (.d e) c := by
  rw [kIdx2_dd, idx_lnn ⟨by decide, by simp only [List.length_cons]; omega⟩]; rfl
theorem l2_3 {d e f : D} : kIdx2 (.d (.lst (a :: d :: e :: f :: xs))) K (.d (.int 3)) c = K (.d f) c := by
  rw [kIdx2_dd, idx_lnn ⟨by decide, by simp only [List.length_cons]; omega⟩]; rfl
end
/-! truths -/
section
variable {β : Type} {F : Fns} {X : Xk β} {env : En} {c : Cells} {K : W → Cells → Res β} {KF : Fl → En → Cells → Res β} {KB : Bool → Cells → Res β} {a b t : T} {s u : S} {p : Prop} [Decidable p] {n : Nat}
theorem kIf_t : kIf F X s u env KF (.d (.bl true)) c = cS F X s env c KF := rfl
theorem kIf_f : kIf F X s u env KF (.d (.bl false)) c = cS F X u env c KF := rfl
theorem kIf_p : kIf F X s u env KF (.d (.bl (decide p))) c = if p then cS F X s env c KF else cS F X u env c KF := by
  rw [kIf_bl]; by_cases h : p <;> simp [h]
theorem kIf_n : kIf F X s u env KF (.d (.bl (!decide p))) c = if p then cS F X u env c KF else cS F X s env c KF := by
  rw [kIf_bl]; by_cases h : p <;> simp [h]
theorem kIte_t : kIte F X a b env K (.d (.bl true)) c = cE F X a env c K := rfl
theorem kIte_f : kIte F X a b env K (.d (.bl false)) c = cE F X b env c K := rfl
theorem kIte_p : kIte F X a b env K (.d (.bl (decide p))) c = if p then cE F X a env c K else cE F X b env c K := by
  rw [kIte_bl]; by_cases h : p <;> simp [h]
theorem kIte_n : kIte F X a b env K (.d (.bl (!decide p))) c = if p then cE F X b env c K else cE F X a env c K := by
  rw [kIte_bl]; by_cases h : p <;> simp [h]
theorem kAnd_t : kAnd F X b env K (.d (.bl true)) c = cE F X b env c K := rfl
theorem kAnd_f : kAnd F X b env K (.d (.bl false)) c = K (.d (.bl false)) c := rfl
theorem kAnd_p : kAnd F X b env K (.d (.bl (decide p))) c = if p then cE F X b env c K else K (.d (.bl false)) c := by
  rw [kAnd_bl]; by_cases h : p <;> simp [h]
theorem kAnd_n : kAnd F X b env K (.d (.bl (!decide p))) c = if p then K (.d (.bl false)) c else cE F X b env c K := by
  rw [kAnd_bl]; by_cases h : p <;> simp [h]
theorem kOr_t : kOr F X b env K (.d (.bl true)) c = K (.d (.bl true)) c := rfl
theorem kOr_f : kOr F X b env K (.d (.bl false)) c = cE F X b env c K := rfl
theorem kOr_p : kOr F X b env K (.d (.bl (decide p))) c = if p then K (.d (.bl true)) c else cE F X b env c K := by
  rw [kOr_bl]; by_cases h : p <;> simp [h]
theorem kOr_n : kOr F X b env K (.d (.bl (!decide p))) c = if p then cE F X b env c K else K (.d (.bl true)) c := by
  rw [kOr_bl]; by_cases h : p <;> simp [h]
theorem kTst_t : kTst F X b env KB (.d (.bl true)) c = cT F X b env c KB := rfl
theorem kTst_f : kTst F X b env KB (.d (.bl false)) c = KB false c := rfl
theorem kTst_p : kTst F X b env KB (.d (.bl (decide p))) c = if p then cT F X b env c KB else KB false c := by
  rw [kTst_bl]; by_cases h : p <;> simp [h]
theorem kTst_n : kTst F X b env KB (.d (.bl (!decide p))) c = if p then KB false c else cT F X b env c KB := by
  rw [kTst_bl]; by_cases h : p <;> simp [h]
theorem kWTest_p : kWTest F X t s n env KF (.d (.bl (decide p))) c = if p then cS F X s env c (kWTurn F X t s n KF) else KF .nx env c := by
  rw [kWTest_bl]; by_cases h : p <;> simp [h]
theorem kWTest_n : kWTest F X t s n env KF (.d (.bl (!decide p))) c = if p then KF .nx env c else cS F X s env c (kWTurn F X t s n KF) := by
  rw [kWTest_bl]; by_cases h : p <;> simp [h]
theorem kLt2_t {e : T} {KO : Option D → Cells → Res β} : kLt2 F env e KO true c = cE F xNo e env c (kLt3 KO) := rfl
theorem kLt2_f {e : T} {KO : Option D → Cells → Res β} : kLt2 F env e KO false c = KO none c := rfl
theorem kLt2_p {e : T} {KO : Option D → Cells → Res β} : kLt2 F env e KO (decide p) c = if p then cE F xNo e env c (kLt3 KO) else KO none c := by
  rw [kLt2_eq]; by_cases h : p <;> simp [h]
end
theorem dGet_hit {x : Str} {v : D} {r : List (D × D)} : dGet ((.str x, v) :: r) (.str x) = some v := by
  simp only [dGet]; rw [if_pos trivial]
theorem dGet_miss {x y : Str} {v : D} {r : List (D × D)} (h : (x == y) = false) : dGet ((.str x, v) :: r) (.str y) = dGet r (.str y) := by
  simp only [dGet]
  refine if_neg ?_
  intro e
  simp only [keyD] at e
  simp only [Option.some.injEq, Sum.inr.injEq] at e
  subst e
  simp at h
/-! calls -/
section
variable {β : Type} {X : Xk β} {c r : Cells} {K : W → Cells → Res β} {U : Pg} {n f : Nat} {ws : List W} {x : Cell} {w : W}
def kR0 (c : Cells) (K : W → Cells → Res β) (r : Res (W × Cells)) : Res β := match r with
  | .ok (w, _) => (match w with
    | .ref _ => .no
    | w => K w c)
  | _ => .no
theorem ren_nil : ∀ {ws : List W}, refsOf ws = [] → ws.map (renW []) = ws
  | [], _ => rfl
  | w :: ws, h => by
    cases w with
    | ref n =>
      simp only [refsOf] at h
      split at h
      · rename_i q; rw [h] at q; simp at q
      · cases h
    | d _ => simp only [refsOf] at h; rw [List.map_cons, ren_nil h]; rfl
    | fl _ => simp only [refsOf] at h; rw [List.map_cons, ren_nil h]; rfl
    | fd _ => simp only [refsOf] at h; rw [List.map_cons, ren_nil h]; rfl
    | sq _ => simp only [refsOf] at h; rw [List.map_cons, ren_nil h]; rfl
theorem kCall_0 (h : refsOf ws = []) (hs : ws.all W.slotB = true) : kCall (fnsN U n) X f K ws c = kR0 c K (callN U n f ws []) := by
  rw [kCall_eq hs, h, ren_nil h]
  show kRet ws c K (callN U n f ws []) = _
  cases callN U n f ws [] with
  | no => rfl
  | rs _ _ _ => rfl
  | ok p =>
    obtain ⟨w, sub⟩ := p
    rw [kRet_ok, h]
    cases w <;> simp [backW, oK, kR0, putBack]
theorem kR0_d {x : D} {s : Cells} : kR0 c K (.ok (.d x, s)) = K (.d x) c := rfl
theorem kR0_fl {x : List D} {s : Cells} : kR0 c K (.ok (.fl x, s)) = K (.fl x) c := rfl
theorem kR0_fd {x : List (D × D)} {s : Cells} : kR0 c K (.ok (.fd x, s)) = K (.fd x) c := rfl
def kR1 (j : Nat) (c : Cells) (K : W → Cells → Res β) (r : Res (W × Cells)) : Res β := match r with
  | .ok (w, [x]) => (match w with
    | .ref 0 => K (.ref j) (c.set j x)
    | .ref _ => .no
    | w => K w (c.set j x))
  | .ok (w, []) => (match w with
    | .ref 0 => K (.ref j) c
    | .ref _ => .no
    | w => K w c)
  | .ok (w, x :: _) => (match w with
    | .ref 0 => K (.ref j) (c.set j x)
    | .ref _ => .no
    | w => K w (c.set j x))
  | _ => .no
theorem kCall_j {j : Nat} (h : refsOf ws = [j]) (hs : ws.all W.slotB = true) : kCall (fnsN U n) X f K ws c = kR1 j c K (callN U n f (ws.map (renW [j])) [c.getD j .gone]) := by
  rw [kCall_eq hs, h]
  show kRet ws c K (callN U n f (ws.map (renW [j])) [c.getD j .gone]) = _
  cases callN U n f (ws.map (renW [j])) [c.getD j .gone] with
  | no => rfl
  | rs _ _ _ => rfl
  | ok p =>
    obtain ⟨w, sub⟩ := p
    rw [kRet_ok, h]
    cases w with
    | ref m => cases m <;> cases sub <;> first | rfl | (rename_i s; cases s <;> rfl)
    | d _ => cases sub <;> first | rfl | (rename_i s; cases s <;> rfl)
    | fl _ => cases sub <;> first | rfl | (rename_i s; cases s <;> rfl)
    | fd _ => cases sub <;> first | rfl | (rename_i s; cases s <;> rfl)
    | sq _ => cases sub <;> first | rfl | (rename_i s; cases s <;> rfl)
theorem kCall_r0 (h : refsOf ws = [0]) (hs : ws.all W.slotB = true) : kCall (fnsN U n) X f K ws (x :: r) = kR1 0 (x :: r) K (callN U n f (ws.map (renW [0])) [x]) := kCall_j h hs
theorem kCall_r1 {y : Cell} (h : refsOf ws = [1]) (hs : ws.all W.slotB = true) : kCall (fnsN U n) X f K ws (y :: x :: r) = kR1 1 (y :: x :: r) K (callN U n f (ws.map (renW [1])) [x]) := kCall_j h hs
theorem kCall_r2 {y z : Cell} (h : refsOf ws = [2]) (hs : ws.all W.slotB = true) : kCall (fnsN U n) X f K ws (z :: y :: x :: r) = kR1 2 (z :: y :: x :: r) K (callN U n f (ws.map (renW [2])) [x]) := kCall_j h hs
theorem renW_self {j : Nat} : renW [j] (.ref j) = .ref 0 := by simp [renW]
theorem renW_d {rs : List Nat} {x : D} : renW rs (.d x) = .d x := rfl
theorem renW_sq {rs : List Nat} {x : List D} : renW rs (.sq x) = .sq x := rfl
theorem kR1_d {j : Nat} {y : D} : kR1 j c K (.ok (.d y, [x])) = K (.d y) (c.set j x) := rfl
theorem kR1_fl {j : Nat} {y : List D} : kR1 j c K (.ok (.fl y, [x])) = K (.fl y) (c.set j x) := rfl
theorem kR1_fd {j : Nat} {y : List (D × D)} : kR1 j c K (.ok (.fd y, [x])) = K (.fd y) (c.set j x) := rfl
theorem kR1_ref {j : Nat} : kR1 j c K (.ok (.ref 0, [x])) = K (.ref j) (c.set j x) := rfl
end
/-! built-ins of cells, methods -/
section
variable {β : Type} {F : Fns} {X : Xk β} {env : En} {c : Cells} {K : W → Cells → Res β} {as : T} {n : Nat} {i : Int} {x : D} {xs : List D}
theorem b_lenl : vBi .len (some [.lst xs]) c K = K (.d (.int xs.length)) c := rfl
theorem b_lent : vBi .len (some [.tup xs]) c K = K (.d (.int xs.length)) c := rfl
theorem b_tupl : vBi .tuple (some [.lst xs]) c K = K (.d (.tup xs)) c := rfl
theorem b_tupt : vBi .tuple (some [.tup xs]) c K = K (.d (.tup xs)) c := rfl
theorem b_lisl : vBi .list (some [.lst xs]) c K = K (.fl xs) c := rfl
theorem b_list : vBi .list (some [.tup xs]) c K = K (.fl xs) c := rfl
def vTy (o : Option Cell) (r : Res β) : Res β := match o with
  | some (.lst _) => r
  | some (.lk _) => r
  | _ => .no
theorem tyMe_l (m : Me) (h : m ≠ .tidx ∧ m ≠ .supp) : tyMe c (.ref n) m = (match c[n]? with
      | some (.lst _) => true
      | some (.lk _) => true
      | _ => false) := by
  have e1 : tyMe c (.ref n) m = (match view c (.ref n) with
      | some (.lst _) => true
      | _ => false) := by
    cases m with
    | lpop => rfl
    | lapp => rfl
    | lext => rfl
    | tidx => exact absurd rfl h.1
    | supp => exact absurd rfl h.2
  rw [e1]
  simp only [view]
  cases c[n]? with
  | none => rfl
  | some x => cases x <;> rfl
theorem kMe1_refN {m : Me} (h : m ≠ .tidx ∧ m ≠ .supp) : kMe1 F X m as env K (.ref n) c = vTy c[n]? (cL F X as env c (kMe2 m (.ref n) K)) := by
  have e := tyMe_l (c := c) (n := n) m h
  simp only [kMe1]
  rw [e]
  unfold vTy
  cases c[n]? with
  | none => rfl
  | some x => cases x <;> rfl
theorem kMe1_pop : kMe1 F X .lpop as env K (.ref n) c = vTy c[n]? (cL F X as env c (kMe2 .lpop (.ref n) K)) := kMe1_refN ⟨(fun h => (nomatch h)), (fun h => (nomatch h))⟩
theorem kMe1_app : kMe1 F X .lapp as env K (.ref n) c = vTy c[n]? (cL F X as env c (kMe2 .lapp (.ref n) K)) := kMe1_refN ⟨(fun h => (nomatch h)), (fun h => (nomatch h))⟩
theorem kMe1_ext : kMe1 F X .lext as env K (.ref n) c = vTy c[n]? (cL F X as env c (kMe2 .lext (.ref n) K)) := kMe1_refN ⟨(fun h => (nomatch h)), (fun h => (nomatch h))⟩
theorem kMe1_idx : kMe1 F X .tidx as env K (.d (.tup xs)) c = cL F X as env c (kMe2 .tidx (.d (.tup xs)) K) := rfl
theorem kMe1_supp {z : Str} : kMe1 F X .supp as env K (.d (.str z)) c = cL F X as env c (kMe2 .supp (.d (.str z)) K) := rfl
theorem m_supp {z : Str} (h : z.length ≤ 5592405) : kMe2 .supp (.d (.str z)) K [] c = K (.d (.str (PySem.Txt.upper z))) c := by
  rw [kMe2_eq]
  simp only [meW, suppW, view, if_pos h, oP_some]
theorem strsOf_sD : ∀ {ms : List Str}, strsOf (ms.map .str) = some ms
  | [] => rfl
  | m :: ms => by simp only [List.map_cons, strsOf, strsOf_sD (ms := ms)]
theorem m_tidx {ms : List Str} {z : Str} (h : z ∈ ms) : kMe2 .tidx (.d (.tup (ms.map .str))) K [.d (.str z)] c = K (.d (.int (ms.idxOf z))) c := by
  rw [kMe2_eq]
  simp only [meW, tidxW, view, idxS, strsOf_sD, if_pos h, oP_some]
def vExt (o : Option Cell) (n : Nat) (ys : List D) (c : Cells) (K : W → Cells → Res β) : Res β := match o with
  | some (.lst xs) => if xs.length + ys.length ≤ LINE then K (.d .non) (c.set n (.lst (xs ++ ys))) else .no
  | _ => .no
theorem m_ext {ys : List D} : kMe2 .lext (.ref n) K [.d (.lst ys)] c = vExt c[n]? n ys c K := by
  rw [kMe2_eq]
  simp only [meW, vExt, extW]
  cases c[n]? with
  | none => rfl
  | some y =>
    cases y <;> try rfl
    rename_i xs
    dsimp only
    by_cases h : xs.length + ys.length ≤ LINE
    · rw [if_pos h, if_pos h]; rfl
    · rw [if_neg h, if_neg h]; rfl
theorem vExt_lst {ys : List D} (h : xs.length + ys.length ≤ 16777216) : vExt (some (.lst xs)) n ys c K = K (.d .non) (c.set n (.lst (xs ++ ys))) := by
  simp only [vExt]; rw [if_pos h]
theorem vTy_lst {r : Res β} : vTy (some (.lst xs)) r = r := rfl
def vPop (o : Option Cell) (n : Nat) (i : Int) (c : Cells) (K : W → Cells → Res β) : Res β := match o with
  | some (.lst xs) => oP (if -9223372036854775808 ≤ i ∧ i < 9223372036854775808 then (match seqIndex? i xs.length with
      | some k => match xs[k]? with
        | some x => some (.d x, c.set n (.lst (xs.eraseIdx k)))
        | none => none
      | none => none) else none) K
  | _ => .no
theorem m_pop1 : kMe2 .lpop (.ref n) K [.d (.int i)] c = vPop c[n]? n i c K := by
  rw [kMe2_eq]
  simp only [meW, vPop, popW, view]
  cases c[n]? with
  | none => rfl
  | some x => cases x <;> rfl
theorem vPop_lst (h : 0 ≤ i ∧ i < xs.length ∧ xs.length ≤ 16777216) : vPop (some (.lst xs)) n i c K = K (.d (xs.getD i.toNat .non)) (c.set n (.lst (xs.eraseIdx i.toNat))) := by
  have hi : i.toNat < xs.length := by omega
  simp only [vPop]
  rw [if_pos (by omega)]
  have e : seqIndex? i xs.length = some i.toNat := by
    obtain ⟨j, hj⟩ : ∃ j : Nat, i = j := ⟨i.toNat, by omega⟩
    subst hj
    simp only [seqIndex?]
    have h1 : ¬ ((j : Int) < 0) := by omega
    simp [h1]
    omega
  simp only [e, List.getElem?_eq_getElem hi, oP_some]
  rw [List.getD_eq_getElem?_getD, List.getElem?_eq_getElem hi]; rfl
def vPop0 (o : Option Cell) (n : Nat) (c : Cells) (K : W → Cells → Res β) : Res β := match o with
  | some (.lst xs) => (match xs[xs.length - 1]? with
      | some x => K (.d x) (c.set n (.lst xs.dropLast))
      | none => .no)
  | _ => .no
theorem m_pop0 : kMe2 .lpop (.ref n) K [] c = vPop0 c[n]? n c K := by
  rw [kMe2_eq]
  simp only [meW, vPop0, popW]
  cases c[n]? with
  | none => rfl
  | some x =>
    cases x <;> try rfl
    rename_i xs
    dsimp only
    cases xs[xs.length - 1]? <;> rfl
theorem vPop0_lst : vPop0 (some (.lst (xs ++ [x]))) n c K = K (.d x) (c.set n (.lst xs)) := by
  simp [vPop0]
def vApp (o : Option Cell) (n : Nat) (x : D) (c : Cells) (K : W → Cells → Res β) : Res β := match o with
  | some (.lst xs) => if xs.length < LINE then K (.d .non) (c.set n (.lst (xs ++ [x]))) else .no
  | _ => .no
theorem m_app : kMe2 .lapp (.ref n) K [.d x] c = vApp c[n]? n x c K := by
  rw [kMe2_eq]
  simp only [meW, vApp, appW]
  cases c[n]? with
  | none => rfl
  | some y =>
    cases y <;> try rfl
    rename_i xs
    dsimp only
    by_cases h : xs.length < LINE
    · rw [if_pos h, if_pos h]; rfl
    · rw [if_neg h, if_neg h]; rfl
theorem vApp_lst (h : xs.length < 16777216) : vApp (some (.lst xs)) n x c K = K (.d .non) (c.set n (.lst (xs ++ [x]))) := by
  simp only [vApp]; rw [if_pos h]
end
/-! kinds -/
theorem isD_tup_non : isD .tup .non = false := rfl
theorem isD_tup_bl {b : Bool} : isD .tup (.bl b) = false := rfl
theorem isD_tup_int {i : Int} : isD .tup (.int i) = false := rfl
theorem isD_tup_str {x : Str} : isD .tup (.str x) = false := rfl
theorem isD_tup_tup {xs : List D} : isD .tup (.tup xs) = true := rfl
theorem isD_tup_lst {xs : List D} : isD .tup (.lst xs) = false := rfl
theorem isD_lst_non : isD .lst .non = false := rfl
theorem isD_lst_bl {b : Bool} : isD .lst (.bl b) = false := rfl
theorem isD_lst_int {i : Int} : isD .lst (.int i) = false := rfl
theorem isD_lst_str {x : Str} : isD .lst (.str x) = false := rfl
theorem isD_lst_tup {xs : List D} : isD .lst (.tup xs) = false := rfl
theorem isD_lst_lst {xs : List D} : isD .lst (.lst xs) = true := rfl
theorem isD_str_non : isD .str .non = false := rfl
theorem isD_str_bl {b : Bool} : isD .str (.bl b) = false := rfl
theorem isD_str_int {i : Int} : isD .str (.int i) = false := rfl
theorem isD_str_str {x : Str} : isD .str (.str x) = true := rfl
theorem isD_str_tup {xs : List D} : isD .str (.tup xs) = false := rfl
theorem isD_str_lst {xs : List D} : isD .str (.lst xs) = false := rfl
theorem isD_int_non : isD .int .non = false := rfl
theorem isD_int_bl {b : Bool} : isD .int (.bl b) = true := rfl
theorem isD_int_int {i : Int} : isD .int (.int i) = true := rfl
theorem isD_int_str {x : Str} : isD .int (.str x) = false := rfl
theorem isD_int_tup {xs : List D} : isD .int (.tup xs) = false := rfl
theorem isD_int_lst {xs : List D} : isD .int (.lst xs) = false := rfl
theorem isD_bl_non : isD .bl .non = false := rfl
theorem isD_bl_bl {b : Bool} : isD .bl (.bl b) = true := rfl
theorem isD_bl_int {i : Int} : isD .bl (.int i) = false := rfl
theorem isD_bl_str {x : Str} : isD .bl (.str x) = false := rfl
theorem isD_bl_tup {xs : List D} : isD .bl (.tup xs) = false := rfl
theorem isD_bl_lst {xs : List D} : isD .bl (.lst xs) = false := rfl
theorem isD_dct_non : isD .dct .non = false := rfl
theorem isD_dct_bl {b : Bool} : isD .dct (.bl b) = false := rfl
theorem isD_dct_int {i : Int} : isD .dct (.int i) = false := rfl
theorem isD_dct_str {x : Str} : isD .dct (.str x) = false := rfl
theorem isD_dct_tup {xs : List D} : isD .dct (.tup xs) = false := rfl
theorem isD_dct_lst {xs : List D} : isD .dct (.lst xs) = false := rfl
theorem isN_non : D.isN .non = true := rfl
theorem isN_bl {b : Bool} : D.isN (.bl b) = false := rfl
theorem isN_int {i : Int} : D.isN (.int i) = false := rfl
theorem isN_str {x : Str} : D.isN (.str x) = false := rfl
theorem isN_tup {xs : List D} : D.isN (.tup xs) = false := rfl
theorem isN_lst {xs : List D} : D.isN (.lst xs) = false := rfl
theorem inD_nil {d : D} : inD d [] = false := rfl
theorem inD_cons {d x : D} {xs : List D} : inD d (x :: xs) = (x.eq d || inD d xs) := rfl

/-! any two values, as data -/
section
variable {β : Type} {F : Fns} {X : Xk β} {env : En} {c : Cells} {K : W → Cells → Res β} {o : Operator} {p : CmpOp} {k : Bi} {n : Nat} {x y : D} {xs : List D} {w : W} {l h : Option Int} {kvs : List (D × D)}
theorem bin_ref1 : kBin2 o (.ref n) K w c = vBin o (view c (.ref n)) (view c w) c K := rfl
theorem bin_ref2 : kBin2 o (.d x) K (.ref n) c = vBin o (some x) (view c (.ref n)) c K := rfl
theorem bin_fl1 : kBin2 o (.fl xs) K w c = kBin2 o (.d (.lst xs)) K w c := rfl
theorem bin_fl2 : kBin2 o (.d x) K (.fl xs) c = kBin2 o (.d x) K (.d (.lst xs)) c := rfl
theorem vBin_dd : vBin o (some x) (some y) c K = kBin2 o (.d x) K (.d y) c := rfl
theorem cmp_ref1 : kCmp2 p (.ref n) K w c = vCmp p (view c (.ref n)) (view c w) c K := rfl
theorem cmp_ref2 : kCmp2 p (.d x) K (.ref n) c = vCmp p (some x) (view c (.ref n)) c K := rfl
theorem cmp_fl1 : kCmp2 p (.fl xs) K w c = kCmp2 p (.d (.lst xs)) K w c := rfl
theorem cmp_fl2 : kCmp2 p (.d x) K (.fl xs) c = kCmp2 p (.d x) K (.d (.lst xs)) c := rfl
theorem vCmp_dd : vCmp p (some x) (some y) c K = kCmp2 p (.d x) K (.d y) c := rfl
theorem bi_ref : kBi k K [.ref n] c = vBi k (views c [.ref n]) c K := rfl
theorem vBi_1 : vBi k (some [x]) c K = kBi k K [.d x] c := rfl
theorem idx_ref : kIdx2 (.ref n) K (.d x) c = vIdx (viewD c (.ref n)) (view c (.ref n)) (some x) c K := rfl
theorem idx_fd : kIdx2 (.fd kvs) K (.d x) c = oK (dGet kvs x) (fun x => K (.d x)) c := rfl
theorem idx_fl : kIdx2 (.fl xs) K w c = kIdx2 (.d (.lst xs)) K w c := rfl
theorem vIdx_dd : vIdx none (some x) (some y) c K = kIdx2 (.d x) K (.d y) c := rfl
theorem slc_ref : kSlc3 (.ref n) l K h c = vSlc (view c (.ref n)) l h c K := rfl
theorem vSlc_d : vSlc (some x) l h c K = kSlc3 (.d x) l K h c := rfl
theorem if_fl {s u : S} {KF : Fl → En → Cells → Res β} : kIf F X s u env KF (.fl xs) c = kIf F X s u env KF (.d (.lst xs)) c := rfl
end
/-! stars, cuts -/
section
variable {β : Type} {env : En} {c : Cells} {K : En → Cells → Res β} {p : Pt} {a b : D} {r : List D}
theorem star_t : starXs c (.d (.tup r)) = some r := rfl
theorem star_l : starXs c (.d (.lst r)) = some r := rfl
theorem st21 (h : r.length ≤ 16000) : vSt p 2 1 (some (a :: r)) env c K = cBs p [a, .lst r] env c K := by
  rw [vSt_some (by simp; omega)]
  simp [List.take_of_length_le, List.drop_eq_nil_of_le]
theorem st32 (h : r.length ≤ 16000) : vSt p 3 2 (some (a :: b :: r)) env c K = cBs p [a, b, .lst r] env c K := by
  rw [vSt_some (by simp; omega)]
  simp [List.take_of_length_le, List.drop_eq_nil_of_le]
end
theorem sIx_nn {n d : Nat} {k : Int} (h : 0 ≤ k) : HT.sIx n d (some k) = min k.toNat n := by
  simp only [HT.sIx]; rw [if_neg (by omega)]
theorem cut_pre {α : Type} {xs : List α} {k : Int} (h : 0 ≤ k) : cutL xs none (some k) = xs.take k.toNat := by
  simp only [cutL, sIx_nn h, HT.sIx_none, List.drop_zero, Nat.sub_zero]
  rw [← List.take_take, List.take_length]
theorem cut_suf {α : Type} {xs : List α} {k : Int} (h : 0 ≤ k) : cutL xs (some k) none = xs.drop k.toNat := by
  simp only [cutL, sIx_nn h, HT.sIx_none]
  rw [List.take_of_length_le (by simp)]
  by_cases hk : k.toNat ≤ xs.length
  · rw [Nat.min_eq_left hk]
  · rw [Nat.min_eq_right (by omega), List.drop_length, List.drop_eq_nil_of_le (by omega)]
theorem cut_mid {α : Type} {xs : List α} {k l : Int} (h : 0 ≤ k ∧ 0 ≤ l) : cutL xs (some k) (some l) = (xs.drop k.toNat).take (l.toNat - k.toNat) := by
  simp only [cutL, sIx_nn h.1, sIx_nn h.2]
  generalize k.toNat = a
  generalize l.toNat = b
  by_cases hk : a ≤ xs.length
  · rw [Nat.min_eq_left hk]
    by_cases hl : b ≤ xs.length
    · rw [Nat.min_eq_left hl]
    · rw [Nat.min_eq_right (by omega : xs.length ≤ b), List.take_of_length_le (by simp), List.take_of_length_le (by simp; omega)]
  · rw [Nat.min_eq_right (by omega : xs.length ≤ a), List.drop_length, List.drop_eq_nil_of_le (by omega)]; simp
theorem cut_all {α : Type} {xs : List α} : cutL xs none none = xs := by
  simp [cutL, HT.sIx_none]
theorem cut_tail {α : Type} {x : α} {xs : List α} : cutL (x :: xs) (some 1) none = xs := by rw [cut_suf (by decide)]; rfl
theorem drop_one {α : Type} {x : α} {xs : List α} : (x :: xs).drop 1 = xs := rfl
theorem toNat_1 : Int.toNat 1 = 1 := rfl
theorem toNat_2 : Int.toNat 2 = 2 := rfl
theorem toNat_3 : Int.toNat 3 = 3 := rfl
theorem take_map {α γ : Type} {f : α → γ} {xs : List α} {n : Nat} : (xs.map f).take n = (xs.take n).map f := by rw [List.map_take]
theorem drop_map {α γ : Type} {f : α → γ} {xs : List α} {n : Nat} : (xs.map f).drop n = (xs.drop n).map f := by rw [List.map_drop]
theorem b2i_t : b2i true = 1 := rfl
theorem b2i_f : b2i false = 0 := rfl
section
variable {β : Type} {c : Cells} {K : W → Cells → Res β}
theorem r_intt : kBi .int K [.d (.bl true)] c = K (.d (.int 1)) c := rfl
theorem r_intp {p : Prop} [Decidable p] : kBi .int K [.d (.bl (decide p))] c = if p then K (.d (.int 1)) c else K (.d (.int 0)) c := by
  by_cases h : p <;> simp [h, r_intb, b2i]
theorem r_intf : kBi .int K [.d (.bl false)] c = K (.d (.int 0)) c := rfl
theorem r_zipt {xs ys : List D} : kLzip K [.d (.tup xs), .d (.tup ys)] c = K (.fl (zipD xs ys)) c := rfl
end
theorem clearO_nil {env : En} : clearO [] env = env := rfl
theorem clearO_cons {i : Nat} {own : List Nat} {env : En} : clearO (i :: own) env = (clearO own env).set i none := rfl
/-! typed lists -/
abbrev sD (xs : List Str) : List D := xs.map .str
abbrev bD (xs : List Bool) : List D := xs.map .bl
abbrev iD (xs : List Int) : List D := xs.map .int
theorem idx_tmap {α : Type} [Inhabited α] {f : α → D} {xs : List α} {i : Int} (h : 0 ≤ i ∧ i < xs.length) : idxD (.tup (xs.map f)) (.int i) = some (f (xs.getD i.toNat default)) := by
  rw [idx_tnn (by rw [List.length_map]; exact h), List.getElem?_map, List.getElem?_eq_getElem (by omega : i.toNat < xs.length)]
  simp [List.getD_eq_getElem?_getD, List.getElem?_eq_getElem (by omega : i.toNat < xs.length)]
theorem idx_lmap {α : Type} [Inhabited α] {f : α → D} {xs : List α} {i : Int} (h : 0 ≤ i ∧ i < xs.length) : idxD (.lst (xs.map f)) (.int i) = some (f (xs.getD i.toNat default)) := by
  rw [idx_lnn (by rw [List.length_map]; exact h), List.getElem?_map, List.getElem?_eq_getElem (by omega : i.toNat < xs.length)]
  simp [List.getD_eq_getElem?_getD, List.getElem?_eq_getElem (by omega : i.toNat < xs.length)]
/-! comprehensions -/
section
variable {β : Type} {F : Fns} {env : En} {e ifs : T} {p : Pt} {its xs : List D} {c : Cells} {K : W → Cells → Res β} {R : Res β}
theorem lc_fm (g : D → Option D) (hn : xs.length ≤ 16777216) (turn : ∀ x ∈ xs, ∀ K : Option D → Cells → Res β, cB p x env c (kLt1 F e ifs K) = K (g x) c) (h : K (.fl (xs.filterMap g)) c = R) :
    cLc F env e p ifs none its xs c [] K = R := by
  rw [cLc_pure g (fun _ => rfl) (by simpa using hn) turn]; exact h
theorem lc_map (g : D → D) (hn : xs.length ≤ 16777216) (turn : ∀ x ∈ xs, ∀ K : Option D → Cells → Res β, cB p x env c (kLt1 F e ifs K) = K (some (g x)) c) (h : K (.fl (xs.map g)) c = R) :
    cLc F env e p ifs none its xs c [] K = R :=
  lc_fm (fun x => some (g x)) hn turn (by rw [List.filterMap_eq_map']; exact h)
/-- over a typed list, to a typed list -/
theorem lc_maps {α γ : Type} {f : α → D} {f' : γ → D} {as : List α} (g : α → γ) (hn : as.length ≤ 16777216) (turn : ∀ x ∈ as, ∀ K : Option D → Cells → Res β, cB p (f x) env c (kLt1 F e ifs K) = K (some (f' (g x))) c) (h : K (.fl ((as.map g).map f')) c = R) :
    cLc F env e p ifs none its (as.map f) c [] K = R := by
  have key : ∀ (as : List α) (acc : List D), acc.length + as.length ≤ 16777216 → (∀ x ∈ as, ∀ K : Option D → Cells → Res β, cB p (f x) env c (kLt1 F e ifs K) = K (some (f' (g x))) c) →
      cLc F env e p ifs none its (as.map f) c acc K = K (.fl (acc ++ (as.map g).map f')) c := by
    intro as
    induction as with
    | nil => intro acc _ _; rw [List.map_nil, cLc_nil]; simp [ckd_none, unl_none]
    | cons a as ih =>
      intro acc hn ht
      rw [List.map_cons, cLc_cons]
      have hx := ht a List.mem_cons_self (fun o c => match o with
        | some y => if acc.length < LINE then cLc F env e p ifs none its (as.map f) c (acc ++ [y]) K else .no
        | none => cLc F env e p ifs none its (as.map f) c acc K)
      refine Eq.trans (Eq.trans ?_ hx) ?_
      · exact (kLc_turn ..).symm
      · simp only [List.length_cons] at hn
        dsimp only
        rw [if_pos (by show acc.length < 16777216; omega), ih _ (by simp; omega) fun y hy => ht y (List.mem_cons_of_mem _ hy)]
        simp
  rw [key as [] (by simpa using hn) turn]
  simpa using h
theorem lc_fms {α γ : Type} {f : α → D} {f' : γ → D} {as : List α} (g : α → Option γ) (hn : as.length ≤ 16777216) (turn : ∀ x ∈ as, ∀ K : Option D → Cells → Res β, cB p (f x) env c (kLt1 F e ifs K) = K ((g x).map f') c) (h : K (.fl ((as.filterMap g).map f')) c = R) :
    cLc F env e p ifs none its (as.map f) c [] K = R := by
  have key : ∀ (as : List α) (acc : List D), acc.length + as.length ≤ 16777216 → (∀ x ∈ as, ∀ K : Option D → Cells → Res β, cB p (f x) env c (kLt1 F e ifs K) = K ((g x).map f') c) →
      cLc F env e p ifs none its (as.map f) c acc K = K (.fl (acc ++ (as.filterMap g).map f')) c := by
    intro as
    induction as with
    | nil => intro acc _ _; rw [List.map_nil, cLc_nil]; simp [ckd_none, unl_none]
    | cons a as ih =>
      intro acc hn ht
      rw [List.map_cons, cLc_cons]
      have hx := ht a List.mem_cons_self (fun o c => match o with
        | some y => if acc.length < LINE then cLc F env e p ifs none its (as.map f) c (acc ++ [y]) K else .no
        | none => cLc F env e p ifs none its (as.map f) c acc K)
      refine Eq.trans (Eq.trans ?_ hx) ?_
      · exact (kLc_turn ..).symm
      · simp only [List.length_cons] at hn
        cases hg : g a with
        | none =>
          dsimp only [Option.map]
          rw [ih _ (by omega) fun y hy => ht y (List.mem_cons_of_mem _ hy), List.filterMap_cons_none hg]
        | some y =>
          dsimp only [Option.map]
          rw [if_pos (by show acc.length < 16777216; omega), ih _ (by simp; omega) fun y hy => ht y (List.mem_cons_of_mem _ hy), List.filterMap_cons_some hg]
          simp
  rw [key as [] (by simpa using hn) turn]
  simpa using h
end
theorem D.py_inj_eq {x y : D} (h : x = y) : D.eq x y = true := by subst h; exact D.eq_rfl _
end Lf
end

section
set_option maxHeartbeats 4000000
namespace Lf
open PySem
/-! ### the source of numbers -/
structure Tap where
  cells : List Int
  spot : Int
  rest : Int
  calls : Int
def Tap.k (t : Tap) : List (D × D) := [(.str "cells", .lst (t.cells.map .int)), (.str "spot", .int t.spot), (.str "rest", .int t.rest), (.str "calls", .int t.calls)]
def Tap.c (t : Tap) : Cell := .dct t.k
variable (t : Tap) (x : Int)
theorem tap_len : t.k.length = 4 := rfl
theorem tap_cells : dGet t.k (.str "cells") = some (.lst (t.cells.map .int)) := dGet_hit
theorem tap_spot : dGet t.k (.str "spot") = some (.int t.spot) := (dGet_miss (by decide +kernel)).trans dGet_hit
theorem tap_rest : dGet t.k (.str "rest") = some (.int t.rest) := (dGet_miss (by decide +kernel)).trans ((dGet_miss (by decide +kernel)).trans dGet_hit)
theorem tap_calls : dGet t.k (.str "calls") = some (.int t.calls) := (dGet_miss (by decide +kernel)).trans ((dGet_miss (by decide +kernel)).trans ((dGet_miss (by decide +kernel)).trans dGet_hit))
theorem put_spot : dPut t.k (.str "spot") (.int x) = Tap.k { t with spot := x } := by kernel_rfl
theorem put_rest : dPut t.k (.str "rest") (.int x) = Tap.k { t with rest := x } := by kernel_rfl
theorem put_calls : dPut t.k (.str "calls") (.int x) = Tap.k { t with calls := x } := by kernel_rfl
def drawn (z d m : Int) : Int := ((z % 2147483629 + 6007 * d + 11) ^ 5 % 2147483647 + 4099 * d * d) ^ 5 % 2147483587 / 32 % m
def Tap.cell (t : Tap) : Int := if 0 < t.cells.length then t.cells.getD (t.spot % t.cells.length).toNat 0 else 5
/-- a number below m -/
def Tap.val (t : Tap) (m : Int) : Int := if 0 < t.rest then t.rest % m else if t.spot < t.cells.length ∧ 10 ^ 18 ≤ t.cell then t.cell % m else drawn t.cell (t.calls + 1) m
/-- what is left behind it -/
def Tap.nxt (t : Tap) (m : Int) : Tap := if 0 < t.rest then ⟨t.cells, t.spot, t.rest / m, t.calls + 1⟩ else if t.spot < t.cells.length ∧ 10 ^ 18 ≤ t.cell then ⟨t.cells, t.spot + 1, t.cell / m, t.calls + 1⟩ else ⟨t.cells, t.spot + 1, t.rest, t.calls + 1⟩
variable {t x} {m : Int}
theorem Tap.val_lo (h : 0 < m) : 0 ≤ t.val m := by
  unfold Tap.val drawn
  split
  · exact Int.emod_nonneg _ (by omega)
  · split <;> exact Int.emod_nonneg _ (by omega)
theorem Tap.val_hi (h : 0 < m) : t.val m < m := by
  unfold Tap.val drawn
  split
  · exact Int.emod_lt_of_pos _ h
  · split <;> exact Int.emod_lt_of_pos _ h
theorem Tap.nxt_calls : (t.nxt m).calls = t.calls + 1 := by
  unfold Tap.nxt
  split
  · rfl
  · split <;> rfl
def bTake : S := (.cons (.asg (.nm 2) (.bin .Add (.idx (.var 0) (.str "calls")) (.int 1)))
 (.cons (.asg (.ix (.var 0) (.str "calls")) (.var 2))
 (.cons (.ife (.cmp .Gt (.idx (.var 0) (.str "rest")) (.int 0))
 (.cons (.asg (.nm 7) (.bin .Mod (.idx (.var 0) (.str "rest")) (.var 1)))
 (.cons (.asg (.ix (.var 0) (.str "rest")) (.bin .FloorDiv (.idx (.var 0) (.str "rest")) (.var 1)))
 (.cons (.ret (.var 7))
 .nil)))
 .nil)
 (.cons (.asg (.nm 3) (.idx (.var 0) (.str "spot")))
 (.cons (.asg (.ix (.var 0) (.str "spot")) (.bin .Add (.var 3) (.int 1)))
 (.cons (.asg (.nm 4) (.idx (.var 0) (.str "cells")))
 (.cons (.asg (.nm 5) (.ife (.cmp .Gt (.bi .len (.cons (.var 4) .nil)) (.int 0)) (.idx (.var 4) (.bin .Mod (.var 3) (.bi .len (.cons (.var 4) .nil)))) (.int 5)))
 (.cons (.ife (.band (.cmp .Lt (.var 3) (.bi .len (.cons (.var 4) .nil))) (.cmp .GtE (.var 5) (.bin .Pow (.int 10) (.int 18))))
 (.cons (.asg (.ix (.var 0) (.str "rest")) (.bin .FloorDiv (.var 5) (.var 1)))
 (.cons (.ret (.bin .Mod (.var 5) (.var 1)))
 .nil))
 .nil)
 (.cons (.asg (.nm 6) (.bin .Mod (.bin .Pow (.bin .Add (.bin .Add (.bin .Mod (.var 5) (.int 2147483629)) (.bin .Mult (.int 6007) (.var 2))) (.int 11)) (.int 5)) (.int 2147483647)))
 (.cons (.ret (.bin .Mod (.bin .FloorDiv (.bin .Mod (.bin .Pow (.bin .Add (.var 6) (.bin .Mult (.bin .Mult (.int 4099) (.var 2)) (.var 2))) (.int 5)) (.int 2147483587)) (.int 32)) (.var 1)))
 .nil))))))))))
def fTake : Fd := ⟨2, 8, bTake⟩
local macro_rules | `(tactic| walk_at "lf") => `(tactic| simp -implicitDefEqProofs (disch := (first | with_reducible assumption | omega | decide +kernel | (simp only [List.length_cons, List.length_nil, List.length_map, List.length_append, List.length_take, List.length_drop, List.length_reverse, tap_len]; omega) | exact of_decide_eq_true (id rfl) | fail)) only [↓cE_non, ↓cE_bl, ↓cE_int, ↓cE_str, ↓cE_var0, ↓cE_varS, ↓cE_glb, ↓cE_bin, ↓kBin1_eq, ↓cE_neg, ↓kNeg_int, ↓cE_rev, ↓kRev_tup, ↓kRev_lst, ↓kRev_fl, ↓cE_isi, ↓kIsi_d, ↓kIsi_fl, ↓r_isN, ↓r_isNN, ↓r_lts, ↓r_les, ↓r_gts, ↓r_ges, ↓r_addbi, ↓r_strb, ↓r_strs, ↓kMe1_supp, ↓r_in_sl, ↓r_in_st, ↓r_ni_sl, ↓r_ni_st, ↓r_in_it, ↓r_ni_it, ↓cE_unot, ↓kNot_bl, ↓cE_band, ↓cE_bor, ↓cE_cmp, ↓kCmp1_eq, ↓cE_ife, ↓cE_tup, ↓cE_lst, ↓kTup0, ↓kTup1, ↓kTup2, ↓kTup3, ↓kTup4, ↓kTup5, ↓kLst0, ↓kLst1, ↓kLst2, ↓kLst3, ↓kLst4, ↓kLst5, ↓cE_call, ↓cE_bi, ↓cE_idx, ↓kIdx1_eq, ↓cE_slc, ↓kSlc1_eq, ↓kSlc2_eq, ↓kSlc3_lst, ↓kSlc3_fl, ↓kSlc3_tup, ↓kSlc3_sq, ↓cE_meth, ↓cE_dct, ↓cE_mkd, ↓kMkd_lst, ↓cE_lzip, ↓cL_nil, ↓cL_cons, ↓kRow_eq, ↓kCons_d, ↓kCons_ref, ↓kCons_fl, ↓kCons_sq, ↓cO_nop, ↓cO_sb, ↓kSb_int, ↓cP_nil, ↓cP_cons, ↓kPr1_d, ↓kPr2_d, ↓kPr2_fl, ↓kPr3_s, ↓kPr3_i, ↓cT_nil, ↓cT_cons, ↓cI_rng, ↓cI_rng2, ↓cI_zip, ↓kZip_tt, ↓kZip_ll, ↓cI_it, ↓kIt_lst, ↓kIt_tup, ↓kIt_fl, ↓kIt_str, ↓ckd_none, ↓unl_none, ↓cN_0, ↓cN_S, ↓kEn_eq, ↓cB_nm, ↓cB_tup, ↓cBs_nil, ↓cBs_cons, ↓kBs_eq, ↓cE_lc, ↓kLc_eq, ↓kLt1_eq, ↓kLt3_d, ↓kLt3_fl, ↓cG_d, ↓cG_ref, ↓cG_sq, ↓cG_fl, ↓cG_fd, ↓cA_d, ↓cA_ref, ↓cA_fl, ↓cA_fd, ↓cG_pt, ↓cG_unl, ↓cG_star, ↓cG_ix, ↓cG_ixl, ↓kIx1_eq, ↓cS_asg, ↓kAsg_eq, ↓kNx_eq, ↓cS_par, ↓kPar_eq, ↓cR_nil, ↓cR_cons, ↓kRw_nd, ↓kRw_nf, ↓kRw_nr, ↓kRw_ad, ↓kRw_af, ↓kRw_ar, ↓cW_nil, ↓cW_nd, ↓cW_nr, ↓cW_ad, ↓cW_ar, ↓cW_af, ↓kWs_eq, ↓cS_ret, ↓kRt_eq, ↓cS_ex, ↓kEx_eq, ↓cS_if, ↓cS_cons, ↓cS_nil, ↓cS_brk, ↓cS_cnt, ↓cS_pass, ↓kSeq_nx, ↓kSeq_ret, ↓kSeq_bk, ↓kSeq_ct, ↓cS_for, ↓kFor_eq, ↓kBody_eq, ↓kTurn_nx, ↓kTurn_ct, ↓kTurn_bk, ↓kTurn_ret, ↓cS_whl, ↓kWTurn_nx, ↓kWTurn_ct, ↓kWTurn_bk, ↓kWTurn_ret, ↓kFin_ret, ↓kFin_nx, ↓finish_d, ↓finish_fl, ↓finish_fd, ↓finish_sq, ↓r_add, ↓r_addb, ↓r_sub, ↓r_mul, ↓r_div, ↓r_mod, ↓r_pow, ↓r_shl, ↓r_shr, ↓r_and, ↓r_adds, ↓r_addt, ↓r_addl, ↓r_eqi, ↓r_nei, ↓r_eqs, ↓r_nes, ↓r_eqt0, ↓r_net0, ↓r_eql0, ↓r_nel0, ↓r_lt, ↓r_le, ↓r_gt, ↓r_ge, ↓r_lenl, ↓r_lent, ↓r_lens, ↓r_tupl, ↓r_tupt, ↓r_lisl, ↓r_list, ↓r_inti, ↓r_abs, ↓r_max, ↓r_min, ↓t2_0, ↓t2_1, ↓t2_2, ↓t2_3, ↓t2_4, ↓l2_0, ↓l2_1, ↓l2_2, ↓l2_3, ↓kRng_int, ↓kRng2_int, ↓ckd_some, ↓unl_t, ↓unl_f, ↓oK_some, ↓oC_some, ↓oP_some, ↓oW_some, ↓kRet_ok, ↓kLc2_t, ↓kLc2_f, ↓vIdx_dct, ↓vPt_some, ↓vUn_some, ↓kLc3_d, ↓kLc3_fl, ↓kIf_t, ↓kIf_f, ↓kIf_p, ↓kIf_n, ↓kIte_t, ↓kIte_f, ↓kIte_p, ↓kIte_n, ↓kAnd_t, ↓kAnd_f, ↓kAnd_p, ↓kAnd_n, ↓kOr_t, ↓kOr_f, ↓kOr_p, ↓kOr_n, ↓kTst_t, ↓kTst_f, ↓kTst_p, ↓kTst_n, ↓kWTest_p, ↓kWTest_n, ↓kLt2_t, ↓kLt2_f, ↓kLt2_p, ↓kCall_0, ↓kCall_r0, ↓kCall_r1, ↓kCall_r2, ↓kR0_d, ↓kR0_fl, ↓kR0_fd, ↓kR1_d, ↓kR1_fl, ↓kR1_fd, ↓kR1_ref, ↓m_pop1, ↓m_pop0, ↓m_app, ↓vTy_lst, ↓kMe1_pop, ↓kMe1_app, ↓kMe1_ext, ↓kMe1_idx, ↓m_ext, ↓bin_fl1, ↓bin_fl2, ↓vBin_dd, ↓cmp_fl1, ↓cmp_fl2, ↓vCmp_dd, ↓vBi_1, ↓idx_fl, ↓idx_fd, ↓vIdx_dd, ↓vSlc_d, ↓if_fl, ↓st21, ↓st32, ↓r_intt, ↓r_intf, ↓r_intp, ↓r_zipt, ↓if_pos, ↓if_neg, ↓reduceIte, kSlc3_str, r_stri, m_supp, isD_tup_non, isD_tup_bl, isD_tup_int, isD_tup_str, isD_tup_tup, isD_tup_lst, isD_lst_non, isD_lst_bl, isD_lst_int, isD_lst_str, isD_lst_tup, isD_lst_lst, isD_str_non, isD_str_bl, isD_str_int, isD_str_str, isD_str_tup, isD_str_lst, isD_int_non, isD_int_bl, isD_int_int, isD_int_str, isD_int_tup, isD_int_lst, isD_bl_non, isD_bl_bl, isD_bl_int, isD_bl_str, isD_bl_tup, isD_bl_lst, isD_dct_non, isD_dct_bl, isD_dct_int, isD_dct_str, isD_dct_tup, isD_dct_lst, isN_non, isN_bl, isN_int, isN_str, isN_tup, isN_lst, r_intb, bin_ref1, bin_ref2, cmp_ref1, cmp_ref2, bi_ref, idx_ref, slc_ref, r_eq, r_ne, kAnd_bl, kOr_bl, kIte_bl, kTst_bl, kIf_bl, kWTest_bl, kLt2_eq, kNot_eq, kAnd_eq, kOr_eq, kIte_eq, kTup_eq, kLst_eq, kIdx2_dd, vPop_lst, vPop0_lst, vApp_lst, emp_snoc, vExt_lst, m_tidx, idx_tmap, idx_lmap, kDct_eq, kLzip_eq, kTst_eq, kIt_ref, vWk_lst, vWk_lk, kIf_eq, kWTest_eq, kIx2_d, kRw_eq, kGl_some, finish_old, finish_new, vFin_lst, vFin_dct, cLc_nil, cLc_cons, kLc1_eq, kLc2_eq, cFor_nil, cFor_cons, view_d, view_fl, view_ref, vwC_lst, vwC_lk, vwC_dct, viewD_ref, viewD_d, viewD_fl, viewD_fd, vwD_lst, vwD_lk, vwD_dct, views_nil, views_cons, cnsO_some, frzs_nil, frzs_d, cnsF_some, putIx_ref, pIx_s, pIx_i, pIx_l, dGet_hit, dGet_miss, renW_self, renW_d, renW_sq, truW, tup_ok, lst_ok, List.map_cons, List.map_nil, List.all_cons, List.all_nil, List.contains_cons, List.contains_nil, List.elem_nil, List.getD_cons_zero, List.getD_cons_succ, List.getElem?_cons_zero, List.getElem?_cons_succ, List.getElem?_nil, List.set_cons_zero, List.set_cons_succ, List.length_cons, List.length_nil, List.nil_append, List.cons_append, List.append_nil, List.take_zero, List.take_succ_cons, List.take_nil, Bool.true_and, Bool.and_true, Bool.false_and, Bool.and_false, Bool.not_true, Bool.not_false, Bool.true_or, Bool.or_true, decide_eq_true_eq, Bool.not_eq_true', decide_eq_false_iff_not, reduceCtorEq, if_true, if_false, ite_true, ite_false, Bool.false_eq_true, Option.map_some, List.idxOf_cons, beq_self_eq_true, Nat.zero_add, cond_true, cond_false, D.truO, D.tru, List.isEmpty_cons, List.isEmpty_nil, Int.toNat_zero, List.length_map, clearO_nil, clearO_cons, Option.map_none, star_t, star_l, cut_pre, cut_suf, cut_mid, cut_all, take_map, drop_map, b2i_t, b2i_f, cut_tail, drop_one, toNat_1, toNat_2, toNat_3, List.drop_zero, cE_non, cE_bl, cE_int, cE_str, cE_var0, cE_varS, cE_glb, cE_bin, kBin1_eq, cE_neg, kNeg_int, cE_rev, kRev_tup, kRev_lst, kRev_fl, cE_isi, kIsi_d, kIsi_fl, r_isN, r_isNN, r_lts, r_les, r_gts, r_ges, r_addbi, r_strb, r_strs, kMe1_supp, r_in_sl, r_in_st, r_ni_sl, r_ni_st, r_in_it, r_ni_it, cE_unot, kNot_bl, cE_band, cE_bor, cE_cmp, kCmp1_eq, cE_ife, cE_tup, cE_lst, kTup0, kTup1, kTup2, kTup3, kTup4, kTup5, kLst0, kLst1, kLst2, kLst3, kLst4, kLst5, cE_call, cE_bi, cE_idx, kIdx1_eq, cE_slc, kSlc1_eq, kSlc2_eq, kSlc3_lst, kSlc3_fl, kSlc3_tup, kSlc3_sq, cE_meth, cE_dct, cE_mkd, kMkd_lst, cE_lzip, cL_nil, cL_cons, kRow_eq, kCons_d, kCons_ref, kCons_fl, kCons_sq, cO_nop, cO_sb, kSb_int, cP_nil, cP_cons, kPr1_d, kPr2_d, kPr2_fl, kPr3_s, kPr3_i, cT_nil, cT_cons, cI_rng, cI_rng2, cI_zip, kZip_tt, kZip_ll, cI_it, kIt_lst, kIt_tup, kIt_fl, kIt_str, ckd_none, unl_none, cN_0, cN_S, kEn_eq, cB_nm, cB_tup, cBs_nil, cBs_cons, kBs_eq, cE_lc, kLc_eq, kLt1_eq, kLt3_d, kLt3_fl, cG_d, cG_ref, cG_sq, cG_fl, cG_fd, cA_d, cA_ref, cA_fl, cA_fd, cG_pt, cG_unl, cG_star, cG_ix, cG_ixl, kIx1_eq, cS_asg, kAsg_eq, kNx_eq, cS_par, kPar_eq, cR_nil, cR_cons, kRw_nd, kRw_nf, kRw_nr, kRw_ad, kRw_af, kRw_ar, cW_nil, cW_nd, cW_nr, cW_ad, cW_ar, cW_af, kWs_eq, cS_ret, kRt_eq, cS_ex, kEx_eq, cS_if, cS_cons, cS_nil, cS_brk, cS_cnt, cS_pass, kSeq_nx, kSeq_ret, kSeq_bk, kSeq_ct, cS_for, kFor_eq, kBody_eq, kTurn_nx, kTurn_ct, kTurn_bk, kTurn_ret, cS_whl, kWTurn_nx, kWTurn_ct, kWTurn_bk, kWTurn_ret, kFin_ret, kFin_nx, finish_d, finish_fl, finish_fd, finish_sq, r_add, r_addb, r_sub, r_mul, r_div, r_mod, r_pow, r_shl, r_shr, r_and, r_adds, r_addt, r_addl, r_eqi, r_nei, r_eqs, r_nes, r_eqt0, r_net0, r_eql0, r_nel0, r_lt, r_le, r_gt, r_ge, r_lenl, r_lent, r_lens, r_tupl, r_tupt, r_lisl, r_list, r_inti, r_abs, r_max, r_min, t2_0, t2_1, t2_2, t2_3, t2_4, l2_0, l2_1, l2_2, l2_3, kRng_int, kRng2_int, ckd_some, unl_t, unl_f, oK_some, oC_some, oP_some, oW_some, kRet_ok, kLc2_t, kLc2_f, vIdx_dct, vPt_some, vUn_some, kLc3_d, kLc3_fl, kIf_t, kIf_f, kIf_p, kIf_n, kIte_t, kIte_f, kIte_p, kIte_n, kAnd_t, kAnd_f, kAnd_p, kAnd_n, kOr_t, kOr_f, kOr_p, kOr_n, kTst_t, kTst_f, kTst_p, kTst_n, kWTest_p, kWTest_n, kLt2_t, kLt2_f, kLt2_p, kCall_0, kCall_r0, kCall_r1, kCall_r2, kR0_d, kR0_fl, kR0_fd, kR1_d, kR1_fl, kR1_fd, kR1_ref, m_pop1, m_pop0, m_app, vTy_lst, kMe1_pop, kMe1_app, kMe1_ext, kMe1_idx, m_ext, bin_fl1, bin_fl2, vBin_dd, cmp_fl1, cmp_fl2, vCmp_dd, vBi_1, idx_fl, idx_fd, vIdx_dd, vSlc_d, if_fl, st21, st32, r_intt, r_intf, r_intp, r_zipt, tap_cells, tap_spot, tap_rest, tap_calls, put_spot, put_rest, put_calls])
local macro_rules | `(tactic| walk_at "lfs") => `(tactic| simp -implicitDefEqProofs (disch := (first | with_reducible assumption | omega | decide +kernel | (simp only [List.length_cons, List.length_nil, List.length_map, List.length_append, List.length_take, List.length_drop, List.length_reverse, tap_len]; omega) | exact of_decide_eq_true (id rfl) | fail)) only [↓cE_non, ↓cE_bl, ↓cE_int, ↓cE_str, ↓cE_var0, ↓cE_varS, ↓cE_glb, ↓cE_bin, ↓kBin1_eq, ↓cE_neg, ↓kNeg_int, ↓cE_rev, ↓kRev_tup, ↓kRev_lst, ↓kRev_fl, ↓cE_isi, ↓kIsi_d, ↓kIsi_fl, ↓r_isN, ↓r_isNN, ↓r_lts, ↓r_les, ↓r_gts, ↓r_ges, ↓r_addbi, ↓r_strb, ↓r_strs, ↓kMe1_supp, ↓r_in_sl, ↓r_in_st, ↓r_ni_sl, ↓r_ni_st, ↓r_in_it, ↓r_ni_it, ↓cE_unot, ↓kNot_bl, ↓cE_band, ↓cE_bor, ↓cE_cmp, ↓kCmp1_eq, ↓cE_ife, ↓cE_tup, ↓cE_lst, ↓kTup0, ↓kTup1, ↓kTup2, ↓kTup3, ↓kTup4, ↓kTup5, ↓kLst0, ↓kLst1, ↓kLst2, ↓kLst3, ↓kLst4, ↓kLst5, ↓cE_call, ↓cE_bi, ↓cE_idx, ↓kIdx1_eq, ↓cE_slc, ↓kSlc1_eq, ↓kSlc2_eq, ↓kSlc3_lst, ↓kSlc3_fl, ↓kSlc3_tup, ↓kSlc3_sq, ↓cE_meth, ↓cE_dct, ↓cE_mkd, ↓kMkd_lst, ↓cE_lzip, ↓cL_nil, ↓cL_cons, ↓kRow_eq, ↓kCons_d, ↓kCons_ref, ↓kCons_fl, ↓kCons_sq, ↓cO_nop, ↓cO_sb, ↓kSb_int, ↓cP_nil, ↓cP_cons, ↓kPr1_d, ↓kPr2_d, ↓kPr2_fl, ↓kPr3_s, ↓kPr3_i, ↓cT_nil, ↓cT_cons, ↓cI_rng, ↓cI_rng2, ↓cI_zip, ↓kZip_tt, ↓kZip_ll, ↓cI_it, ↓kIt_lst, ↓kIt_tup, ↓kIt_fl, ↓kIt_str, ↓ckd_none, ↓unl_none, ↓cN_0, ↓cN_S, ↓kEn_eq, ↓cB_nm, ↓cB_tup, ↓cBs_nil, ↓cBs_cons, ↓kBs_eq, ↓cE_lc, ↓kLc_eq, ↓kLt1_eq, ↓kLt3_d, ↓kLt3_fl, ↓cG_d, ↓cG_ref, ↓cG_sq, ↓cG_fl, ↓cG_fd, ↓cA_d, ↓cA_ref, ↓cA_fl, ↓cA_fd, ↓cG_pt, ↓cG_unl, ↓cG_star, ↓cG_ix, ↓cG_ixl, ↓kIx1_eq, ↓cS_asg, ↓kAsg_eq, ↓kNx_eq, ↓cS_par, ↓kPar_eq, ↓cR_nil, ↓cR_cons, ↓kRw_nd, ↓kRw_nf, ↓kRw_nr, ↓kRw_ad, ↓kRw_af, ↓kRw_ar, ↓cW_nil, ↓cW_nd, ↓cW_nr, ↓cW_ad, ↓cW_ar, ↓cW_af, ↓kWs_eq, ↓cS_ret, ↓kRt_eq, ↓cS_ex, ↓kEx_eq, ↓cS_if, ↓cS_cons, ↓cS_nil, ↓cS_brk, ↓cS_cnt, ↓cS_pass, ↓kSeq_nx, ↓kSeq_ret, ↓kSeq_bk, ↓kSeq_ct, ↓cS_for, ↓kFor_eq, ↓kBody_eq, ↓kTurn_nx, ↓kTurn_ct, ↓kTurn_bk, ↓kTurn_ret, ↓cS_whl, ↓kWTurn_nx, ↓kWTurn_ct, ↓kWTurn_bk, ↓kWTurn_ret, ↓kFin_ret, ↓kFin_nx, ↓finish_d, ↓finish_fl, ↓finish_fd, ↓finish_sq, ↓r_add, ↓r_addb, ↓r_sub, ↓r_mul, ↓r_div, ↓r_mod, ↓r_pow, ↓r_shl, ↓r_shr, ↓r_and, ↓r_adds, ↓r_addt, ↓r_addl, ↓r_eqi, ↓r_nei, ↓r_eqs, ↓r_nes, ↓r_eqt0, ↓r_net0, ↓r_eql0, ↓r_nel0, ↓r_lt, ↓r_le, ↓r_gt, ↓r_ge, ↓r_lenl, ↓r_lent, ↓r_lens, ↓r_tupl, ↓r_tupt, ↓r_lisl, ↓r_list, ↓r_inti, ↓r_abs, ↓r_max, ↓r_min, ↓t2_0, ↓t2_1, ↓t2_2, ↓t2_3, ↓t2_4, ↓l2_0, ↓l2_1, ↓l2_2, ↓l2_3, ↓kRng_int, ↓kRng2_int, ↓ckd_some, ↓unl_t, ↓unl_f, ↓oK_some, ↓oC_some, ↓oP_some, ↓oW_some, ↓kRet_ok, ↓kLc2_t, ↓kLc2_f, ↓vIdx_dct, ↓vPt_some, ↓vUn_some, ↓kLc3_d, ↓kLc3_fl, ↓kIf_t, ↓kIf_f, ↓kIf_p, ↓kIf_n, ↓kIte_t, ↓kIte_f, ↓kIte_p, ↓kIte_n, ↓kAnd_t, ↓kAnd_f, ↓kAnd_p, ↓kAnd_n, ↓kOr_t, ↓kOr_f, ↓kOr_p, ↓kOr_n, ↓kTst_t, ↓kTst_f, ↓kTst_p, ↓kTst_n, ↓kWTest_p, ↓kWTest_n, ↓kLt2_t, ↓kLt2_f, ↓kLt2_p, ↓kCall_0, ↓kCall_r0, ↓kCall_r1, ↓kCall_r2, ↓kR0_d, ↓kR0_fl, ↓kR0_fd, ↓kR1_d, ↓kR1_fl, ↓kR1_fd, ↓kR1_ref, ↓m_pop1, ↓m_pop0, ↓m_app, ↓vTy_lst, ↓kMe1_pop, ↓kMe1_app, ↓kMe1_ext, ↓kMe1_idx, ↓m_ext, ↓bin_fl1, ↓bin_fl2, ↓vBin_dd, ↓cmp_fl1, ↓cmp_fl2, ↓vCmp_dd, ↓vBi_1, ↓idx_fl, ↓idx_fd, ↓vIdx_dd, ↓vSlc_d, ↓if_fl, ↓st21, ↓st32, ↓r_intt, ↓r_intf, ↓r_intp, ↓r_zipt, ↓if_pos, ↓if_neg, ↓reduceIte, kSlc3_str, r_stri, m_supp, isD_tup_non, isD_tup_bl, isD_tup_int, isD_tup_str, isD_tup_tup, isD_tup_lst, isD_lst_non, isD_lst_bl, isD_lst_int, isD_lst_str, isD_lst_tup, isD_lst_lst, isD_str_non, isD_str_bl, isD_str_int, isD_str_str, isD_str_tup, isD_str_lst, isD_int_non, isD_int_bl, isD_int_int, isD_int_str, isD_int_tup, isD_int_lst, isD_bl_non, isD_bl_bl, isD_bl_int, isD_bl_str, isD_bl_tup, isD_bl_lst, isD_dct_non, isD_dct_bl, isD_dct_int, isD_dct_str, isD_dct_tup, isD_dct_lst, isN_non, isN_bl, isN_int, isN_str, isN_tup, isN_lst, r_intb, bin_ref1, bin_ref2, cmp_ref1, cmp_ref2, bi_ref, idx_ref, slc_ref, r_eq, r_ne, kAnd_bl, kOr_bl, kIte_bl, kTst_bl, kIf_bl, kWTest_bl, kLt2_eq, kNot_eq, kAnd_eq, kOr_eq, kIte_eq, kTup_eq, kLst_eq, kIdx2_dd, vPop_lst, vPop0_lst, vApp_lst, emp_snoc, vExt_lst, m_tidx, idx_tmap, idx_lmap, kDct_eq, kLzip_eq, kTst_eq, kIt_ref, vWk_lst, vWk_lk, kIf_eq, kWTest_eq, kIx2_d, kRw_eq, kGl_some, finish_old, finish_new, vFin_lst, vFin_dct, cLc_nil, cLc_cons, kLc1_eq, kLc2_eq, cFor_nil, cFor_cons, view_d, view_fl, view_ref, vwC_lst, vwC_lk, vwC_dct, viewD_ref, viewD_d, viewD_fl, viewD_fd, vwD_lst, vwD_lk, vwD_dct, views_nil, views_cons, cnsO_some, frzs_nil, frzs_d, cnsF_some, putIx_ref, pIx_s, pIx_i, pIx_l, dGet_hit, dGet_miss, renW_self, renW_d, renW_sq, truW, tup_ok, lst_ok, List.map_cons, List.map_nil, List.all_cons, List.all_nil, List.contains_cons, List.contains_nil, List.elem_nil, List.getD_cons_zero, List.getD_cons_succ, List.getElem?_cons_zero, List.getElem?_cons_succ, List.getElem?_nil, List.set_cons_zero, List.set_cons_succ, List.length_cons, List.length_nil, List.nil_append, List.cons_append, List.append_nil, List.take_zero, List.take_succ_cons, List.take_nil, Bool.true_and, Bool.and_true, Bool.false_and, Bool.and_false, Bool.not_true, Bool.not_false, Bool.true_or, Bool.or_true, decide_eq_true_eq, Bool.not_eq_true', decide_eq_false_iff_not, reduceCtorEq, if_true, if_false, ite_true, ite_false, Bool.false_eq_true, Option.map_some, List.idxOf_cons, beq_self_eq_true, Nat.zero_add, cond_true, cond_false, D.truO, D.tru, List.isEmpty_cons, List.isEmpty_nil, Int.toNat_zero, List.length_map, clearO_nil, clearO_cons, Option.map_none, star_t, star_l, cut_pre, cut_suf, cut_mid, cut_all, take_map, drop_map, b2i_t, b2i_f, cut_tail, drop_one, toNat_1, toNat_2, toNat_3, List.drop_zero, cE_non, cE_bl, cE_int, cE_str, cE_var0, cE_varS, cE_glb, cE_bin, kBin1_eq, cE_neg, kNeg_int, cE_rev, kRev_tup, kRev_lst, kRev_fl, cE_isi, kIsi_d, kIsi_fl, r_isN, r_isNN, r_lts, r_les, r_gts, r_ges, r_addbi, r_strb, r_strs, kMe1_supp, r_in_sl, r_in_st, r_ni_sl, r_ni_st, r_in_it, r_ni_it, cE_unot, kNot_bl, cE_band, cE_bor, cE_cmp, kCmp1_eq, cE_ife, cE_tup, cE_lst, kTup0, kTup1, kTup2, kTup3, kTup4, kTup5, kLst0, kLst1, kLst2, kLst3, kLst4, kLst5, cE_call, cE_bi, cE_idx, kIdx1_eq, cE_slc, kSlc1_eq, kSlc2_eq, kSlc3_lst, kSlc3_fl, kSlc3_tup, kSlc3_sq, cE_meth, cE_dct, cE_mkd, kMkd_lst, cE_lzip, cL_nil, cL_cons, kRow_eq, kCons_d, kCons_ref, kCons_fl, kCons_sq, cO_nop, cO_sb, kSb_int, cP_nil, cP_cons, kPr1_d, kPr2_d, kPr2_fl, kPr3_s, kPr3_i, cT_nil, cT_cons, cI_rng, cI_rng2, cI_zip, kZip_tt, kZip_ll, cI_it, kIt_lst, kIt_tup, kIt_fl, kIt_str, ckd_none, unl_none, cN_0, cN_S, kEn_eq, cB_nm, cB_tup, cBs_nil, cBs_cons, kBs_eq, cE_lc, kLc_eq, kLt1_eq, kLt3_d, kLt3_fl, cG_d, cG_ref, cG_sq, cG_fl, cG_fd, cA_d, cA_ref, cA_fl, cA_fd, cG_pt, cG_unl, cG_star, cG_ix, cG_ixl, kIx1_eq, cS_asg, kAsg_eq, kNx_eq, cS_par, kPar_eq, cR_nil, cR_cons, kRw_nd, kRw_nf, kRw_nr, kRw_ad, kRw_af, kRw_ar, cW_nil, cW_nd, cW_nr, cW_ad, cW_ar, cW_af, kWs_eq, cS_ret, kRt_eq, cS_ex, kEx_eq, cS_if, cS_cons, cS_nil, cS_brk, cS_cnt, cS_pass, kSeq_nx, kSeq_ret, kSeq_bk, kSeq_ct, cS_for, kFor_eq, kBody_eq, kTurn_nx, kTurn_ct, kTurn_bk, kTurn_ret, cS_whl, kWTurn_nx, kWTurn_ct, kWTurn_bk, kWTurn_ret, kFin_ret, kFin_nx, finish_d, finish_fl, finish_fd, finish_sq, r_add, r_addb, r_sub, r_mul, r_div, r_mod, r_pow, r_shl, r_shr, r_and, r_adds, r_addt, r_addl, r_eqi, r_nei, r_eqs, r_nes, r_eqt0, r_net0, r_eql0, r_nel0, r_lt, r_le, r_gt, r_ge, r_lenl, r_lent, r_lens, r_tupl, r_tupt, r_lisl, r_list, r_inti, r_abs, r_max, r_min, t2_0, t2_1, t2_2, t2_3, t2_4, l2_0, l2_1, l2_2, l2_3, kRng_int, kRng2_int, ckd_some, unl_t, unl_f, oK_some, oC_some, oP_some, oW_some, kRet_ok, kLc2_t, kLc2_f, vIdx_dct, vPt_some, vUn_some, kLc3_d, kLc3_fl, kIf_t, kIf_f, kIf_p, kIf_n, kIte_t, kIte_f, kIte_p, kIte_n, kAnd_t, kAnd_f, kAnd_p, kAnd_n, kOr_t, kOr_f, kOr_p, kOr_n, kTst_t, kTst_f, kTst_p, kTst_n, kWTest_p, kWTest_n, kLt2_t, kLt2_f, kLt2_p, kCall_0, kCall_r0, kCall_r1, kCall_r2, kR0_d, kR0_fl, kR0_fd, kR1_d, kR1_fl, kR1_fd, kR1_ref, m_pop1, m_pop0, m_app, vTy_lst, kMe1_pop, kMe1_app, kMe1_ext, kMe1_idx, m_ext, bin_fl1, bin_fl2, vBin_dd, cmp_fl1, cmp_fl2, vCmp_dd, vBi_1, idx_fl, idx_fd, vIdx_dd, vSlc_d, if_fl, st21, st32, r_intt, r_intf, r_intp, r_zipt, tap_cells, tap_spot, tap_rest, tap_calls, put_spot, put_rest, put_calls, *])
theorem take_ok {U : Pg} {n i : Nat} (hi : U.fns[i]? = some fTake) (hm : 0 < m ∧ m < 1073741824) (hc : 0 ≤ t.calls ∧ t.calls < 60000000) : callN U (n + 1) i [.ref 0, .d (.int m)] [t.c] = .ok (.d (.int (t.val m)), [(t.nxt m).c]) := by
  rw [run_def hi ⟨rfl, by decide⟩]
  simp only [fTake, bTake, Tap.c, List.map, List.replicate, Nat.reduceSub]
  unfold Tap.val Tap.nxt
  by_cases h1 : 0 < t.rest
  · simp only [if_pos h1]
    walk_at "lf"
  · simp only [if_neg h1]
    have lit : (OfNat.ofNat 5 : Nat) ≤ 1000000 := by decide
    have p1 : ∀ z : Int, 0 ≤ z % 2147483629 ∧ z % 2147483629 < 2147483629 := fun z => by omega
    have p2 : ∀ z : Int, 0 ≤ z % 2147483647 ∧ z % 2147483647 < 2147483647 := fun z => by omega
    have q : 0 ≤ 4099 * (t.calls + 1) * (t.calls + 1) ∧ 4099 * (t.calls + 1) * (t.calls + 1) ≤ 4099 * 60000000 * 60000000 :=
      ⟨Int.mul_nonneg (by omega) (by omega), Int.mul_le_mul (by omega) (by omega) (by omega) (by omega)⟩
    have c1 : ∀ z : Int, (OfNat.ofNat 5 : Nat) ≤ 1000000 ∧ (z % 2147483629 + 6007 * (t.calls + 1) + 11).natAbs < 18446744073709551616 := fun z => ⟨lit, by have := p1 z; omega⟩
    have c3 : ∀ z : Int, (OfNat.ofNat 5 : Nat) ≤ 1000000 ∧ (z % 2147483647 + 4099 * (t.calls + 1) * (t.calls + 1)).natAbs < 18446744073709551616 := fun z => ⟨lit, by have := p2 z; generalize 4099 * (t.calls + 1) * (t.calls + 1) = y at *; omega⟩
    by_cases h2 : 0 < (t.cells.length : Int)
    · have a0 : 0 ≤ t.spot % (t.cells.length : Int) := Int.emod_nonneg _ (by omega)
      have a1 : t.spot % (t.cells.length : Int) < t.cells.length := Int.emod_lt_of_pos _ h2
      have a2 : 0 ≤ t.spot % (t.cells.length : Int) ∧ t.spot % (t.cells.length : Int) < ((t.cells.map D.int).length : Int) := ⟨a0, by rw [List.length_map]; exact a1⟩
      have e : (t.cells.map D.int)[(t.spot % (t.cells.length : Int)).toNat]? = some (.int t.cell) := by
        have : (t.spot % (t.cells.length : Int)).toNat < t.cells.length := by omega
        rw [List.getElem?_map, List.getElem?_eq_getElem this]
        simp only [Tap.cell]
        rw [if_pos (by omega), List.getD_eq_getElem?_getD, List.getElem?_eq_getElem this]; rfl
      have e' := (idx_lnn a2).trans e
      have c1 := c1 t.cell
      have c3 := c3 ((t.cell % 2147483629 + 6007 * (t.calls + 1) + 11) ^ 5)
      by_cases h3 : t.spot < (t.cells.length : Int)
      · by_cases h4 : 10 ^ 18 ≤ t.cell
        · simp only [if_pos (And.intro h3 h4)]
          walk_at "lfs"
        · simp only [if_neg (fun h => h4 h.2 : ¬ (t.spot < (t.cells.length : Int) ∧ 10 ^ 18 ≤ t.cell)), drawn]
          walk_at "lfs"
      · simp only [if_neg (fun h => h3 h.1 : ¬ (t.spot < (t.cells.length : Int) ∧ 10 ^ 18 ≤ t.cell)), drawn]
        walk_at "lfs"
    · have e : t.cell = 5 := by unfold Tap.cell; rw [if_neg (by omega)]
      have c1 := c1 5
      have c3 := c3 ((5 % 2147483629 + 6007 * (t.calls + 1) + 11) ^ 5)
      by_cases h3 : t.spot < (t.cells.length : Int)
      · rw [if_neg (fun h => absurd h.2 (by rw [e]; decide) : ¬ (t.spot < (t.cells.length : Int) ∧ 10 ^ 18 ≤ t.cell)), if_neg (fun h => absurd h.2 (by rw [e]; decide) : ¬ (t.spot < (t.cells.length : Int) ∧ 10 ^ 18 ≤ t.cell))]
        simp only [e, drawn]
        have h5 : ¬ ((10 : Int) ^ 18 ≤ 5) := by decide
        walk_at "lfs"
      · rw [if_neg (fun h => h3 h.1 : ¬ (t.spot < (t.cells.length : Int) ∧ 10 ^ 18 ≤ t.cell)), if_neg (fun h => h3 h.1 : ¬ (t.spot < (t.cells.length : Int) ∧ 10 ^ 18 ≤ t.cell))]
        simp only [e, drawn]
        walk_at "lfs"
end Lf
end

section
set_option maxHeartbeats 4000000
/-! How long a repr is. -/
namespace Lf
open PySem PyProof.Rows
mutual
def D.tame : D → Bool
  | .int i => decide (i.natAbs.log2 < 1920)
  | .str x => x.cps.toList.all fun c => decide (c < 16 ^ 8)
  | .tup xs => D.tames xs
  | .lst xs => D.tames xs
  | _ => true
def D.tames : List D → Bool
  | [] => true
  | x :: xs => D.tame x && D.tames xs
end
theorem len_app (a b : Str) : (a ++ b).length = a.length + b.length := strLen_append a b
mutual
theorem tame_show : ∀ d : D, d.tame = true → d.py.showable = true
  | .non, _ => rfl
  | .bl _, _ => rfl
  | .int i, h => by simpa only [D.py, PyData.showable, D.tame] using h
  | .str _, _ => rfl
  | .tup xs, h => by
    simp only [D.py, PyData.showable]
    exact tames_show xs (by simpa only [D.tame] using h)
  | .lst xs, h => by
    simp only [D.py, PyData.showable]
    exact tames_show xs (by simpa only [D.tame] using h)
theorem tames_show : ∀ xs : List D, D.tames xs = true → PyData.showableAll (D.pys xs) = true
  | [], _ => rfl
  | x :: xs, h => by
    simp only [D.tames, Bool.and_eq_true] at h
    simp only [D.pys, PyData.showableAll, Bool.and_eq_true]
    exact ⟨tame_show x h.1, tames_show xs h.2⟩
end
mutual
theorem shown_le : ∀ d : D, d.tame = true → d.shown.length ≤ d.ub
  | .non, _ => by decide
  | .bl b, _ => by cases b <;> decide
  | .int i, h => by
    simp only [D.tame, decide_eq_true_eq] at h
    have := int_text_length_le (a := i) (k := i.natAbs.log2 + 1) (by omega) (by omega)
    have e : (Str.ofString (toString i)).length = (toString i).length := by
      rw [PySem.ofString_length]
    show (Str.ofString (toString i)).length ≤ i.natAbs.log2 + 3
    rw [e]; omega
  | .str x, h => by
    refine StrLaws.reprText_len x fun c hc => ?_
    simp only [D.tame, List.all_eq_true, decide_eq_true_eq] at h
    exact h c hc
  | .tup xs, h => by
    have := showns_le xs (by simpa only [D.tame] using h)
    show (tupleText (PyData.shownAll (D.pys xs))).length ≤ D.ubs xs + 3
    unfold tupleText
    rw [len_app, len_app]
    have e1 : ((if (PyData.shownAll (D.pys xs)).length == 1 then ",)" else ")" : String) : Str).length ≤ 2 := by
      split <;> decide
    have e2 : (("(" : String) : Str).length = 1 := rfl
    by_cases hn : PyData.shownAll (D.pys xs) = []
    · rw [hn]; show 1 + 0 + _ ≤ _; rw [hn] at e1; omega
    · have := join_length_add _ hn
      omega
  | .lst xs, h => by
    have := showns_le xs (by simpa only [D.tame] using h)
    show (textFrom 0 "[" (PyData.shownAll (D.pys xs)) ++ "]").length ≤ D.ubs xs + 3
    rw [len_app]
    have e2 : (("]" : String) : Str).length = 1 := rfl
    have e3 : (("[" : String) : Str).length = 1 := rfl
    cases hq : PyData.shownAll (D.pys xs) with
    | nil => show 1 + 1 ≤ _; omega
    | cons t r =>
      have h2 : (textFrom 0 "[" (t :: r)).length = (textFrom 1 (("[" : Str) ++ (if (0 : Nat) > 0 then ", " else "" : String) ++ t) r).length := rfl
      rw [h2, textFrom_length_pos r 1 _ (Nat.succ_pos 0), len_app, len_app]
      rw [hq, piled_cons] at this
      have e4 : ((if (0 : Nat) > 0 then ", " else "" : String) : Str).length = 0 := rfl
      omega
theorem showns_le : ∀ xs : List D, D.tames xs = true → piled (PyData.shownAll (D.pys xs)) ≤ D.ubs xs
  | [], _ => Nat.le_refl _
  | x :: xs, h => by
    simp only [D.tames, Bool.and_eq_true] at h
    have a := shown_le x h.1
    have b := showns_le xs h.2
    show piled (x.py.shown :: PyData.shownAll (D.pys xs)) ≤ x.ub + 2 + D.ubs xs
    rw [piled_cons]
    have a : x.py.shown.length ≤ x.ub := a
    omega
end
theorem rep_of {d : D} (h1 : d.tame = true) (h2 : d.dep ≤ 180) (h3 : d.ub ≤ 16777216) : d.repOk = true := by
  unfold D.repOk
  rw [tame_show d h1]
  have := shown_le d h1
  simp only [Bool.and_true, Bool.and_eq_true, decide_eq_true_eq]
  exact ⟨h2, by show _ ≤ 16777216; omega⟩
/-! small things -/
theorem int_log {i : Int} (h : i.natAbs < 18446744073709551616) : i.natAbs.log2 < 64 := by
  by_cases e : i.natAbs = 0
  · rw [e]; decide
  · exact (Nat.log2_lt e).mpr h
theorem rep_bl {b : Bool} : (D.bl b).repOk = true := by cases b <;> decide +kernel
theorem rep_bb {a b : Bool} : (D.lst [.bl a, .bl b]).repOk = true := by cases a <;> cases b <;> decide +kernel
theorem rep_int {i : Int} (h : i.natAbs < 18446744073709551616) : (D.int i).repOk = true := by
  have := int_log h
  refine rep_of (by simp only [D.tame, decide_eq_true_eq]; omega) (by show 0 ≤ 180; decide) (by simp only [D.ub]; omega)
theorem rep_ii {i j : Int} (h : i.natAbs < 18446744073709551616 ∧ j.natAbs < 18446744073709551616) : (D.lst [.int i, .int j]).repOk = true := by
  have h1 := int_log h.1
  have h2 := int_log h.2
  refine rep_of ?_ (by show max 0 (max 0 0) + 1 ≤ 180; decide) (by simp only [D.ub, D.ubs]; omega)
  simp only [D.tame, D.tames, Bool.and_eq_true, decide_eq_true_eq, Bool.and_true]
  exact ⟨by omega, by omega⟩
section
variable {β : Type} {K : W → Cells → Res β} {c : Cells}
theorem r_rep_bl {b : Bool} : kBi .repr K [.d (.bl b)] c = K (.d (.str (D.bl b).shown)) c := r_repr rep_bl
theorem r_rep_bb {a b : Bool} : kBi .repr K [.d (.lst [.bl a, .bl b])] c = K (.d (.str (D.lst [.bl a, .bl b]).shown)) c := r_repr rep_bb
end
end Lf
end

section
set_option maxHeartbeats 4000000
/-! Helpers that many laws have, word for word: their texts and what they do. -/
namespace Lf
open PySem
local macro_rules | `(tactic| walk_at "lf") => `(tactic| simp -implicitDefEqProofs (disch := (first | with_reducible assumption | omega | decide +kernel | (simp only [List.length_cons, List.length_nil, List.length_map, List.length_append, List.length_take, List.length_drop, List.length_reverse, tap_len]; omega) | exact of_decide_eq_true (id rfl) | fail)) only [↓cE_non, ↓cE_bl, ↓cE_int, ↓cE_str, ↓cE_var0, ↓cE_varS, ↓cE_glb, ↓cE_bin, ↓kBin1_eq, ↓cE_neg, ↓kNeg_int, ↓cE_rev, ↓kRev_tup, ↓kRev_lst, ↓kRev_fl, ↓cE_isi, ↓kIsi_d, ↓kIsi_fl, ↓r_isN, ↓r_isNN, ↓r_lts, ↓r_les, ↓r_gts, ↓r_ges, ↓r_addbi, ↓r_strb, ↓r_strs, ↓kMe1_supp, ↓r_in_sl, ↓r_in_st, ↓r_ni_sl, ↓r_ni_st, ↓r_in_it, ↓r_ni_it, ↓cE_unot, ↓kNot_bl, ↓cE_band, ↓cE_bor, ↓cE_cmp, ↓kCmp1_eq, ↓cE_ife, ↓cE_tup, ↓cE_lst, ↓kTup0, ↓kTup1, ↓kTup2, ↓kTup3, ↓kTup4, ↓kTup5, ↓kLst0, ↓kLst1, ↓kLst2, ↓kLst3, ↓kLst4, ↓kLst5, ↓cE_call, ↓cE_bi, ↓cE_idx, ↓kIdx1_eq, ↓cE_slc, ↓kSlc1_eq, ↓kSlc2_eq, ↓kSlc3_lst, ↓kSlc3_fl, ↓kSlc3_tup, ↓kSlc3_sq, ↓cE_meth, ↓cE_dct, ↓cE_mkd, ↓kMkd_lst, ↓cE_lzip, ↓cL_nil, ↓cL_cons, ↓kRow_eq, ↓kCons_d, ↓kCons_ref, ↓kCons_fl, ↓kCons_sq, ↓cO_nop, ↓cO_sb, ↓kSb_int, ↓cP_nil, ↓cP_cons, ↓kPr1_d, ↓kPr2_d, ↓kPr2_fl, ↓kPr3_s, ↓kPr3_i, ↓cT_nil, ↓cT_cons, ↓cI_rng, ↓cI_rng2, ↓cI_zip, ↓kZip_tt, ↓kZip_ll, ↓cI_it, ↓kIt_lst, ↓kIt_tup, ↓kIt_fl, ↓kIt_str, ↓ckd_none, ↓unl_none, ↓cN_0, ↓cN_S, ↓kEn_eq, ↓cB_nm, ↓cB_tup, ↓cBs_nil, ↓cBs_cons, ↓kBs_eq, ↓cE_lc, ↓kLc_eq, ↓kLt1_eq, ↓kLt3_d, ↓kLt3_fl, ↓cG_d, ↓cG_ref, ↓cG_sq, ↓cG_fl, ↓cG_fd, ↓cA_d, ↓cA_ref, ↓cA_fl, ↓cA_fd, ↓cG_pt, ↓cG_unl, ↓cG_star, ↓cG_ix, ↓cG_ixl, ↓kIx1_eq, ↓cS_asg, ↓kAsg_eq, ↓kNx_eq, ↓cS_par, ↓kPar_eq, ↓cR_nil, ↓cR_cons, ↓kRw_nd, ↓kRw_nf, ↓kRw_nr, ↓kRw_ad, ↓kRw_af, ↓kRw_ar, ↓cW_nil, ↓cW_nd, ↓cW_nr, ↓cW_ad, ↓cW_ar, ↓cW_af, ↓kWs_eq, ↓cS_ret, ↓kRt_eq, ↓cS_ex, ↓kEx_eq, ↓cS_if, ↓cS_cons, ↓cS_nil, ↓cS_brk, ↓cS_cnt, ↓cS_pass, ↓kSeq_nx, ↓kSeq_ret, ↓kSeq_bk, ↓kSeq_ct, ↓cS_for, ↓kFor_eq, ↓kBody_eq, ↓kTurn_nx, ↓kTurn_ct, ↓kTurn_bk, ↓kTurn_ret, ↓cS_whl, ↓kWTurn_nx, ↓kWTurn_ct, ↓kWTurn_bk, ↓kWTurn_ret, ↓kFin_ret, ↓kFin_nx, ↓finish_d, ↓finish_fl, ↓finish_fd, ↓finish_sq, ↓r_add, ↓r_addb, ↓r_sub, ↓r_mul, ↓r_div, ↓r_mod, ↓r_pow, ↓r_shl, ↓r_shr, ↓r_and, ↓r_adds, ↓r_addt, ↓r_addl, ↓r_eqi, ↓r_nei, ↓r_eqs, ↓r_nes, ↓r_eqt0, ↓r_net0, ↓r_eql0, ↓r_nel0, ↓r_lt, ↓r_le, ↓r_gt, ↓r_ge, ↓r_lenl, ↓r_lent, ↓r_lens, ↓r_tupl, ↓r_tupt, ↓r_lisl, ↓r_list, ↓r_inti, ↓r_abs, ↓r_max, ↓r_min, ↓t2_0, ↓t2_1, ↓t2_2, ↓t2_3, ↓t2_4, ↓l2_0, ↓l2_1, ↓l2_2, ↓l2_3, ↓kRng_int, ↓kRng2_int, ↓ckd_some, ↓unl_t, ↓unl_f, ↓oK_some, ↓oC_some, ↓oP_some, ↓oW_some, ↓kRet_ok, ↓kLc2_t, ↓kLc2_f, ↓vIdx_dct, ↓vPt_some, ↓vUn_some, ↓kLc3_d, ↓kLc3_fl, ↓kIf_t, ↓kIf_f, ↓kIf_p, ↓kIf_n, ↓kIte_t, ↓kIte_f, ↓kIte_p, ↓kIte_n, ↓kAnd_t, ↓kAnd_f, ↓kAnd_p, ↓kAnd_n, ↓kOr_t, ↓kOr_f, ↓kOr_p, ↓kOr_n, ↓kTst_t, ↓kTst_f, ↓kTst_p, ↓kTst_n, ↓kWTest_p, ↓kWTest_n, ↓kLt2_t, ↓kLt2_f, ↓kLt2_p, ↓kCall_0, ↓kCall_r0, ↓kCall_r1, ↓kCall_r2, ↓kR0_d, ↓kR0_fl, ↓kR0_fd, ↓kR1_d, ↓kR1_fl, ↓kR1_fd, ↓kR1_ref, ↓m_pop1, ↓m_pop0, ↓m_app, ↓vTy_lst, ↓kMe1_pop, ↓kMe1_app, ↓kMe1_ext, ↓kMe1_idx, ↓m_ext, ↓bin_fl1, ↓bin_fl2, ↓vBin_dd, ↓cmp_fl1, ↓cmp_fl2, ↓vCmp_dd, ↓vBi_1, ↓idx_fl, ↓idx_fd, ↓vIdx_dd, ↓vSlc_d, ↓if_fl, ↓st21, ↓st32, ↓r_intt, ↓r_intf, ↓r_intp, ↓r_zipt, ↓Int.toNat_natCast, ↓if_pos, ↓if_neg, ↓reduceIte, kSlc3_str, r_stri, m_supp, isD_tup_non, isD_tup_bl, isD_tup_int, isD_tup_str, isD_tup_tup, isD_tup_lst, isD_lst_non, isD_lst_bl, isD_lst_int, isD_lst_str, isD_lst_tup, isD_lst_lst, isD_str_non, isD_str_bl, isD_str_int, isD_str_str, isD_str_tup, isD_str_lst, isD_int_non, isD_int_bl, isD_int_int, isD_int_str, isD_int_tup, isD_int_lst, isD_bl_non, isD_bl_bl, isD_bl_int, isD_bl_str, isD_bl_tup, isD_bl_lst, isD_dct_non, isD_dct_bl, isD_dct_int, isD_dct_str, isD_dct_tup, isD_dct_lst, isN_non, isN_bl, isN_int, isN_str, isN_tup, isN_lst, r_intb, bin_ref1, bin_ref2, cmp_ref1, cmp_ref2, bi_ref, idx_ref, slc_ref, r_eq, r_ne, kAnd_bl, kOr_bl, kIte_bl, kTst_bl, kIf_bl, kWTest_bl, kLt2_eq, kNot_eq, kAnd_eq, kOr_eq, kIte_eq, kTup_eq, kLst_eq, kIdx2_dd, vPop_lst, vPop0_lst, vApp_lst, emp_snoc, vExt_lst, m_tidx, idx_tmap, idx_lmap, kDct_eq, kLzip_eq, kTst_eq, kIt_ref, vWk_lst, vWk_lk, kIf_eq, kWTest_eq, kIx2_d, kRw_eq, kGl_some, finish_old, finish_new, vFin_lst, vFin_dct, cLc_nil, cLc_cons, kLc1_eq, kLc2_eq, cFor_nil, cFor_cons, view_d, view_fl, view_ref, vwC_lst, vwC_lk, vwC_dct, viewD_ref, viewD_d, viewD_fl, viewD_fd, vwD_lst, vwD_lk, vwD_dct, views_nil, views_cons, cnsO_some, frzs_nil, frzs_d, cnsF_some, putIx_ref, pIx_s, pIx_i, pIx_l, dGet_hit, dGet_miss, renW_self, renW_d, renW_sq, truW, tup_ok, lst_ok, List.map_cons, List.map_nil, List.all_cons, List.all_nil, List.contains_cons, List.contains_nil, List.elem_nil, List.getD_cons_zero, List.getD_cons_succ, List.getElem?_cons_zero, List.getElem?_cons_succ, List.getElem?_nil, List.set_cons_zero, List.set_cons_succ, List.length_cons, List.length_nil, List.nil_append, List.cons_append, List.append_nil, List.take_zero, List.take_succ_cons, List.take_nil, Bool.true_and, Bool.and_true, Bool.false_and, Bool.and_false, Bool.not_true, Bool.not_false, Bool.true_or, Bool.or_true, decide_eq_true_eq, Bool.not_eq_true', decide_eq_false_iff_not, reduceCtorEq, if_true, if_false, ite_true, ite_false, Bool.false_eq_true, Option.map_some, List.idxOf_cons, beq_self_eq_true, Nat.zero_add, cond_true, cond_false, D.truO, D.tru, List.isEmpty_cons, List.isEmpty_nil, Int.toNat_zero, List.length_map, clearO_nil, clearO_cons, Option.map_none, star_t, star_l, cut_pre, cut_suf, cut_mid, cut_all, take_map, drop_map, b2i_t, b2i_f, cut_tail, drop_one, toNat_1, toNat_2, toNat_3, List.drop_zero, cE_non, cE_bl, cE_int, cE_str, cE_var0, cE_varS, cE_glb, cE_bin, kBin1_eq, cE_neg, kNeg_int, cE_rev, kRev_tup, kRev_lst, kRev_fl, cE_isi, kIsi_d, kIsi_fl, r_isN, r_isNN, r_lts, r_les, r_gts, r_ges, r_addbi, r_strb, r_strs, kMe1_supp, r_in_sl, r_in_st, r_ni_sl, r_ni_st, r_in_it, r_ni_it, cE_unot, kNot_bl, cE_band, cE_bor, cE_cmp, kCmp1_eq, cE_ife, cE_tup, cE_lst, kTup0, kTup1, kTup2, kTup3, kTup4, kTup5, kLst0, kLst1, kLst2, kLst3, kLst4, kLst5, cE_call, cE_bi, cE_idx, kIdx1_eq, cE_slc, kSlc1_eq, kSlc2_eq, kSlc3_lst, kSlc3_fl, kSlc3_tup, kSlc3_sq, cE_meth, cE_dct, cE_mkd, kMkd_lst, cE_lzip, cL_nil, cL_cons, kRow_eq, kCons_d, kCons_ref, kCons_fl, kCons_sq, cO_nop, cO_sb, kSb_int, cP_nil, cP_cons, kPr1_d, kPr2_d, kPr2_fl, kPr3_s, kPr3_i, cT_nil, cT_cons, cI_rng, cI_rng2, cI_zip, kZip_tt, kZip_ll, cI_it, kIt_lst, kIt_tup, kIt_fl, kIt_str, ckd_none, unl_none, cN_0, cN_S, kEn_eq, cB_nm, cB_tup, cBs_nil, cBs_cons, kBs_eq, cE_lc, kLc_eq, kLt1_eq, kLt3_d, kLt3_fl, cG_d, cG_ref, cG_sq, cG_fl, cG_fd, cA_d, cA_ref, cA_fl, cA_fd, cG_pt, cG_unl, cG_star, cG_ix, cG_ixl, kIx1_eq, cS_asg, kAsg_eq, kNx_eq, cS_par, kPar_eq, cR_nil, cR_cons, kRw_nd, kRw_nf, kRw_nr, kRw_ad, kRw_af, kRw_ar, cW_nil, cW_nd, cW_nr, cW_ad, cW_ar, cW_af, kWs_eq, cS_ret, kRt_eq, cS_ex, kEx_eq, cS_if, cS_cons, cS_nil, cS_brk, cS_cnt, cS_pass, kSeq_nx, kSeq_ret, kSeq_bk, kSeq_ct, cS_for, kFor_eq, kBody_eq, kTurn_nx, kTurn_ct, kTurn_bk, kTurn_ret, cS_whl, kWTurn_nx, kWTurn_ct, kWTurn_bk, kWTurn_ret, kFin_ret, kFin_nx, finish_d, finish_fl, finish_fd, finish_sq, r_add, r_addb, r_sub, r_mul, r_div, r_mod, r_pow, r_shl, r_shr, r_and, r_adds, r_addt, r_addl, r_eqi, r_nei, r_eqs, r_nes, r_eqt0, r_net0, r_eql0, r_nel0, r_lt, r_le, r_gt, r_ge, r_lenl, r_lent, r_lens, r_tupl, r_tupt, r_lisl, r_list, r_inti, r_abs, r_max, r_min, t2_0, t2_1, t2_2, t2_3, t2_4, l2_0, l2_1, l2_2, l2_3, kRng_int, kRng2_int, ckd_some, unl_t, unl_f, oK_some, oC_some, oP_some, oW_some, kRet_ok, kLc2_t, kLc2_f, vIdx_dct, vPt_some, vUn_some, kLc3_d, kLc3_fl, kIf_t, kIf_f, kIf_p, kIf_n, kIte_t, kIte_f, kIte_p, kIte_n, kAnd_t, kAnd_f, kAnd_p, kAnd_n, kOr_t, kOr_f, kOr_p, kOr_n, kTst_t, kTst_f, kTst_p, kTst_n, kWTest_p, kWTest_n, kLt2_t, kLt2_f, kLt2_p, kCall_0, kCall_r0, kCall_r1, kCall_r2, kR0_d, kR0_fl, kR0_fd, kR1_d, kR1_fl, kR1_fd, kR1_ref, m_pop1, m_pop0, m_app, vTy_lst, kMe1_pop, kMe1_app, kMe1_ext, kMe1_idx, m_ext, bin_fl1, bin_fl2, vBin_dd, cmp_fl1, cmp_fl2, vCmp_dd, vBi_1, idx_fl, idx_fd, vIdx_dd, vSlc_d, if_fl, st21, st32, r_intt, r_intf, r_intp, r_zipt])
local macro_rules | `(tactic| walk_at "lfs") => `(tactic| simp -implicitDefEqProofs (disch := (first | with_reducible assumption | omega | decide +kernel | (simp only [List.length_cons, List.length_nil, List.length_map, List.length_append, List.length_take, List.length_drop, List.length_reverse, tap_len]; omega) | exact of_decide_eq_true (id rfl) | fail)) only [↓cE_non, ↓cE_bl, ↓cE_int, ↓cE_str, ↓cE_var0, ↓cE_varS, ↓cE_glb, ↓cE_bin, ↓kBin1_eq, ↓cE_neg, ↓kNeg_int, ↓cE_rev, ↓kRev_tup, ↓kRev_lst, ↓kRev_fl, ↓cE_isi, ↓kIsi_d, ↓kIsi_fl, ↓r_isN, ↓r_isNN, ↓r_lts, ↓r_les, ↓r_gts, ↓r_ges, ↓r_addbi, ↓r_strb, ↓r_strs, ↓kMe1_supp, ↓r_in_sl, ↓r_in_st, ↓r_ni_sl, ↓r_ni_st, ↓r_in_it, ↓r_ni_it, ↓cE_unot, ↓kNot_bl, ↓cE_band, ↓cE_bor, ↓cE_cmp, ↓kCmp1_eq, ↓cE_ife, ↓cE_tup, ↓cE_lst, ↓kTup0, ↓kTup1, ↓kTup2, ↓kTup3, ↓kTup4, ↓kTup5, ↓kLst0, ↓kLst1, ↓kLst2, ↓kLst3, ↓kLst4, ↓kLst5, ↓cE_call, ↓cE_bi, ↓cE_idx, ↓kIdx1_eq, ↓cE_slc, ↓kSlc1_eq, ↓kSlc2_eq, ↓kSlc3_lst, ↓kSlc3_fl, ↓kSlc3_tup, ↓kSlc3_sq, ↓cE_meth, ↓cE_dct, ↓cE_mkd, ↓kMkd_lst, ↓cE_lzip, ↓cL_nil, ↓cL_cons, ↓kRow_eq, ↓kCons_d, ↓kCons_ref, ↓kCons_fl, ↓kCons_sq, ↓cO_nop, ↓cO_sb, ↓kSb_int, ↓cP_nil, ↓cP_cons, ↓kPr1_d, ↓kPr2_d, ↓kPr2_fl, ↓kPr3_s, ↓kPr3_i, ↓cT_nil, ↓cT_cons, ↓cI_rng, ↓cI_rng2, ↓cI_zip, ↓kZip_tt, ↓kZip_ll, ↓cI_it, ↓kIt_lst, ↓kIt_tup, ↓kIt_fl, ↓kIt_str, ↓ckd_none, ↓unl_none, ↓cN_0, ↓cN_S, ↓kEn_eq, ↓cB_nm, ↓cB_tup, ↓cBs_nil, ↓cBs_cons, ↓kBs_eq, ↓cE_lc, ↓kLc_eq, ↓kLt1_eq, ↓kLt3_d, ↓kLt3_fl, ↓cG_d, ↓cG_ref, ↓cG_sq, ↓cG_fl, ↓cG_fd, ↓cA_d, ↓cA_ref, ↓cA_fl, ↓cA_fd, ↓cG_pt, ↓cG_unl, ↓cG_star, ↓cG_ix, ↓cG_ixl, ↓kIx1_eq, ↓cS_asg, ↓kAsg_eq, ↓kNx_eq, ↓cS_par, ↓kPar_eq, ↓cR_nil, ↓cR_cons, ↓kRw_nd, ↓kRw_nf, ↓kRw_nr, ↓kRw_ad, ↓kRw_af, ↓kRw_ar, ↓cW_nil, ↓cW_nd, ↓cW_nr, ↓cW_ad, ↓cW_ar, ↓cW_af, ↓kWs_eq, ↓cS_ret, ↓kRt_eq, ↓cS_ex, ↓kEx_eq, ↓cS_if, ↓cS_cons, ↓cS_nil, ↓cS_brk, ↓cS_cnt, ↓cS_pass, ↓kSeq_nx, ↓kSeq_ret, ↓kSeq_bk, ↓kSeq_ct, ↓cS_for, ↓kFor_eq, ↓kBody_eq, ↓kTurn_nx, ↓kTurn_ct, ↓kTurn_bk, ↓kTurn_ret, ↓cS_whl, ↓kWTurn_nx, ↓kWTurn_ct, ↓kWTurn_bk, ↓kWTurn_ret, ↓kFin_ret, ↓kFin_nx, ↓finish_d, ↓finish_fl, ↓finish_fd, ↓finish_sq, ↓r_add, ↓r_addb, ↓r_sub, ↓r_mul, ↓r_div, ↓r_mod, ↓r_pow, ↓r_shl, ↓r_shr, ↓r_and, ↓r_adds, ↓r_addt, ↓r_addl, ↓r_eqi, ↓r_nei, ↓r_eqs, ↓r_nes, ↓r_eqt0, ↓r_net0, ↓r_eql0, ↓r_nel0, ↓r_lt, ↓r_le, ↓r_gt, ↓r_ge, ↓r_lenl, ↓r_lent, ↓r_lens, ↓r_tupl, ↓r_tupt, ↓r_lisl, ↓r_list, ↓r_inti, ↓r_abs, ↓r_max, ↓r_min, ↓t2_0, ↓t2_1, ↓t2_2, ↓t2_3, ↓t2_4, ↓l2_0, ↓l2_1, ↓l2_2, ↓l2_3, ↓kRng_int, ↓kRng2_int, ↓ckd_some, ↓unl_t, ↓unl_f, ↓oK_some, ↓oC_some, ↓oP_some, ↓oW_some, ↓kRet_ok, ↓kLc2_t, ↓kLc2_f, ↓vIdx_dct, ↓vPt_some, ↓vUn_some, ↓kLc3_d, ↓kLc3_fl, ↓kIf_t, ↓kIf_f, ↓kIf_p, ↓kIf_n, ↓kIte_t, ↓kIte_f, ↓kIte_p, ↓kIte_n, ↓kAnd_t, ↓kAnd_f, ↓kAnd_p, ↓kAnd_n, ↓kOr_t, ↓kOr_f, ↓kOr_p, ↓kOr_n, ↓kTst_t, ↓kTst_f, ↓kTst_p, ↓kTst_n, ↓kWTest_p, ↓kWTest_n, ↓kLt2_t, ↓kLt2_f, ↓kLt2_p, ↓kCall_0, ↓kCall_r0, ↓kCall_r1, ↓kCall_r2, ↓kR0_d, ↓kR0_fl, ↓kR0_fd, ↓kR1_d, ↓kR1_fl, ↓kR1_fd, ↓kR1_ref, ↓m_pop1, ↓m_pop0, ↓m_app, ↓vTy_lst, ↓kMe1_pop, ↓kMe1_app, ↓kMe1_ext, ↓kMe1_idx, ↓m_ext, ↓bin_fl1, ↓bin_fl2, ↓vBin_dd, ↓cmp_fl1, ↓cmp_fl2, ↓vCmp_dd, ↓vBi_1, ↓idx_fl, ↓idx_fd, ↓vIdx_dd, ↓vSlc_d, ↓if_fl, ↓st21, ↓st32, ↓r_intt, ↓r_intf, ↓r_intp, ↓r_zipt, ↓Int.toNat_natCast, ↓if_pos, ↓if_neg, ↓reduceIte, kSlc3_str, r_stri, m_supp, isD_tup_non, isD_tup_bl, isD_tup_int, isD_tup_str, isD_tup_tup, isD_tup_lst, isD_lst_non, isD_lst_bl, isD_lst_int, isD_lst_str, isD_lst_tup, isD_lst_lst, isD_str_non, isD_str_bl, isD_str_int, isD_str_str, isD_str_tup, isD_str_lst, isD_int_non, isD_int_bl, isD_int_int, isD_int_str, isD_int_tup, isD_int_lst, isD_bl_non, isD_bl_bl, isD_bl_int, isD_bl_str, isD_bl_tup, isD_bl_lst, isD_dct_non, isD_dct_bl, isD_dct_int, isD_dct_str, isD_dct_tup, isD_dct_lst, isN_non, isN_bl, isN_int, isN_str, isN_tup, isN_lst, r_intb, bin_ref1, bin_ref2, cmp_ref1, cmp_ref2, bi_ref, idx_ref, slc_ref, r_eq, r_ne, kAnd_bl, kOr_bl, kIte_bl, kTst_bl, kIf_bl, kWTest_bl, kLt2_eq, kNot_eq, kAnd_eq, kOr_eq, kIte_eq, kTup_eq, kLst_eq, kIdx2_dd, vPop_lst, vPop0_lst, vApp_lst, emp_snoc, vExt_lst, m_tidx, idx_tmap, idx_lmap, kDct_eq, kLzip_eq, kTst_eq, kIt_ref, vWk_lst, vWk_lk, kIf_eq, kWTest_eq, kIx2_d, kRw_eq, kGl_some, finish_old, finish_new, vFin_lst, vFin_dct, cLc_nil, cLc_cons, kLc1_eq, kLc2_eq, cFor_nil, cFor_cons, view_d, view_fl, view_ref, vwC_lst, vwC_lk, vwC_dct, viewD_ref, viewD_d, viewD_fl, viewD_fd, vwD_lst, vwD_lk, vwD_dct, views_nil, views_cons, cnsO_some, frzs_nil, frzs_d, cnsF_some, putIx_ref, pIx_s, pIx_i, pIx_l, dGet_hit, dGet_miss, renW_self, renW_d, renW_sq, truW, tup_ok, lst_ok, List.map_cons, List.map_nil, List.all_cons, List.all_nil, List.contains_cons, List.contains_nil, List.elem_nil, List.getD_cons_zero, List.getD_cons_succ, List.getElem?_cons_zero, List.getElem?_cons_succ, List.getElem?_nil, List.set_cons_zero, List.set_cons_succ, List.length_cons, List.length_nil, List.nil_append, List.cons_append, List.append_nil, List.take_zero, List.take_succ_cons, List.take_nil, Bool.true_and, Bool.and_true, Bool.false_and, Bool.and_false, Bool.not_true, Bool.not_false, Bool.true_or, Bool.or_true, decide_eq_true_eq, Bool.not_eq_true', decide_eq_false_iff_not, reduceCtorEq, if_true, if_false, ite_true, ite_false, Bool.false_eq_true, Option.map_some, List.idxOf_cons, beq_self_eq_true, Nat.zero_add, cond_true, cond_false, D.truO, D.tru, List.isEmpty_cons, List.isEmpty_nil, Int.toNat_zero, List.length_map, clearO_nil, clearO_cons, Option.map_none, star_t, star_l, cut_pre, cut_suf, cut_mid, cut_all, take_map, drop_map, b2i_t, b2i_f, cut_tail, drop_one, toNat_1, toNat_2, toNat_3, List.drop_zero, cE_non, cE_bl, cE_int, cE_str, cE_var0, cE_varS, cE_glb, cE_bin, kBin1_eq, cE_neg, kNeg_int, cE_rev, kRev_tup, kRev_lst, kRev_fl, cE_isi, kIsi_d, kIsi_fl, r_isN, r_isNN, r_lts, r_les, r_gts, r_ges, r_addbi, r_strb, r_strs, kMe1_supp, r_in_sl, r_in_st, r_ni_sl, r_ni_st, r_in_it, r_ni_it, cE_unot, kNot_bl, cE_band, cE_bor, cE_cmp, kCmp1_eq, cE_ife, cE_tup, cE_lst, kTup0, kTup1, kTup2, kTup3, kTup4, kTup5, kLst0, kLst1, kLst2, kLst3, kLst4, kLst5, cE_call, cE_bi, cE_idx, kIdx1_eq, cE_slc, kSlc1_eq, kSlc2_eq, kSlc3_lst, kSlc3_fl, kSlc3_tup, kSlc3_sq, cE_meth, cE_dct, cE_mkd, kMkd_lst, cE_lzip, cL_nil, cL_cons, kRow_eq, kCons_d, kCons_ref, kCons_fl, kCons_sq, cO_nop, cO_sb, kSb_int, cP_nil, cP_cons, kPr1_d, kPr2_d, kPr2_fl, kPr3_s, kPr3_i, cT_nil, cT_cons, cI_rng, cI_rng2, cI_zip, kZip_tt, kZip_ll, cI_it, kIt_lst, kIt_tup, kIt_fl, kIt_str, ckd_none, unl_none, cN_0, cN_S, kEn_eq, cB_nm, cB_tup, cBs_nil, cBs_cons, kBs_eq, cE_lc, kLc_eq, kLt1_eq, kLt3_d, kLt3_fl, cG_d, cG_ref, cG_sq, cG_fl, cG_fd, cA_d, cA_ref, cA_fl, cA_fd, cG_pt, cG_unl, cG_star, cG_ix, cG_ixl, kIx1_eq, cS_asg, kAsg_eq, kNx_eq, cS_par, kPar_eq, cR_nil, cR_cons, kRw_nd, kRw_nf, kRw_nr, kRw_ad, kRw_af, kRw_ar, cW_nil, cW_nd, cW_nr, cW_ad, cW_ar, cW_af, kWs_eq, cS_ret, kRt_eq, cS_ex, kEx_eq, cS_if, cS_cons, cS_nil, cS_brk, cS_cnt, cS_pass, kSeq_nx, kSeq_ret, kSeq_bk, kSeq_ct, cS_for, kFor_eq, kBody_eq, kTurn_nx, kTurn_ct, kTurn_bk, kTurn_ret, cS_whl, kWTurn_nx, kWTurn_ct, kWTurn_bk, kWTurn_ret, kFin_ret, kFin_nx, finish_d, finish_fl, finish_fd, finish_sq, r_add, r_addb, r_sub, r_mul, r_div, r_mod, r_pow, r_shl, r_shr, r_and, r_adds, r_addt, r_addl, r_eqi, r_nei, r_eqs, r_nes, r_eqt0, r_net0, r_eql0, r_nel0, r_lt, r_le, r_gt, r_ge, r_lenl, r_lent, r_lens, r_tupl, r_tupt, r_lisl, r_list, r_inti, r_abs, r_max, r_min, t2_0, t2_1, t2_2, t2_3, t2_4, l2_0, l2_1, l2_2, l2_3, kRng_int, kRng2_int, ckd_some, unl_t, unl_f, oK_some, oC_some, oP_some, oW_some, kRet_ok, kLc2_t, kLc2_f, vIdx_dct, vPt_some, vUn_some, kLc3_d, kLc3_fl, kIf_t, kIf_f, kIf_p, kIf_n, kIte_t, kIte_f, kIte_p, kIte_n, kAnd_t, kAnd_f, kAnd_p, kAnd_n, kOr_t, kOr_f, kOr_p, kOr_n, kTst_t, kTst_f, kTst_p, kTst_n, kWTest_p, kWTest_n, kLt2_t, kLt2_f, kLt2_p, kCall_0, kCall_r0, kCall_r1, kCall_r2, kR0_d, kR0_fl, kR0_fd, kR1_d, kR1_fl, kR1_fd, kR1_ref, m_pop1, m_pop0, m_app, vTy_lst, kMe1_pop, kMe1_app, kMe1_ext, kMe1_idx, m_ext, bin_fl1, bin_fl2, vBin_dd, cmp_fl1, cmp_fl2, vCmp_dd, vBi_1, idx_fl, idx_fd, vIdx_dd, vSlc_d, if_fl, st21, st32, r_intt, r_intf, r_intp, r_zipt, *])
theorem Tap.val_b {t : Tap} {m : Int} (h : 0 < m) : 0 ≤ t.val m ∧ t.val m < m := ⟨Tap.val_lo h, Tap.val_hi h⟩
theorem map_erase {α β : Type} (f : α → β) : ∀ (l : List α) (i : Nat), (l.map f).eraseIdx i = (l.eraseIdx i).map f
  | [], _ => by simp
  | _ :: _, 0 => by simp
  | a :: l, i + 1 => by simp [map_erase f l i]
/-! ### the tap -/
def bTap : S := (.cons (.ret (.dct (.cons (.str "cells") (.cons (.bi .list (.cons (.slc (.var 0) .nop (.sb (.int 63))) .nil)) (.cons (.str "spot") (.cons (.int 0) (.cons (.str "rest") (.cons (.int 0) (.cons (.str "calls") (.cons (.int 0) .nil))))))))))
 .nil)
def fTap : Fd := ⟨1, 1, bTap⟩
theorem tap_ok {U : Pg} {n i : Nat} {ns : List Int} (hi : U.fns[i]? = some fTap) (hn : ns.length ≤ 63) : callN U (n + 1) i [.sq (ns.map .int)] [] = .ok (.fd (Tap.k ⟨ns, 0, 0, 0⟩), []) := by
  rw [run_def hi ⟨rfl, by decide⟩]
  simp only [fTap, bTap, List.map, List.replicate, Nat.reduceSub]
  walk_at "lf"
  have e : ns.take (Int.toNat 63) = ns := List.take_of_length_le (by have : Int.toNat 63 = 63 := rfl; omega)
  rw [e]
  kernel_rfl
/-! ### marks -/
def pool8 : List Str := ["a", "ab", "age", "b", "leaf", "no", "yes", "zzzzzzzz"]
/-- marks are put out until there are m -/
def Tap.mkd : Nat → Tap → List Str → Int → List Str × Tap
  | 0, t, p, _ => (p, t)
  | n + 1, t, p, m => if m < p.length then (t.nxt p.length).mkd n (p.eraseIdx (t.val p.length).toNat) m else (p, t)
def Tap.marked (t : Tap) (m : Int) : List Str × Tap := t.mkd 8 pool8 m
def bMarkW (f : Nat) : S := (.cons (.ex (.meth .lpop (.var 2) (.cons (.call f (.cons (.var 0) (.cons (.bi .len (.cons (.var 2) .nil)) .nil))) .nil)))
 .nil)
theorem uMarkW {β : Type} {F : Fns} {X : Xk β} {f : Nat} {env : En} {c : Cells} {K : Fl → En → Cells → Res β} : cS F X (bMarkW f) env c K = cE F X (.meth .lpop (.var 2) (.cons (.call f (.cons (.var 0) (.cons (.bi .len (.cons (.var 2) .nil)) .nil))) .nil)) env c (kEx env (kSeq F X .nil K)) := by
  rw [bMarkW, cS_cons, cS_ex]
local macro_rules | `(tactic| walk_at "lf") => `(tactic| simp -implicitDefEqProofs (disch := (first | with_reducible assumption | omega | decide +kernel | (simp only [List.length_cons, List.length_nil, List.length_map, List.length_append, List.length_take, List.length_drop, List.length_reverse, tap_len]; omega) | exact of_decide_eq_true (id rfl) | fail)) only [↓cE_non, ↓cE_bl, ↓cE_int, ↓cE_str, ↓cE_var0, ↓cE_varS, ↓cE_glb, ↓cE_bin, ↓kBin1_eq, ↓cE_neg, ↓kNeg_int, ↓cE_rev, ↓kRev_tup, ↓kRev_lst, ↓kRev_fl, ↓cE_isi, ↓kIsi_d, ↓kIsi_fl, ↓r_isN, ↓r_isNN, ↓r_lts, ↓r_les, ↓r_gts, ↓r_ges, ↓r_addbi, ↓r_strb, ↓r_strs, ↓kMe1_supp, ↓r_in_sl, ↓r_in_st, ↓r_ni_sl, ↓r_ni_st, ↓r_in_it, ↓r_ni_it, ↓cE_unot, ↓kNot_bl, ↓cE_band, ↓cE_bor, ↓cE_cmp, ↓kCmp1_eq, ↓cE_ife, ↓cE_tup, ↓cE_lst, ↓kTup0, ↓kTup1, ↓kTup2, ↓kTup3, ↓kTup4, ↓kTup5, ↓kLst0, ↓kLst1, ↓kLst2, ↓kLst3, ↓kLst4, ↓kLst5, ↓cE_call, ↓cE_bi, ↓cE_idx, ↓kIdx1_eq, ↓cE_slc, ↓kSlc1_eq, ↓kSlc2_eq, ↓kSlc3_lst, ↓kSlc3_fl, ↓kSlc3_tup, ↓kSlc3_sq, ↓cE_meth, ↓cE_dct, ↓cE_mkd, ↓kMkd_lst, ↓cE_lzip, ↓cL_nil, ↓cL_cons, ↓kRow_eq, ↓kCons_d, ↓kCons_ref, ↓kCons_fl, ↓kCons_sq, ↓cO_nop, ↓cO_sb, ↓kSb_int, ↓cP_nil, ↓cP_cons, ↓kPr1_d, ↓kPr2_d, ↓kPr2_fl, ↓kPr3_s, ↓kPr3_i, ↓cT_nil, ↓cT_cons, ↓cI_rng, ↓cI_rng2, ↓cI_zip, ↓kZip_tt, ↓kZip_ll, ↓cI_it, ↓kIt_lst, ↓kIt_tup, ↓kIt_fl, ↓kIt_str, ↓ckd_none, ↓unl_none, ↓cN_0, ↓cN_S, ↓kEn_eq, ↓cB_nm, ↓cB_tup, ↓cBs_nil, ↓cBs_cons, ↓kBs_eq, ↓cE_lc, ↓kLc_eq, ↓kLt1_eq, ↓kLt3_d, ↓kLt3_fl, ↓cG_d, ↓cG_ref, ↓cG_sq, ↓cG_fl, ↓cG_fd, ↓cA_d, ↓cA_ref, ↓cA_fl, ↓cA_fd, ↓cG_pt, ↓cG_unl, ↓cG_star, ↓cG_ix, ↓cG_ixl, ↓kIx1_eq, ↓cS_asg, ↓kAsg_eq, ↓kNx_eq, ↓cS_par, ↓kPar_eq, ↓cR_nil, ↓cR_cons, ↓kRw_nd, ↓kRw_nf, ↓kRw_nr, ↓kRw_ad, ↓kRw_af, ↓kRw_ar, ↓cW_nil, ↓cW_nd, ↓cW_nr, ↓cW_ad, ↓cW_ar, ↓cW_af, ↓kWs_eq, ↓cS_ret, ↓kRt_eq, ↓cS_ex, ↓kEx_eq, ↓cS_if, ↓cS_cons, ↓cS_nil, ↓cS_brk, ↓cS_cnt, ↓cS_pass, ↓kSeq_nx, ↓kSeq_ret, ↓kSeq_bk, ↓kSeq_ct, ↓cS_for, ↓kFor_eq, ↓kBody_eq, ↓kTurn_nx, ↓kTurn_ct, ↓kTurn_bk, ↓kTurn_ret, ↓cS_whl, ↓kWTurn_nx, ↓kWTurn_ct, ↓kWTurn_bk, ↓kWTurn_ret, ↓kFin_ret, ↓kFin_nx, ↓finish_d, ↓finish_fl, ↓finish_fd, ↓finish_sq, ↓r_add, ↓r_addb, ↓r_sub, ↓r_mul, ↓r_div, ↓r_mod, ↓r_pow, ↓r_shl, ↓r_shr, ↓r_and, ↓r_adds, ↓r_addt, ↓r_addl, ↓r_eqi, ↓r_nei, ↓r_eqs, ↓r_nes, ↓r_eqt0, ↓r_net0, ↓r_eql0, ↓r_nel0, ↓r_lt, ↓r_le, ↓r_gt, ↓r_ge, ↓r_lenl, ↓r_lent, ↓r_lens, ↓r_tupl, ↓r_tupt, ↓r_lisl, ↓r_list, ↓r_inti, ↓r_abs, ↓r_max, ↓r_min, ↓t2_0, ↓t2_1, ↓t2_2, ↓t2_3, ↓t2_4, ↓l2_0, ↓l2_1, ↓l2_2, ↓l2_3, ↓kRng_int, ↓kRng2_int, ↓ckd_some, ↓unl_t, ↓unl_f, ↓oK_some, ↓oC_some, ↓oP_some, ↓oW_some, ↓kRet_ok, ↓kLc2_t, ↓kLc2_f, ↓vIdx_dct, ↓vPt_some, ↓vUn_some, ↓kLc3_d, ↓kLc3_fl, ↓kIf_t, ↓kIf_f, ↓kIf_p, ↓kIf_n, ↓kIte_t, ↓kIte_f, ↓kIte_p, ↓kIte_n, ↓kAnd_t, ↓kAnd_f, ↓kAnd_p, ↓kAnd_n, ↓kOr_t, ↓kOr_f, ↓kOr_p, ↓kOr_n, ↓kTst_t, ↓kTst_f, ↓kTst_p, ↓kTst_n, ↓kWTest_p, ↓kWTest_n, ↓kLt2_t, ↓kLt2_f, ↓kLt2_p, ↓kCall_0, ↓kCall_r0, ↓kCall_r1, ↓kCall_r2, ↓kR0_d, ↓kR0_fl, ↓kR0_fd, ↓kR1_d, ↓kR1_fl, ↓kR1_fd, ↓kR1_ref, ↓m_pop1, ↓m_pop0, ↓m_app, ↓vTy_lst, ↓kMe1_pop, ↓kMe1_app, ↓kMe1_ext, ↓kMe1_idx, ↓m_ext, ↓bin_fl1, ↓bin_fl2, ↓vBin_dd, ↓cmp_fl1, ↓cmp_fl2, ↓vCmp_dd, ↓vBi_1, ↓idx_fl, ↓idx_fd, ↓vIdx_dd, ↓vSlc_d, ↓if_fl, ↓st21, ↓st32, ↓r_intt, ↓r_intf, ↓r_intp, ↓r_zipt, ↓Int.toNat_natCast, ↓uMarkW, ↓if_pos, ↓if_neg, ↓reduceIte, kSlc3_str, r_stri, m_supp, isD_tup_non, isD_tup_bl, isD_tup_int, isD_tup_str, isD_tup_tup, isD_tup_lst, isD_lst_non, isD_lst_bl, isD_lst_int, isD_lst_str, isD_lst_tup, isD_lst_lst, isD_str_non, isD_str_bl, isD_str_int, isD_str_str, isD_str_tup, isD_str_lst, isD_int_non, isD_int_bl, isD_int_int, isD_int_str, isD_int_tup, isD_int_lst, isD_bl_non, isD_bl_bl, isD_bl_int, isD_bl_str, isD_bl_tup, isD_bl_lst, isD_dct_non, isD_dct_bl, isD_dct_int, isD_dct_str, isD_dct_tup, isD_dct_lst, isN_non, isN_bl, isN_int, isN_str, isN_tup, isN_lst, r_intb, bin_ref1, bin_ref2, cmp_ref1, cmp_ref2, bi_ref, idx_ref, slc_ref, r_eq, r_ne, kAnd_bl, kOr_bl, kIte_bl, kTst_bl, kIf_bl, kWTest_bl, kLt2_eq, kNot_eq, kAnd_eq, kOr_eq, kIte_eq, kTup_eq, kLst_eq, kIdx2_dd, vPop_lst, vPop0_lst, vApp_lst, emp_snoc, vExt_lst, m_tidx, idx_tmap, idx_lmap, kDct_eq, kLzip_eq, kTst_eq, kIt_ref, vWk_lst, vWk_lk, kIf_eq, kWTest_eq, kIx2_d, kRw_eq, kGl_some, finish_old, finish_new, vFin_lst, vFin_dct, cLc_nil, cLc_cons, kLc1_eq, kLc2_eq, cFor_nil, cFor_cons, view_d, view_fl, view_ref, vwC_lst, vwC_lk, vwC_dct, viewD_ref, viewD_d, viewD_fl, viewD_fd, vwD_lst, vwD_lk, vwD_dct, views_nil, views_cons, cnsO_some, frzs_nil, frzs_d, cnsF_some, putIx_ref, pIx_s, pIx_i, pIx_l, dGet_hit, dGet_miss, renW_self, renW_d, renW_sq, truW, tup_ok, lst_ok, List.map_cons, List.map_nil, List.all_cons, List.all_nil, List.contains_cons, List.contains_nil, List.elem_nil, List.getD_cons_zero, List.getD_cons_succ, List.getElem?_cons_zero, List.getElem?_cons_succ, List.getElem?_nil, List.set_cons_zero, List.set_cons_succ, List.length_cons, List.length_nil, List.nil_append, List.cons_append, List.append_nil, List.take_zero, List.take_succ_cons, List.take_nil, Bool.true_and, Bool.and_true, Bool.false_and, Bool.and_false, Bool.not_true, Bool.not_false, Bool.true_or, Bool.or_true, decide_eq_true_eq, Bool.not_eq_true', decide_eq_false_iff_not, reduceCtorEq, if_true, if_false, ite_true, ite_false, Bool.false_eq_true, Option.map_some, List.idxOf_cons, beq_self_eq_true, Nat.zero_add, cond_true, cond_false, D.truO, D.tru, List.isEmpty_cons, List.isEmpty_nil, Int.toNat_zero, List.length_map, clearO_nil, clearO_cons, Option.map_none, star_t, star_l, cut_pre, cut_suf, cut_mid, cut_all, take_map, drop_map, b2i_t, b2i_f, cut_tail, drop_one, toNat_1, toNat_2, toNat_3, List.drop_zero, cE_non, cE_bl, cE_int, cE_str, cE_var0, cE_varS, cE_glb, cE_bin, kBin1_eq, cE_neg, kNeg_int, cE_rev, kRev_tup, kRev_lst, kRev_fl, cE_isi, kIsi_d, kIsi_fl, r_isN, r_isNN, r_lts, r_les, r_gts, r_ges, r_addbi, r_strb, r_strs, kMe1_supp, r_in_sl, r_in_st, r_ni_sl, r_ni_st, r_in_it, r_ni_it, cE_unot, kNot_bl, cE_band, cE_bor, cE_cmp, kCmp1_eq, cE_ife, cE_tup, cE_lst, kTup0, kTup1, kTup2, kTup3, kTup4, kTup5, kLst0, kLst1, kLst2, kLst3, kLst4, kLst5, cE_call, cE_bi, cE_idx, kIdx1_eq, cE_slc, kSlc1_eq, kSlc2_eq, kSlc3_lst, kSlc3_fl, kSlc3_tup, kSlc3_sq, cE_meth, cE_dct, cE_mkd, kMkd_lst, cE_lzip, cL_nil, cL_cons, kRow_eq, kCons_d, kCons_ref, kCons_fl, kCons_sq, cO_nop, cO_sb, kSb_int, cP_nil, cP_cons, kPr1_d, kPr2_d, kPr2_fl, kPr3_s, kPr3_i, cT_nil, cT_cons, cI_rng, cI_rng2, cI_zip, kZip_tt, kZip_ll, cI_it, kIt_lst, kIt_tup, kIt_fl, kIt_str, ckd_none, unl_none, cN_0, cN_S, kEn_eq, cB_nm, cB_tup, cBs_nil, cBs_cons, kBs_eq, cE_lc, kLc_eq, kLt1_eq, kLt3_d, kLt3_fl, cG_d, cG_ref, cG_sq, cG_fl, cG_fd, cA_d, cA_ref, cA_fl, cA_fd, cG_pt, cG_unl, cG_star, cG_ix, cG_ixl, kIx1_eq, cS_asg, kAsg_eq, kNx_eq, cS_par, kPar_eq, cR_nil, cR_cons, kRw_nd, kRw_nf, kRw_nr, kRw_ad, kRw_af, kRw_ar, cW_nil, cW_nd, cW_nr, cW_ad, cW_ar, cW_af, kWs_eq, cS_ret, kRt_eq, cS_ex, kEx_eq, cS_if, cS_cons, cS_nil, cS_brk, cS_cnt, cS_pass, kSeq_nx, kSeq_ret, kSeq_bk, kSeq_ct, cS_for, kFor_eq, kBody_eq, kTurn_nx, kTurn_ct, kTurn_bk, kTurn_ret, cS_whl, kWTurn_nx, kWTurn_ct, kWTurn_bk, kWTurn_ret, kFin_ret, kFin_nx, finish_d, finish_fl, finish_fd, finish_sq, r_add, r_addb, r_sub, r_mul, r_div, r_mod, r_pow, r_shl, r_shr, r_and, r_adds, r_addt, r_addl, r_eqi, r_nei, r_eqs, r_nes, r_eqt0, r_net0, r_eql0, r_nel0, r_lt, r_le, r_gt, r_ge, r_lenl, r_lent, r_lens, r_tupl, r_tupt, r_lisl, r_list, r_inti, r_abs, r_max, r_min, t2_0, t2_1, t2_2, t2_3, t2_4, l2_0, l2_1, l2_2, l2_3, kRng_int, kRng2_int, ckd_some, unl_t, unl_f, oK_some, oC_some, oP_some, oW_some, kRet_ok, kLc2_t, kLc2_f, vIdx_dct, vPt_some, vUn_some, kLc3_d, kLc3_fl, kIf_t, kIf_f, kIf_p, kIf_n, kIte_t, kIte_f, kIte_p, kIte_n, kAnd_t, kAnd_f, kAnd_p, kAnd_n, kOr_t, kOr_f, kOr_p, kOr_n, kTst_t, kTst_f, kTst_p, kTst_n, kWTest_p, kWTest_n, kLt2_t, kLt2_f, kLt2_p, kCall_0, kCall_r0, kCall_r1, kCall_r2, kR0_d, kR0_fl, kR0_fd, kR1_d, kR1_fl, kR1_fd, kR1_ref, m_pop1, m_pop0, m_app, vTy_lst, kMe1_pop, kMe1_app, kMe1_ext, kMe1_idx, m_ext, bin_fl1, bin_fl2, vBin_dd, cmp_fl1, cmp_fl2, vCmp_dd, vBi_1, idx_fl, idx_fd, vIdx_dd, vSlc_d, if_fl, st21, st32, r_intt, r_intf, r_intp, r_zipt])
local macro_rules | `(tactic| walk_at "lfs") => `(tactic| simp -implicitDefEqProofs (disch := (first | with_reducible assumption | omega | decide +kernel | (simp only [List.length_cons, List.length_nil, List.length_map, List.length_append, List.length_take, List.length_drop, List.length_reverse, tap_len]; omega) | exact of_decide_eq_true (id rfl) | fail)) only [↓cE_non, ↓cE_bl, ↓cE_int, ↓cE_str, ↓cE_var0, ↓cE_varS, ↓cE_glb, ↓cE_bin, ↓kBin1_eq, ↓cE_neg, ↓kNeg_int, ↓cE_rev, ↓kRev_tup, ↓kRev_lst, ↓kRev_fl, ↓cE_isi, ↓kIsi_d, ↓kIsi_fl, ↓r_isN, ↓r_isNN, ↓r_lts, ↓r_les, ↓r_gts, ↓r_ges, ↓r_addbi, ↓r_strb, ↓r_strs, ↓kMe1_supp, ↓r_in_sl, ↓r_in_st, ↓r_ni_sl, ↓r_ni_st, ↓r_in_it, ↓r_ni_it, ↓cE_unot, ↓kNot_bl, ↓cE_band, ↓cE_bor, ↓cE_cmp, ↓kCmp1_eq, ↓cE_ife, ↓cE_tup, ↓cE_lst, ↓kTup0, ↓kTup1, ↓kTup2, ↓kTup3, ↓kTup4, ↓kTup5, ↓kLst0, ↓kLst1, ↓kLst2, ↓kLst3, ↓kLst4, ↓kLst5, ↓cE_call, ↓cE_bi, ↓cE_idx, ↓kIdx1_eq, ↓cE_slc, ↓kSlc1_eq, ↓kSlc2_eq, ↓kSlc3_lst, ↓kSlc3_fl, ↓kSlc3_tup, ↓kSlc3_sq, ↓cE_meth, ↓cE_dct, ↓cE_mkd, ↓kMkd_lst, ↓cE_lzip, ↓cL_nil, ↓cL_cons, ↓kRow_eq, ↓kCons_d, ↓kCons_ref, ↓kCons_fl, ↓kCons_sq, ↓cO_nop, ↓cO_sb, ↓kSb_int, ↓cP_nil, ↓cP_cons, ↓kPr1_d, ↓kPr2_d, ↓kPr2_fl, ↓kPr3_s, ↓kPr3_i, ↓cT_nil, ↓cT_cons, ↓cI_rng, ↓cI_rng2, ↓cI_zip, ↓kZip_tt, ↓kZip_ll, ↓cI_it, ↓kIt_lst, ↓kIt_tup, ↓kIt_fl, ↓kIt_str, ↓ckd_none, ↓unl_none, ↓cN_0, ↓cN_S, ↓kEn_eq, ↓cB_nm, ↓cB_tup, ↓cBs_nil, ↓cBs_cons, ↓kBs_eq, ↓cE_lc, ↓kLc_eq, ↓kLt1_eq, ↓kLt3_d, ↓kLt3_fl, ↓cG_d, ↓cG_ref, ↓cG_sq, ↓cG_fl, ↓cG_fd, ↓cA_d, ↓cA_ref, ↓cA_fl, ↓cA_fd, ↓cG_pt, ↓cG_unl, ↓cG_star, ↓cG_ix, ↓cG_ixl, ↓kIx1_eq, ↓cS_asg, ↓kAsg_eq, ↓kNx_eq, ↓cS_par, ↓kPar_eq, ↓cR_nil, ↓cR_cons, ↓kRw_nd, ↓kRw_nf, ↓kRw_nr, ↓kRw_ad, ↓kRw_af, ↓kRw_ar, ↓cW_nil, ↓cW_nd, ↓cW_nr, ↓cW_ad, ↓cW_ar, ↓cW_af, ↓kWs_eq, ↓cS_ret, ↓kRt_eq, ↓cS_ex, ↓kEx_eq, ↓cS_if, ↓cS_cons, ↓cS_nil, ↓cS_brk, ↓cS_cnt, ↓cS_pass, ↓kSeq_nx, ↓kSeq_ret, ↓kSeq_bk, ↓kSeq_ct, ↓cS_for, ↓kFor_eq, ↓kBody_eq, ↓kTurn_nx, ↓kTurn_ct, ↓kTurn_bk, ↓kTurn_ret, ↓cS_whl, ↓kWTurn_nx, ↓kWTurn_ct, ↓kWTurn_bk, ↓kWTurn_ret, ↓kFin_ret, ↓kFin_nx, ↓finish_d, ↓finish_fl, ↓finish_fd, ↓finish_sq, ↓r_add, ↓r_addb, ↓r_sub, ↓r_mul, ↓r_div, ↓r_mod, ↓r_pow, ↓r_shl, ↓r_shr, ↓r_and, ↓r_adds, ↓r_addt, ↓r_addl, ↓r_eqi, ↓r_nei, ↓r_eqs, ↓r_nes, ↓r_eqt0, ↓r_net0, ↓r_eql0, ↓r_nel0, ↓r_lt, ↓r_le, ↓r_gt, ↓r_ge, ↓r_lenl, ↓r_lent, ↓r_lens, ↓r_tupl, ↓r_tupt, ↓r_lisl, ↓r_list, ↓r_inti, ↓r_abs, ↓r_max, ↓r_min, ↓t2_0, ↓t2_1, ↓t2_2, ↓t2_3, ↓t2_4, ↓l2_0, ↓l2_1, ↓l2_2, ↓l2_3, ↓kRng_int, ↓kRng2_int, ↓ckd_some, ↓unl_t, ↓unl_f, ↓oK_some, ↓oC_some, ↓oP_some, ↓oW_some, ↓kRet_ok, ↓kLc2_t, ↓kLc2_f, ↓vIdx_dct, ↓vPt_some, ↓vUn_some, ↓kLc3_d, ↓kLc3_fl, ↓kIf_t, ↓kIf_f, ↓kIf_p, ↓kIf_n, ↓kIte_t, ↓kIte_f, ↓kIte_p, ↓kIte_n, ↓kAnd_t, ↓kAnd_f, ↓kAnd_p, ↓kAnd_n, ↓kOr_t, ↓kOr_f, ↓kOr_p, ↓kOr_n, ↓kTst_t, ↓kTst_f, ↓kTst_p, ↓kTst_n, ↓kWTest_p, ↓kWTest_n, ↓kLt2_t, ↓kLt2_f, ↓kLt2_p, ↓kCall_0, ↓kCall_r0, ↓kCall_r1, ↓kCall_r2, ↓kR0_d, ↓kR0_fl, ↓kR0_fd, ↓kR1_d, ↓kR1_fl, ↓kR1_fd, ↓kR1_ref, ↓m_pop1, ↓m_pop0, ↓m_app, ↓vTy_lst, ↓kMe1_pop, ↓kMe1_app, ↓kMe1_ext, ↓kMe1_idx, ↓m_ext, ↓bin_fl1, ↓bin_fl2, ↓vBin_dd, ↓cmp_fl1, ↓cmp_fl2, ↓vCmp_dd, ↓vBi_1, ↓idx_fl, ↓idx_fd, ↓vIdx_dd, ↓vSlc_d, ↓if_fl, ↓st21, ↓st32, ↓r_intt, ↓r_intf, ↓r_intp, ↓r_zipt, ↓Int.toNat_natCast, ↓uMarkW, ↓if_pos, ↓if_neg, ↓reduceIte, kSlc3_str, r_stri, m_supp, isD_tup_non, isD_tup_bl, isD_tup_int, isD_tup_str, isD_tup_tup, isD_tup_lst, isD_lst_non, isD_lst_bl, isD_lst_int, isD_lst_str, isD_lst_tup, isD_lst_lst, isD_str_non, isD_str_bl, isD_str_int, isD_str_str, isD_str_tup, isD_str_lst, isD_int_non, isD_int_bl, isD_int_int, isD_int_str, isD_int_tup, isD_int_lst, isD_bl_non, isD_bl_bl, isD_bl_int, isD_bl_str, isD_bl_tup, isD_bl_lst, isD_dct_non, isD_dct_bl, isD_dct_int, isD_dct_str, isD_dct_tup, isD_dct_lst, isN_non, isN_bl, isN_int, isN_str, isN_tup, isN_lst, r_intb, bin_ref1, bin_ref2, cmp_ref1, cmp_ref2, bi_ref, idx_ref, slc_ref, r_eq, r_ne, kAnd_bl, kOr_bl, kIte_bl, kTst_bl, kIf_bl, kWTest_bl, kLt2_eq, kNot_eq, kAnd_eq, kOr_eq, kIte_eq, kTup_eq, kLst_eq, kIdx2_dd, vPop_lst, vPop0_lst, vApp_lst, emp_snoc, vExt_lst, m_tidx, idx_tmap, idx_lmap, kDct_eq, kLzip_eq, kTst_eq, kIt_ref, vWk_lst, vWk_lk, kIf_eq, kWTest_eq, kIx2_d, kRw_eq, kGl_some, finish_old, finish_new, vFin_lst, vFin_dct, cLc_nil, cLc_cons, kLc1_eq, kLc2_eq, cFor_nil, cFor_cons, view_d, view_fl, view_ref, vwC_lst, vwC_lk, vwC_dct, viewD_ref, viewD_d, viewD_fl, viewD_fd, vwD_lst, vwD_lk, vwD_dct, views_nil, views_cons, cnsO_some, frzs_nil, frzs_d, cnsF_some, putIx_ref, pIx_s, pIx_i, pIx_l, dGet_hit, dGet_miss, renW_self, renW_d, renW_sq, truW, tup_ok, lst_ok, List.map_cons, List.map_nil, List.all_cons, List.all_nil, List.contains_cons, List.contains_nil, List.elem_nil, List.getD_cons_zero, List.getD_cons_succ, List.getElem?_cons_zero, List.getElem?_cons_succ, List.getElem?_nil, List.set_cons_zero, List.set_cons_succ, List.length_cons, List.length_nil, List.nil_append, List.cons_append, List.append_nil, List.take_zero, List.take_succ_cons, List.take_nil, Bool.true_and, Bool.and_true, Bool.false_and, Bool.and_false, Bool.not_true, Bool.not_false, Bool.true_or, Bool.or_true, decide_eq_true_eq, Bool.not_eq_true', decide_eq_false_iff_not, reduceCtorEq, if_true, if_false, ite_true, ite_false, Bool.false_eq_true, Option.map_some, List.idxOf_cons, beq_self_eq_true, Nat.zero_add, cond_true, cond_false, D.truO, D.tru, List.isEmpty_cons, List.isEmpty_nil, Int.toNat_zero, List.length_map, clearO_nil, clearO_cons, Option.map_none, star_t, star_l, cut_pre, cut_suf, cut_mid, cut_all, take_map, drop_map, b2i_t, b2i_f, cut_tail, drop_one, toNat_1, toNat_2, toNat_3, List.drop_zero, cE_non, cE_bl, cE_int, cE_str, cE_var0, cE_varS, cE_glb, cE_bin, kBin1_eq, cE_neg, kNeg_int, cE_rev, kRev_tup, kRev_lst, kRev_fl, cE_isi, kIsi_d, kIsi_fl, r_isN, r_isNN, r_lts, r_les, r_gts, r_ges, r_addbi, r_strb, r_strs, kMe1_supp, r_in_sl, r_in_st, r_ni_sl, r_ni_st, r_in_it, r_ni_it, cE_unot, kNot_bl, cE_band, cE_bor, cE_cmp, kCmp1_eq, cE_ife, cE_tup, cE_lst, kTup0, kTup1, kTup2, kTup3, kTup4, kTup5, kLst0, kLst1, kLst2, kLst3, kLst4, kLst5, cE_call, cE_bi, cE_idx, kIdx1_eq, cE_slc, kSlc1_eq, kSlc2_eq, kSlc3_lst, kSlc3_fl, kSlc3_tup, kSlc3_sq, cE_meth, cE_dct, cE_mkd, kMkd_lst, cE_lzip, cL_nil, cL_cons, kRow_eq, kCons_d, kCons_ref, kCons_fl, kCons_sq, cO_nop, cO_sb, kSb_int, cP_nil, cP_cons, kPr1_d, kPr2_d, kPr2_fl, kPr3_s, kPr3_i, cT_nil, cT_cons, cI_rng, cI_rng2, cI_zip, kZip_tt, kZip_ll, cI_it, kIt_lst, kIt_tup, kIt_fl, kIt_str, ckd_none, unl_none, cN_0, cN_S, kEn_eq, cB_nm, cB_tup, cBs_nil, cBs_cons, kBs_eq, cE_lc, kLc_eq, kLt1_eq, kLt3_d, kLt3_fl, cG_d, cG_ref, cG_sq, cG_fl, cG_fd, cA_d, cA_ref, cA_fl, cA_fd, cG_pt, cG_unl, cG_star, cG_ix, cG_ixl, kIx1_eq, cS_asg, kAsg_eq, kNx_eq, cS_par, kPar_eq, cR_nil, cR_cons, kRw_nd, kRw_nf, kRw_nr, kRw_ad, kRw_af, kRw_ar, cW_nil, cW_nd, cW_nr, cW_ad, cW_ar, cW_af, kWs_eq, cS_ret, kRt_eq, cS_ex, kEx_eq, cS_if, cS_cons, cS_nil, cS_brk, cS_cnt, cS_pass, kSeq_nx, kSeq_ret, kSeq_bk, kSeq_ct, cS_for, kFor_eq, kBody_eq, kTurn_nx, kTurn_ct, kTurn_bk, kTurn_ret, cS_whl, kWTurn_nx, kWTurn_ct, kWTurn_bk, kWTurn_ret, kFin_ret, kFin_nx, finish_d, finish_fl, finish_fd, finish_sq, r_add, r_addb, r_sub, r_mul, r_div, r_mod, r_pow, r_shl, r_shr, r_and, r_adds, r_addt, r_addl, r_eqi, r_nei, r_eqs, r_nes, r_eqt0, r_net0, r_eql0, r_nel0, r_lt, r_le, r_gt, r_ge, r_lenl, r_lent, r_lens, r_tupl, r_tupt, r_lisl, r_list, r_inti, r_abs, r_max, r_min, t2_0, t2_1, t2_2, t2_3, t2_4, l2_0, l2_1, l2_2, l2_3, kRng_int, kRng2_int, ckd_some, unl_t, unl_f, oK_some, oC_some, oP_some, oW_some, kRet_ok, kLc2_t, kLc2_f, vIdx_dct, vPt_some, vUn_some, kLc3_d, kLc3_fl, kIf_t, kIf_f, kIf_p, kIf_n, kIte_t, kIte_f, kIte_p, kIte_n, kAnd_t, kAnd_f, kAnd_p, kAnd_n, kOr_t, kOr_f, kOr_p, kOr_n, kTst_t, kTst_f, kTst_p, kTst_n, kWTest_p, kWTest_n, kLt2_t, kLt2_f, kLt2_p, kCall_0, kCall_r0, kCall_r1, kCall_r2, kR0_d, kR0_fl, kR0_fd, kR1_d, kR1_fl, kR1_fd, kR1_ref, m_pop1, m_pop0, m_app, vTy_lst, kMe1_pop, kMe1_app, kMe1_ext, kMe1_idx, m_ext, bin_fl1, bin_fl2, vBin_dd, cmp_fl1, cmp_fl2, vCmp_dd, vBi_1, idx_fl, idx_fd, vIdx_dd, vSlc_d, if_fl, st21, st32, r_intt, r_intf, r_intp, r_zipt, *])
def bMarked (f : Nat) : S := (.cons (.asg (.al 2) (.lst (.cons (.str "a") (.cons (.str "ab") (.cons (.str "age") (.cons (.str "b") (.cons (.str "leaf") (.cons (.str "no") (.cons (.str "yes") (.cons (.str "zzzzzzzz") .nil))))))))))
 (.cons (.whl (.cmp .Gt (.bi .len (.cons (.var 2) .nil)) (.var 1))
 (bMarkW f))
 (.cons (.ret (.bi .tuple (.cons (.var 2) .nil)))
 .nil)))
def fMarked (f : Nat) : Fd := ⟨2, 3, bMarked f⟩
theorem mark_loop {U : Pg} {n f : Nat} {m : Int} {β : Type} {X : Xk β} (tk : ∀ (t : Tap) (m : Int), 0 < m ∧ m < 1073741824 → 0 ≤ t.calls ∧ t.calls < 60000000 → callN U n f [.ref 0, .d (.int m)] [t.c] = .ok (.d (.int (t.val m)), [(t.nxt m).c])) (hm : 0 ≤ m) {K : Fl → En → Cells → Res β} :
    ∀ (j k : Nat) (p : List Str) (t : Tap), p.length ≤ j → j < k → p.length ≤ 100 → 0 ≤ t.calls → t.calls + j < 60000000 →
      cWh (fnsN U n) X (.cmp .Gt (.bi .len (.cons (.var 2) .nil)) (.var 1)) (bMarkW f) k [some (.ref 0), some (.d (.int m)), some (.ref 1)] [t.c, .lst (sD p)] K = K .nx [some (.ref 0), some (.d (.int m)), some (.ref 1)] [(t.mkd j p m).2.c, .lst (sD (t.mkd j p m).1)]
  | j, 0, _, _, _, h, _, _, _ => by omega
  | j, k + 1, p, t, hj, hk, hp, h0, hc => by
    rw [cWh_S]
    by_cases h : m < p.length
    · obtain ⟨j, rfl⟩ : ∃ i, j = i + 1 := ⟨j - 1, by omega⟩
      have b := Tap.val_b (t := t) (m := p.length) (by omega)
      have tk1 := tk t p.length ⟨by omega, by omega⟩ ⟨by omega, by omega⟩
      simp only [Tap.mkd]
      rw [if_pos h]
      have tk' := mark_loop (K := K) (X := X) (n := n) tk hm j k
      have hl : (p.eraseIdx (t.val p.length).toNat).length = p.length - 1 := by rw [List.length_eraseIdx_of_lt (by omega)]
      have tk2 := tk' (p.eraseIdx (t.val p.length).toNat) (t.nxt p.length) (by omega) (by omega) (by omega) (by rw [Tap.nxt_calls]; omega) (by rw [Tap.nxt_calls]; omega)
      clear tk tk'
      have hm : (sD p).eraseIdx (t.val p.length).toNat = sD (p.eraseIdx (t.val p.length).toNat) := map_erase _ _ _
      walk_at "lfs"
    · walk_at "lf"
      cases j with
      | zero => rfl
      | succ j => simp only [Tap.mkd]; rw [if_neg h]
theorem mkd_calls : ∀ (j : Nat) (t : Tap) (p : List Str) (m : Int), t.calls ≤ (t.mkd j p m).2.calls ∧ (t.mkd j p m).2.calls ≤ t.calls + j
  | 0, _, _, _ => by simp [Tap.mkd]
  | j + 1, t, p, m => by
    simp only [Tap.mkd]
    split
    · have := mkd_calls j (t.nxt p.length) (p.eraseIdx (t.val p.length).toNat) m
      rw [Tap.nxt_calls] at this
      omega
    · simp; omega
theorem marked_ok {U : Pg} {n i f : Nat} {t : Tap} {m : Int} (hi : U.fns[i]? = some (fMarked f)) (hf : U.fns[f]? = some fTake) (hU : U.fuel = 100) (hm : 0 ≤ m) (hc : 0 ≤ t.calls ∧ t.calls < 50000000) :
    callN U (n + 2) i [.ref 0, .d (.int m)] [t.c] = .ok (.d (.tup (sD (t.marked m).1)), [(t.marked m).2.c]) := by
  rw [run_def hi ⟨rfl, by show 2 ≤ 3; decide⟩]
  simp only [fMarked, bMarked, List.map, List.replicate, Nat.reduceSub, hU]
  have e : [D.str "a", .str "ab", .str "age", .str "b", .str "leaf", .str "no", .str "yes", .str "zzzzzzzz"] = sD pool8 := rfl
  walk_at "lfs"
  have hl : pool8.length = 8 := rfl
  have h := mark_loop (X := fun x y z => .rs x y z) (fun t m h1 h2 => take_ok (n := n) hf h1 h2) hm (K := kSeq (fnsN U (n + 1)) (fun x y z => .rs x y z) ((S.ret (T.bi Bi.tuple ((T.var 2).cons T.nil))).cons S.nil)
        (kFin 1)) 8 100 pool8 t (by omega) (by omega) (by omega) (by omega) (by omega)
  rw [h]
  walk_at "lf"
  rfl
/-! ### trees -/
theorem fm_ne {α : Type} [DecidableEq α] (m : α) : ∀ xs : List α, xs.filterMap (fun x => if x = m then none else some x) = xs.filter (· ≠ m)
  | [] => rfl
  | x :: xs => by
    by_cases h : x = m
    · rw [List.filterMap_cons_none (by simp [h]), fm_ne m xs, List.filter_cons_of_neg (by simp [h])]
    · rw [List.filterMap_cons_some (b := x) (by simp [h]), fm_ne m xs, List.filter_cons_of_pos (by simp [h])]
inductive Tr where
  | leaf (b : Bool) | ask (m : Str) (n y : Tr)
  deriving DecidableEq, Inhabited
def Tr.d : Tr → D
  | .leaf b => .tup [.str "leaf", .bl b]
  | .ask m n y => .tup [.str "ask", .str m, n.d, y.d]
def Tr.depth : Tr → Nat
  | .leaf _ => 0
  | .ask _ n y => max n.depth y.depth + 1
/-- a tree of marks -/
def Tr.on : Tr → List Str → Prop
  | .leaf _, _ => True
  | .ask m n y, ms => m ∈ ms ∧ n.on (ms.filter (· ≠ m)) ∧ y.on (ms.filter (· ≠ m))
/-- a tree of marks, so deep at most -/
def Tap.tree : Nat → Tap → List Str → Tr × Tap
  | 0, t, _ => (.leaf (decide (t.val 2 = 0)), t.nxt 2)
  | d + 1, t, ms => if ms = [] then (.leaf (decide (t.val 2 = 0)), t.nxt 2) else
      if t.val 4 = 0 then (.leaf (decide ((t.nxt 4).val 2 = 0)), (t.nxt 4).nxt 2) else
      let m := ms.getD ((t.nxt 4).val ms.length).toNat default
      let n := Tap.tree d ((t.nxt 4).nxt ms.length) (ms.filter (· ≠ m))
      let y := Tap.tree d n.2 (ms.filter (· ≠ m))
      (.ask m n.1 y.1, y.2)
def bTree (f g : Nat) : S := (.cons (.ife (.bor (.cmp .Eq (.var 2) (.int 0)) (.bor (.cmp .Eq (.var 1) (.tup .nil)) (.cmp .Eq (.call f (.cons (.var 0) (.cons (.int 4) .nil))) (.int 0))))
 (.cons (.ret (.tup (.cons (.str "leaf") (.cons (.cmp .Eq (.call f (.cons (.var 0) (.cons (.int 2) .nil))) (.int 0)) .nil))))
 .nil)
 .nil)
 (.cons (.asg (.nm 3) (.idx (.var 1) (.call f (.cons (.var 0) (.cons (.bi .len (.cons (.var 1) .nil)) .nil)))))
 (.cons (.asg (.nm 4) (.bi .tuple (.cons (.lc [5] (.var 5) (.nm 5) (.it (.var 1)) (.cons (.cmp .NotEq (.var 5) (.var 3)) .nil)) .nil)))
 (.cons (.ret (.tup (.cons (.str "ask") (.cons (.var 3) (.cons (.call g (.cons (.var 0) (.cons (.var 4) (.cons (.bin .Sub (.var 2) (.int 1)) .nil)))) (.cons (.call g (.cons (.var 0) (.cons (.var 4) (.cons (.bin .Sub (.var 2) (.int 1)) .nil)))) .nil))))))
 .nil))))
def fTree (f g : Nat) : Fd := ⟨3, 6, bTree f g⟩
theorem tree_calls : ∀ (d : Nat) (t : Tap) (ms : List Str), t.calls ≤ (t.tree d ms).2.calls ∧ (t.tree d ms).2.calls + 2 ≤ t.calls + 3 * 2 ^ d
  | 0, t, ms => by simp only [Tap.tree, Tap.nxt_calls]; omega
  | d + 1, t, ms => by
    simp only [Tap.tree]
    split
    · simp only [Tap.nxt_calls]; have := Nat.one_le_two_pow (n := d); rw [Int.pow_succ]; have : (1 : Int) ≤ 2 ^ d := by exact_mod_cast this
      omega
    · split
      · simp only [Tap.nxt_calls]; have := Nat.one_le_two_pow (n := d); rw [Int.pow_succ]; have : (1 : Int) ≤ 2 ^ d := by exact_mod_cast this
        omega
      · have a := tree_calls d ((t.nxt 4).nxt ms.length) (ms.filter (· ≠ ms.getD ((t.nxt 4).val ms.length).toNat default))
        have b := tree_calls d (Tap.tree d ((t.nxt 4).nxt ms.length) (ms.filter (· ≠ ms.getD ((t.nxt 4).val ms.length).toNat default))).2 (ms.filter (· ≠ ms.getD ((t.nxt 4).val ms.length).toNat default))
        simp only [Tap.nxt_calls] at a b
        rw [Int.pow_succ]
        dsimp only
        omega
theorem tree_ok {U : Pg} {i f : Nat} (hi : U.fns[i]? = some (fTree f i)) (hf : U.fns[f]? = some fTake) : ∀ (d n : Nat) (t : Tap) (ms : List Str), d < n → ms.length ≤ 100 → d ≤ 10 → 0 ≤ t.calls → t.calls + 3 * 2 ^ d < 50000000 →
    callN U (n + 1) i [.ref 0, .d (.tup (sD ms)), .d (.int d)] [t.c] = .ok (.d (t.tree d ms).1.d, [(t.tree d ms).2.c])
  | d, 0, _, _, h, _, _, _, _ => by omega
  | 0, n + 1, t, ms, _, hl, _, h0, hc => by
    rw [run_def hi ⟨rfl, by show 3 ≤ 6; decide⟩]
    simp only [fTree, bTree, List.map, List.replicate, Nat.reduceSub]
    have tk := take_ok (n := n) hf (t := t) (m := 2) (by omega) (by omega)
    simp only [Tap.tree, Tr.d]
    walk_at "lfs"
  | d + 1, n + 1, t, ms, hd, hl, h10, h0, hc => by
    rw [run_def hi ⟨rfl, by show 3 ≤ 6; decide⟩]
    simp only [fTree, bTree, List.map, List.replicate, Nat.reduceSub]
    have hp : (1 : Int) ≤ 2 ^ d := by exact_mod_cast Nat.one_le_two_pow (n := d)
    rw [Int.pow_succ] at hc
    have z0 : ¬ (((d + 1 : Nat) : Int) = 0) := by omega
    have z1 : ((d + 1 : Nat) : Int) - 1 = (d : Int) := by omega
    have tk4 := take_ok (n := n) hf (t := t) (m := 4) (by omega) (by omega)
    have tk2 := take_ok (n := n) hf (t := t) (m := 2) (by omega) (by omega)
    have tk42 := take_ok (n := n) hf (t := t.nxt 4) (m := 2) (by omega) (by rw [Tap.nxt_calls]; omega)
    cases ms with
    | nil =>
      simp only [Tap.tree, Tr.d]
      walk_at "lfs"
      rfl
    | cons m0 mr =>
      have hne : ¬ (m0 :: mr = []) := by simp
      have he : (sD (m0 :: mr)).isEmpty = false := rfl
      revert hl hne he
      generalize m0 :: mr = ms
      intro hl hne he
      have hl0 : 0 < ms.length := by
        cases ms with
        | nil => exact absurd rfl hne
        | cons _ _ => simp
      simp only [Tap.tree]
      rw [if_neg hne]
      by_cases h4 : t.val 4 = 0
      · rw [if_pos h4]
        simp only [Tr.d]
        walk_at "lfs"
      · rw [if_neg h4]
        have tkm := take_ok (n := n) hf (t := t.nxt 4) (m := ms.length) (by omega) (by rw [Tap.nxt_calls]; omega)
        have vb := Tap.val_b (t := t.nxt 4) (m := ms.length) (by omega)
        have c1 := tree_calls d ((t.nxt 4).nxt ms.length) (ms.filter (· ≠ ms.getD ((t.nxt 4).val ms.length).toNat default))
        have hfl : (ms.filter (· ≠ ms.getD ((t.nxt 4).val ms.length).toNat default)).length ≤ 100 := Nat.le_trans (List.length_filter_le _ _) hl
        have ih1 := tree_ok hi hf d n ((t.nxt 4).nxt ms.length) (ms.filter (· ≠ ms.getD ((t.nxt 4).val ms.length).toNat default)) (by omega) hfl (by omega) (by simp only [Tap.nxt_calls]; omega) (by simp only [Tap.nxt_calls]; omega)
        simp only [Tap.nxt_calls] at c1
        have ih2 := tree_ok hi hf d n (Tap.tree d ((t.nxt 4).nxt ms.length) (ms.filter (· ≠ ms.getD ((t.nxt 4).val ms.length).toNat default))).2 (ms.filter (· ≠ ms.getD ((t.nxt 4).val ms.length).toNat default)) (by omega) hfl (by omega) (by omega) (by omega)
        walk_at "lfs"
        refine lc_fms (as := ms) (f' := .str) (fun x => if x = ms.getD ((t.nxt 4).val ms.length).toNat default then none else some x) (by omega) (fun x _ K => ?_) ?_
        · by_cases hx : x = ms.getD ((t.nxt 4).val ms.length).toNat default <;> walk_at "lfs" <;> rfl
        · rw [fm_ne]
          simp only [Tr.d]
          walk_at "lfs"
end Lf
end

section
set_option maxHeartbeats 4000000
namespace Lf
open PySem
/-! ### all truths -/
def rowsN : Nat → List (List Bool)
  | 0 => [[]]
  | n + 1 => (rowsN n).map (false :: ·) ++ (rowsN n).map (true :: ·)
def rowD (r : List Bool) : D := .tup (bD r)
theorem rowsN_len : ∀ n, (rowsN n).length = 2 ^ n
  | 0 => rfl
  | n + 1 => by simp [rowsN, rowsN_len n, Nat.pow_succ]; omega
theorem rowsN_mem : ∀ {n : Nat} {r : List Bool}, r ∈ rowsN n → r.length = n
  | 0, r, h => by simp [rowsN] at h; simp [h]
  | n + 1, r, h => by
    simp only [rowsN, List.mem_append, List.mem_map] at h
    rcases h with ⟨q, hq, rfl⟩ | ⟨q, hq, rfl⟩ <;> simp [rowsN_mem hq]
def wRows : S := (.cons (.asg (.nm 1) (.bin .Add (.lc [3] (.bin .Add (.tup (.cons (.bl false) .nil)) (.var 3)) (.nm 3) (.it (.var 1)) .nil) (.lc [3] (.bin .Add (.tup (.cons (.bl true) .nil)) (.var 3)) (.nm 3) (.it (.var 1)) .nil)))
 .nil)
theorem u_wRows {β : Type} {F : Fns} {X : Xk β} {env : En} {c : Cells} {K : Fl → En → Cells → Res β} : cS F X wRows env c K = cS F X (.asg (.nm 1) (.bin .Add (.lc [3] (.bin .Add (.tup (.cons (.bl false) .nil)) (.var 3)) (.nm 3) (.it (.var 1)) .nil) (.lc [3] (.bin .Add (.tup (.cons (.bl true) .nil)) (.var 3)) (.nm 3) (.it (.var 1)) .nil))) env c (kSeq F X .nil K) := by rw [wRows, cS_cons]
def bRows : S := (.cons (.asg (.nm 1) (.lst (.cons (.tup .nil) .nil)))
 (.cons (.forr (.nm 2) (.rng (.cons (.bi .len (.cons (.var 0) .nil)) .nil))
wRows)
 (.cons (.ret (.var 1))
 .nil)))
def fRows : Fd := ⟨1, 4, bRows⟩
local macro_rules | `(tactic| walk_at "lf") => `(tactic| simp -implicitDefEqProofs (disch := (first | with_reducible assumption | omega | decide +kernel | (simp only [List.length_cons, List.length_nil, List.length_map, List.length_append, List.length_take, List.length_drop, List.length_reverse, tap_len]; omega) | exact of_decide_eq_true (id rfl) | fail)) only [↓cE_non, ↓cE_bl, ↓cE_int, ↓cE_str, ↓cE_var0, ↓cE_varS, ↓cE_glb, ↓cE_bin, ↓kBin1_eq, ↓cE_neg, ↓kNeg_int, ↓cE_rev, ↓kRev_tup, ↓kRev_lst, ↓kRev_fl, ↓cE_isi, ↓kIsi_d, ↓kIsi_fl, ↓r_isN, ↓r_isNN, ↓r_lts, ↓r_les, ↓r_gts, ↓r_ges, ↓r_addbi, ↓r_strb, ↓r_strs, ↓kMe1_supp, ↓r_in_sl, ↓r_in_st, ↓r_ni_sl, ↓r_ni_st, ↓r_in_it, ↓r_ni_it, ↓cE_unot, ↓kNot_bl, ↓cE_band, ↓cE_bor, ↓cE_cmp, ↓kCmp1_eq, ↓cE_ife, ↓cE_tup, ↓cE_lst, ↓kTup0, ↓kTup1, ↓kTup2, ↓kTup3, ↓kTup4, ↓kTup5, ↓kLst0, ↓kLst1, ↓kLst2, ↓kLst3, ↓kLst4, ↓kLst5, ↓cE_call, ↓cE_bi, ↓cE_idx, ↓kIdx1_eq, ↓cE_slc, ↓kSlc1_eq, ↓kSlc2_eq, ↓kSlc3_lst, ↓kSlc3_fl, ↓kSlc3_tup, ↓kSlc3_sq, ↓cE_meth, ↓cE_dct, ↓cE_mkd, ↓kMkd_lst, ↓cE_lzip, ↓cL_nil, ↓cL_cons, ↓kRow_eq, ↓kCons_d, ↓kCons_ref, ↓kCons_fl, ↓kCons_sq, ↓cO_nop, ↓cO_sb, ↓kSb_int, ↓cP_nil, ↓cP_cons, ↓kPr1_d, ↓kPr2_d, ↓kPr2_fl, ↓kPr3_s, ↓kPr3_i, ↓cT_nil, ↓cT_cons, ↓cI_rng, ↓cI_rng2, ↓cI_zip, ↓kZip_tt, ↓kZip_ll, ↓cI_it, ↓kIt_lst, ↓kIt_tup, ↓kIt_fl, ↓kIt_str, ↓ckd_none, ↓unl_none, ↓cN_0, ↓cN_S, ↓kEn_eq, ↓cB_nm, ↓cB_tup, ↓cBs_nil, ↓cBs_cons, ↓kBs_eq, ↓cE_lc, ↓kLc_eq, ↓kLt1_eq, ↓kLt3_d, ↓kLt3_fl, ↓cG_d, ↓cG_ref, ↓cG_sq, ↓cG_fl, ↓cG_fd, ↓cA_d, ↓cA_ref, ↓cA_fl, ↓cA_fd, ↓cG_pt, ↓cG_unl, ↓cG_star, ↓cG_ix, ↓cG_ixl, ↓kIx1_eq, ↓cS_asg, ↓kAsg_eq, ↓kNx_eq, ↓cS_par, ↓kPar_eq, ↓cR_nil, ↓cR_cons, ↓kRw_nd, ↓kRw_nf, ↓kRw_nr, ↓kRw_ad, ↓kRw_af, ↓kRw_ar, ↓cW_nil, ↓cW_nd, ↓cW_nr, ↓cW_ad, ↓cW_ar, ↓cW_af, ↓kWs_eq, ↓cS_ret, ↓kRt_eq, ↓cS_ex, ↓kEx_eq, ↓cS_if, ↓cS_cons, ↓cS_nil, ↓cS_brk, ↓cS_cnt, ↓cS_pass, ↓kSeq_nx, ↓kSeq_ret, ↓kSeq_bk, ↓kSeq_ct, ↓cS_for, ↓kFor_eq, ↓kBody_eq, ↓kTurn_nx, ↓kTurn_ct, ↓kTurn_bk, ↓kTurn_ret, ↓cS_whl, ↓kWTurn_nx, ↓kWTurn_ct, ↓kWTurn_bk, ↓kWTurn_ret, ↓kFin_ret, ↓kFin_nx, ↓finish_d, ↓finish_fl, ↓finish_fd, ↓finish_sq, ↓r_add, ↓r_addb, ↓r_sub, ↓r_mul, ↓r_div, ↓r_mod, ↓r_pow, ↓r_shl, ↓r_shr, ↓r_and, ↓r_adds, ↓r_addt, ↓r_addl, ↓r_eqi, ↓r_nei, ↓r_eqs, ↓r_nes, ↓r_eqt0, ↓r_net0, ↓r_eql0, ↓r_nel0, ↓r_lt, ↓r_le, ↓r_gt, ↓r_ge, ↓r_lenl, ↓r_lent, ↓r_lens, ↓r_tupl, ↓r_tupt, ↓r_lisl, ↓r_list, ↓r_inti, ↓r_abs, ↓r_max, ↓r_min, ↓t2_0, ↓t2_1, ↓t2_2, ↓t2_3, ↓t2_4, ↓l2_0, ↓l2_1, ↓l2_2, ↓l2_3, ↓kRng_int, ↓kRng2_int, ↓ckd_some, ↓unl_t, ↓unl_f, ↓oK_some, ↓oC_some, ↓oP_some, ↓oW_some, ↓kRet_ok, ↓kLc2_t, ↓kLc2_f, ↓vIdx_dct, ↓vPt_some, ↓vUn_some, ↓kLc3_d, ↓kLc3_fl, ↓kIf_t, ↓kIf_f, ↓kIf_p, ↓kIf_n, ↓kIte_t, ↓kIte_f, ↓kIte_p, ↓kIte_n, ↓kAnd_t, ↓kAnd_f, ↓kAnd_p, ↓kAnd_n, ↓kOr_t, ↓kOr_f, ↓kOr_p, ↓kOr_n, ↓kTst_t, ↓kTst_f, ↓kTst_p, ↓kTst_n, ↓kWTest_p, ↓kWTest_n, ↓kLt2_t, ↓kLt2_f, ↓kLt2_p, ↓kCall_0, ↓kCall_r0, ↓kCall_r1, ↓kCall_r2, ↓kR0_d, ↓kR0_fl, ↓kR0_fd, ↓kR1_d, ↓kR1_fl, ↓kR1_fd, ↓kR1_ref, ↓m_pop1, ↓m_pop0, ↓m_app, ↓vTy_lst, ↓kMe1_pop, ↓kMe1_app, ↓kMe1_ext, ↓kMe1_idx, ↓m_ext, ↓bin_fl1, ↓bin_fl2, ↓vBin_dd, ↓cmp_fl1, ↓cmp_fl2, ↓vCmp_dd, ↓vBi_1, ↓idx_fl, ↓idx_fd, ↓vIdx_dd, ↓vSlc_d, ↓if_fl, ↓st21, ↓st32, ↓r_intt, ↓r_intf, ↓r_intp, ↓r_zipt, ↓u_wRows, ↓if_pos, ↓if_neg, ↓reduceIte, kSlc3_str, r_stri, m_supp, isD_tup_non, isD_tup_bl, isD_tup_int, isD_tup_str, isD_tup_tup, isD_tup_lst, isD_lst_non, isD_lst_bl, isD_lst_int, isD_lst_str, isD_lst_tup, isD_lst_lst, isD_str_non, isD_str_bl, isD_str_int, isD_str_str, isD_str_tup, isD_str_lst, isD_int_non, isD_int_bl, isD_int_int, isD_int_str, isD_int_tup, isD_int_lst, isD_bl_non, isD_bl_bl, isD_bl_int, isD_bl_str, isD_bl_tup, isD_bl_lst, isD_dct_non, isD_dct_bl, isD_dct_int, isD_dct_str, isD_dct_tup, isD_dct_lst, isN_non, isN_bl, isN_int, isN_str, isN_tup, isN_lst, r_intb, bin_ref1, bin_ref2, cmp_ref1, cmp_ref2, bi_ref, idx_ref, slc_ref, r_eq, r_ne, kAnd_bl, kOr_bl, kIte_bl, kTst_bl, kIf_bl, kWTest_bl, kLt2_eq, kNot_eq, kAnd_eq, kOr_eq, kIte_eq, kTup_eq, kLst_eq, kIdx2_dd, vPop_lst, vPop0_lst, vApp_lst, emp_snoc, vExt_lst, m_tidx, idx_tmap, idx_lmap, kDct_eq, kLzip_eq, kTst_eq, kIt_ref, vWk_lst, vWk_lk, kIf_eq, kWTest_eq, kIx2_d, kRw_eq, kGl_some, finish_old, finish_new, vFin_lst, vFin_dct, cLc_nil, cLc_cons, kLc1_eq, kLc2_eq, cFor_nil, cFor_cons, view_d, view_fl, view_ref, vwC_lst, vwC_lk, vwC_dct, viewD_ref, viewD_d, viewD_fl, viewD_fd, vwD_lst, vwD_lk, vwD_dct, views_nil, views_cons, cnsO_some, frzs_nil, frzs_d, cnsF_some, putIx_ref, pIx_s, pIx_i, pIx_l, dGet_hit, dGet_miss, renW_self, renW_d, renW_sq, truW, tup_ok, lst_ok, List.map_cons, List.map_nil, List.all_cons, List.all_nil, List.contains_cons, List.contains_nil, List.elem_nil, List.getD_cons_zero, List.getD_cons_succ, List.getElem?_cons_zero, List.getElem?_cons_succ, List.getElem?_nil, List.set_cons_zero, List.set_cons_succ, List.length_cons, List.length_nil, List.nil_append, List.cons_append, List.append_nil, List.take_zero, List.take_succ_cons, List.take_nil, Bool.true_and, Bool.and_true, Bool.false_and, Bool.and_false, Bool.not_true, Bool.not_false, Bool.true_or, Bool.or_true, decide_eq_true_eq, Bool.not_eq_true', decide_eq_false_iff_not, reduceCtorEq, if_true, if_false, ite_true, ite_false, Bool.false_eq_true, Option.map_some, List.idxOf_cons, beq_self_eq_true, Nat.zero_add, cond_true, cond_false, D.truO, D.tru, List.isEmpty_cons, List.isEmpty_nil, Int.toNat_zero, List.length_map, clearO_nil, clearO_cons, Option.map_none, star_t, star_l, cut_pre, cut_suf, cut_mid, cut_all, take_map, drop_map, b2i_t, b2i_f, cut_tail, drop_one, toNat_1, toNat_2, toNat_3, List.drop_zero, cE_non, cE_bl, cE_int, cE_str, cE_var0, cE_varS, cE_glb, cE_bin, kBin1_eq, cE_neg, kNeg_int, cE_rev, kRev_tup, kRev_lst, kRev_fl, cE_isi, kIsi_d, kIsi_fl, r_isN, r_isNN, r_lts, r_les, r_gts, r_ges, r_addbi, r_strb, r_strs, kMe1_supp, r_in_sl, r_in_st, r_ni_sl, r_ni_st, r_in_it, r_ni_it, cE_unot, kNot_bl, cE_band, cE_bor, cE_cmp, kCmp1_eq, cE_ife, cE_tup, cE_lst, kTup0, kTup1, kTup2, kTup3, kTup4, kTup5, kLst0, kLst1, kLst2, kLst3, kLst4, kLst5, cE_call, cE_bi, cE_idx, kIdx1_eq, cE_slc, kSlc1_eq, kSlc2_eq, kSlc3_lst, kSlc3_fl, kSlc3_tup, kSlc3_sq, cE_meth, cE_dct, cE_mkd, kMkd_lst, cE_lzip, cL_nil, cL_cons, kRow_eq, kCons_d, kCons_ref, kCons_fl, kCons_sq, cO_nop, cO_sb, kSb_int, cP_nil, cP_cons, kPr1_d, kPr2_d, kPr2_fl, kPr3_s, kPr3_i, cT_nil, cT_cons, cI_rng, cI_rng2, cI_zip, kZip_tt, kZip_ll, cI_it, kIt_lst, kIt_tup, kIt_fl, kIt_str, ckd_none, unl_none, cN_0, cN_S, kEn_eq, cB_nm, cB_tup, cBs_nil, cBs_cons, kBs_eq, cE_lc, kLc_eq, kLt1_eq, kLt3_d, kLt3_fl, cG_d, cG_ref, cG_sq, cG_fl, cG_fd, cA_d, cA_ref, cA_fl, cA_fd, cG_pt, cG_unl, cG_star, cG_ix, cG_ixl, kIx1_eq, cS_asg, kAsg_eq, kNx_eq, cS_par, kPar_eq, cR_nil, cR_cons, kRw_nd, kRw_nf, kRw_nr, kRw_ad, kRw_af, kRw_ar, cW_nil, cW_nd, cW_nr, cW_ad, cW_ar, cW_af, kWs_eq, cS_ret, kRt_eq, cS_ex, kEx_eq, cS_if, cS_cons, cS_nil, cS_brk, cS_cnt, cS_pass, kSeq_nx, kSeq_ret, kSeq_bk, kSeq_ct, cS_for, kFor_eq, kBody_eq, kTurn_nx, kTurn_ct, kTurn_bk, kTurn_ret, cS_whl, kWTurn_nx, kWTurn_ct, kWTurn_bk, kWTurn_ret, kFin_ret, kFin_nx, finish_d, finish_fl, finish_fd, finish_sq, r_add, r_addb, r_sub, r_mul, r_div, r_mod, r_pow, r_shl, r_shr, r_and, r_adds, r_addt, r_addl, r_eqi, r_nei, r_eqs, r_nes, r_eqt0, r_net0, r_eql0, r_nel0, r_lt, r_le, r_gt, r_ge, r_lenl, r_lent, r_lens, r_tupl, r_tupt, r_lisl, r_list, r_inti, r_abs, r_max, r_min, t2_0, t2_1, t2_2, t2_3, t2_4, l2_0, l2_1, l2_2, l2_3, kRng_int, kRng2_int, ckd_some, unl_t, unl_f, oK_some, oC_some, oP_some, oW_some, kRet_ok, kLc2_t, kLc2_f, vIdx_dct, vPt_some, vUn_some, kLc3_d, kLc3_fl, kIf_t, kIf_f, kIf_p, kIf_n, kIte_t, kIte_f, kIte_p, kIte_n, kAnd_t, kAnd_f, kAnd_p, kAnd_n, kOr_t, kOr_f, kOr_p, kOr_n, kTst_t, kTst_f, kTst_p, kTst_n, kWTest_p, kWTest_n, kLt2_t, kLt2_f, kLt2_p, kCall_0, kCall_r0, kCall_r1, kCall_r2, kR0_d, kR0_fl, kR0_fd, kR1_d, kR1_fl, kR1_fd, kR1_ref, m_pop1, m_pop0, m_app, vTy_lst, kMe1_pop, kMe1_app, kMe1_ext, kMe1_idx, m_ext, bin_fl1, bin_fl2, vBin_dd, cmp_fl1, cmp_fl2, vCmp_dd, vBi_1, idx_fl, idx_fd, vIdx_dd, vSlc_d, if_fl, st21, st32, r_intt, r_intf, r_intp, r_zipt])
local macro_rules | `(tactic| walk_at "lfs") => `(tactic| simp -implicitDefEqProofs (disch := (first | with_reducible assumption | omega | decide +kernel | (simp only [List.length_cons, List.length_nil, List.length_map, List.length_append, List.length_take, List.length_drop, List.length_reverse, tap_len]; omega) | exact of_decide_eq_true (id rfl) | fail)) only [↓cE_non, ↓cE_bl, ↓cE_int, ↓cE_str, ↓cE_var0, ↓cE_varS, ↓cE_glb, ↓cE_bin, ↓kBin1_eq, ↓cE_neg, ↓kNeg_int, ↓cE_rev, ↓kRev_tup, ↓kRev_lst, ↓kRev_fl, ↓cE_isi, ↓kIsi_d, ↓kIsi_fl, ↓r_isN, ↓r_isNN, ↓r_lts, ↓r_les, ↓r_gts, ↓r_ges, ↓r_addbi, ↓r_strb, ↓r_strs, ↓kMe1_supp, ↓r_in_sl, ↓r_in_st, ↓r_ni_sl, ↓r_ni_st, ↓r_in_it, ↓r_ni_it, ↓cE_unot, ↓kNot_bl, ↓cE_band, ↓cE_bor, ↓cE_cmp, ↓kCmp1_eq, ↓cE_ife, ↓cE_tup, ↓cE_lst, ↓kTup0, ↓kTup1, ↓kTup2, ↓kTup3, ↓kTup4, ↓kTup5, ↓kLst0, ↓kLst1, ↓kLst2, ↓kLst3, ↓kLst4, ↓kLst5, ↓cE_call, ↓cE_bi, ↓cE_idx, ↓kIdx1_eq, ↓cE_slc, ↓kSlc1_eq, ↓kSlc2_eq, ↓kSlc3_lst, ↓kSlc3_fl, ↓kSlc3_tup, ↓kSlc3_sq, ↓cE_meth, ↓cE_dct, ↓cE_mkd, ↓kMkd_lst, ↓cE_lzip, ↓cL_nil, ↓cL_cons, ↓kRow_eq, ↓kCons_d, ↓kCons_ref, ↓kCons_fl, ↓kCons_sq, ↓cO_nop, ↓cO_sb, ↓kSb_int, ↓cP_nil, ↓cP_cons, ↓kPr1_d, ↓kPr2_d, ↓kPr2_fl, ↓kPr3_s, ↓kPr3_i, ↓cT_nil, ↓cT_cons, ↓cI_rng, ↓cI_rng2, ↓cI_zip, ↓kZip_tt, ↓kZip_ll, ↓cI_it, ↓kIt_lst, ↓kIt_tup, ↓kIt_fl, ↓kIt_str, ↓ckd_none, ↓unl_none, ↓cN_0, ↓cN_S, ↓kEn_eq, ↓cB_nm, ↓cB_tup, ↓cBs_nil, ↓cBs_cons, ↓kBs_eq, ↓cE_lc, ↓kLc_eq, ↓kLt1_eq, ↓kLt3_d, ↓kLt3_fl, ↓cG_d, ↓cG_ref, ↓cG_sq, ↓cG_fl, ↓cG_fd, ↓cA_d, ↓cA_ref, ↓cA_fl, ↓cA_fd, ↓cG_pt, ↓cG_unl, ↓cG_star, ↓cG_ix, ↓cG_ixl, ↓kIx1_eq, ↓cS_asg, ↓kAsg_eq, ↓kNx_eq, ↓cS_par, ↓kPar_eq, ↓cR_nil, ↓cR_cons, ↓kRw_nd, ↓kRw_nf, ↓kRw_nr, ↓kRw_ad, ↓kRw_af, ↓kRw_ar, ↓cW_nil, ↓cW_nd, ↓cW_nr, ↓cW_ad, ↓cW_ar, ↓cW_af, ↓kWs_eq, ↓cS_ret, ↓kRt_eq, ↓cS_ex, ↓kEx_eq, ↓cS_if, ↓cS_cons, ↓cS_nil, ↓cS_brk, ↓cS_cnt, ↓cS_pass, ↓kSeq_nx, ↓kSeq_ret, ↓kSeq_bk, ↓kSeq_ct, ↓cS_for, ↓kFor_eq, ↓kBody_eq, ↓kTurn_nx, ↓kTurn_ct, ↓kTurn_bk, ↓kTurn_ret, ↓cS_whl, ↓kWTurn_nx, ↓kWTurn_ct, ↓kWTurn_bk, ↓kWTurn_ret, ↓kFin_ret, ↓kFin_nx, ↓finish_d, ↓finish_fl, ↓finish_fd, ↓finish_sq, ↓r_add, ↓r_addb, ↓r_sub, ↓r_mul, ↓r_div, ↓r_mod, ↓r_pow, ↓r_shl, ↓r_shr, ↓r_and, ↓r_adds, ↓r_addt, ↓r_addl, ↓r_eqi, ↓r_nei, ↓r_eqs, ↓r_nes, ↓r_eqt0, ↓r_net0, ↓r_eql0, ↓r_nel0, ↓r_lt, ↓r_le, ↓r_gt, ↓r_ge, ↓r_lenl, ↓r_lent, ↓r_lens, ↓r_tupl, ↓r_tupt, ↓r_lisl, ↓r_list, ↓r_inti, ↓r_abs, ↓r_max, ↓r_min, ↓t2_0, ↓t2_1, ↓t2_2, ↓t2_3, ↓t2_4, ↓l2_0, ↓l2_1, ↓l2_2, ↓l2_3, ↓kRng_int, ↓kRng2_int, ↓ckd_some, ↓unl_t, ↓unl_f, ↓oK_some, ↓oC_some, ↓oP_some, ↓oW_some, ↓kRet_ok, ↓kLc2_t, ↓kLc2_f, ↓vIdx_dct, ↓vPt_some, ↓vUn_some, ↓kLc3_d, ↓kLc3_fl, ↓kIf_t, ↓kIf_f, ↓kIf_p, ↓kIf_n, ↓kIte_t, ↓kIte_f, ↓kIte_p, ↓kIte_n, ↓kAnd_t, ↓kAnd_f, ↓kAnd_p, ↓kAnd_n, ↓kOr_t, ↓kOr_f, ↓kOr_p, ↓kOr_n, ↓kTst_t, ↓kTst_f, ↓kTst_p, ↓kTst_n, ↓kWTest_p, ↓kWTest_n, ↓kLt2_t, ↓kLt2_f, ↓kLt2_p, ↓kCall_0, ↓kCall_r0, ↓kCall_r1, ↓kCall_r2, ↓kR0_d, ↓kR0_fl, ↓kR0_fd, ↓kR1_d, ↓kR1_fl, ↓kR1_fd, ↓kR1_ref, ↓m_pop1, ↓m_pop0, ↓m_app, ↓vTy_lst, ↓kMe1_pop, ↓kMe1_app, ↓kMe1_ext, ↓kMe1_idx, ↓m_ext, ↓bin_fl1, ↓bin_fl2, ↓vBin_dd, ↓cmp_fl1, ↓cmp_fl2, ↓vCmp_dd, ↓vBi_1, ↓idx_fl, ↓idx_fd, ↓vIdx_dd, ↓vSlc_d, ↓if_fl, ↓st21, ↓st32, ↓r_intt, ↓r_intf, ↓r_intp, ↓r_zipt, ↓u_wRows, ↓if_pos, ↓if_neg, ↓reduceIte, kSlc3_str, r_stri, m_supp, isD_tup_non, isD_tup_bl, isD_tup_int, isD_tup_str, isD_tup_tup, isD_tup_lst, isD_lst_non, isD_lst_bl, isD_lst_int, isD_lst_str, isD_lst_tup, isD_lst_lst, isD_str_non, isD_str_bl, isD_str_int, isD_str_str, isD_str_tup, isD_str_lst, isD_int_non, isD_int_bl, isD_int_int, isD_int_str, isD_int_tup, isD_int_lst, isD_bl_non, isD_bl_bl, isD_bl_int, isD_bl_str, isD_bl_tup, isD_bl_lst, isD_dct_non, isD_dct_bl, isD_dct_int, isD_dct_str, isD_dct_tup, isD_dct_lst, isN_non, isN_bl, isN_int, isN_str, isN_tup, isN_lst, r_intb, bin_ref1, bin_ref2, cmp_ref1, cmp_ref2, bi_ref, idx_ref, slc_ref, r_eq, r_ne, kAnd_bl, kOr_bl, kIte_bl, kTst_bl, kIf_bl, kWTest_bl, kLt2_eq, kNot_eq, kAnd_eq, kOr_eq, kIte_eq, kTup_eq, kLst_eq, kIdx2_dd, vPop_lst, vPop0_lst, vApp_lst, emp_snoc, vExt_lst, m_tidx, idx_tmap, idx_lmap, kDct_eq, kLzip_eq, kTst_eq, kIt_ref, vWk_lst, vWk_lk, kIf_eq, kWTest_eq, kIx2_d, kRw_eq, kGl_some, finish_old, finish_new, vFin_lst, vFin_dct, cLc_nil, cLc_cons, kLc1_eq, kLc2_eq, cFor_nil, cFor_cons, view_d, view_fl, view_ref, vwC_lst, vwC_lk, vwC_dct, viewD_ref, viewD_d, viewD_fl, viewD_fd, vwD_lst, vwD_lk, vwD_dct, views_nil, views_cons, cnsO_some, frzs_nil, frzs_d, cnsF_some, putIx_ref, pIx_s, pIx_i, pIx_l, dGet_hit, dGet_miss, renW_self, renW_d, renW_sq, truW, tup_ok, lst_ok, List.map_cons, List.map_nil, List.all_cons, List.all_nil, List.contains_cons, List.contains_nil, List.elem_nil, List.getD_cons_zero, List.getD_cons_succ, List.getElem?_cons_zero, List.getElem?_cons_succ, List.getElem?_nil, List.set_cons_zero, List.set_cons_succ, List.length_cons, List.length_nil, List.nil_append, List.cons_append, List.append_nil, List.take_zero, List.take_succ_cons, List.take_nil, Bool.true_and, Bool.and_true, Bool.false_and, Bool.and_false, Bool.not_true, Bool.not_false, Bool.true_or, Bool.or_true, decide_eq_true_eq, Bool.not_eq_true', decide_eq_false_iff_not, reduceCtorEq, if_true, if_false, ite_true, ite_false, Bool.false_eq_true, Option.map_some, List.idxOf_cons, beq_self_eq_true, Nat.zero_add, cond_true, cond_false, D.truO, D.tru, List.isEmpty_cons, List.isEmpty_nil, Int.toNat_zero, List.length_map, clearO_nil, clearO_cons, Option.map_none, star_t, star_l, cut_pre, cut_suf, cut_mid, cut_all, take_map, drop_map, b2i_t, b2i_f, cut_tail, drop_one, toNat_1, toNat_2, toNat_3, List.drop_zero, cE_non, cE_bl, cE_int, cE_str, cE_var0, cE_varS, cE_glb, cE_bin, kBin1_eq, cE_neg, kNeg_int, cE_rev, kRev_tup, kRev_lst, kRev_fl, cE_isi, kIsi_d, kIsi_fl, r_isN, r_isNN, r_lts, r_les, r_gts, r_ges, r_addbi, r_strb, r_strs, kMe1_supp, r_in_sl, r_in_st, r_ni_sl, r_ni_st, r_in_it, r_ni_it, cE_unot, kNot_bl, cE_band, cE_bor, cE_cmp, kCmp1_eq, cE_ife, cE_tup, cE_lst, kTup0, kTup1, kTup2, kTup3, kTup4, kTup5, kLst0, kLst1, kLst2, kLst3, kLst4, kLst5, cE_call, cE_bi, cE_idx, kIdx1_eq, cE_slc, kSlc1_eq, kSlc2_eq, kSlc3_lst, kSlc3_fl, kSlc3_tup, kSlc3_sq, cE_meth, cE_dct, cE_mkd, kMkd_lst, cE_lzip, cL_nil, cL_cons, kRow_eq, kCons_d, kCons_ref, kCons_fl, kCons_sq, cO_nop, cO_sb, kSb_int, cP_nil, cP_cons, kPr1_d, kPr2_d, kPr2_fl, kPr3_s, kPr3_i, cT_nil, cT_cons, cI_rng, cI_rng2, cI_zip, kZip_tt, kZip_ll, cI_it, kIt_lst, kIt_tup, kIt_fl, kIt_str, ckd_none, unl_none, cN_0, cN_S, kEn_eq, cB_nm, cB_tup, cBs_nil, cBs_cons, kBs_eq, cE_lc, kLc_eq, kLt1_eq, kLt3_d, kLt3_fl, cG_d, cG_ref, cG_sq, cG_fl, cG_fd, cA_d, cA_ref, cA_fl, cA_fd, cG_pt, cG_unl, cG_star, cG_ix, cG_ixl, kIx1_eq, cS_asg, kAsg_eq, kNx_eq, cS_par, kPar_eq, cR_nil, cR_cons, kRw_nd, kRw_nf, kRw_nr, kRw_ad, kRw_af, kRw_ar, cW_nil, cW_nd, cW_nr, cW_ad, cW_ar, cW_af, kWs_eq, cS_ret, kRt_eq, cS_ex, kEx_eq, cS_if, cS_cons, cS_nil, cS_brk, cS_cnt, cS_pass, kSeq_nx, kSeq_ret, kSeq_bk, kSeq_ct, cS_for, kFor_eq, kBody_eq, kTurn_nx, kTurn_ct, kTurn_bk, kTurn_ret, cS_whl, kWTurn_nx, kWTurn_ct, kWTurn_bk, kWTurn_ret, kFin_ret, kFin_nx, finish_d, finish_fl, finish_fd, finish_sq, r_add, r_addb, r_sub, r_mul, r_div, r_mod, r_pow, r_shl, r_shr, r_and, r_adds, r_addt, r_addl, r_eqi, r_nei, r_eqs, r_nes, r_eqt0, r_net0, r_eql0, r_nel0, r_lt, r_le, r_gt, r_ge, r_lenl, r_lent, r_lens, r_tupl, r_tupt, r_lisl, r_list, r_inti, r_abs, r_max, r_min, t2_0, t2_1, t2_2, t2_3, t2_4, l2_0, l2_1, l2_2, l2_3, kRng_int, kRng2_int, ckd_some, unl_t, unl_f, oK_some, oC_some, oP_some, oW_some, kRet_ok, kLc2_t, kLc2_f, vIdx_dct, vPt_some, vUn_some, kLc3_d, kLc3_fl, kIf_t, kIf_f, kIf_p, kIf_n, kIte_t, kIte_f, kIte_p, kIte_n, kAnd_t, kAnd_f, kAnd_p, kAnd_n, kOr_t, kOr_f, kOr_p, kOr_n, kTst_t, kTst_f, kTst_p, kTst_n, kWTest_p, kWTest_n, kLt2_t, kLt2_f, kLt2_p, kCall_0, kCall_r0, kCall_r1, kCall_r2, kR0_d, kR0_fl, kR0_fd, kR1_d, kR1_fl, kR1_fd, kR1_ref, m_pop1, m_pop0, m_app, vTy_lst, kMe1_pop, kMe1_app, kMe1_ext, kMe1_idx, m_ext, bin_fl1, bin_fl2, vBin_dd, cmp_fl1, cmp_fl2, vCmp_dd, vBi_1, idx_fl, idx_fd, vIdx_dd, vSlc_d, if_fl, st21, st32, r_intt, r_intf, r_intp, r_zipt, *])
theorem rows_loop {β : Type} {X : Xk β} {U : Pg} {n : Nat} {ms : D} {its : List D} {c : Cells} {K : Fl → En → Cells → Res β} {R : Res β} : ∀ (xs : List D) (j : Nat) (w : Option W), xs.length + j ≤ 10 →
    (∀ w : Option W, K .nx [some (.d ms), some (.d (.lst ((rowsN (j + xs.length)).map rowD))), w, none] c = R) →
    cFor (fnsN U n) X (.nm 2) wRows none its xs [some (.d ms), some (.d (.lst ((rowsN j).map rowD))), w, none] c K = R
  | [], j, w, _, h => by
    walk_at "lf"
    exact h w
  | x :: xs, j, w, hl, h => by
    simp only [List.length_cons] at hl h
    have hj : (rowsN j).length ≤ 1024 := by rw [rowsN_len]; exact Nat.pow_le_pow_right (by decide) (by omega : j ≤ 10)
    have ih := rows_loop (X := X) (U := U) (n := n) (ms := ms) (its := its) (c := c) (K := K) (R := R) xs (j + 1) (some (.d x)) (by omega) (by rw [show j + 1 + xs.length = j + (xs.length + 1) by omega]; exact h)
    rw [cFor_cons]
    walk_at "lf"
    refine lc_maps (as := rowsN j) (f' := rowD) (false :: ·) (by omega) (fun r hr K => ?_) ?_
    · have := rowsN_mem hr
      simp only [rowD]
      walk_at "lf"
    · walk_at "lf"
      refine lc_maps (as := rowsN j) (f' := rowD) (true :: ·) (by omega) (fun r hr K => ?_) ?_
      · have := rowsN_mem hr
        simp only [rowD]
        walk_at "lf"
      · have e : ((rowsN j).map (false :: ·)).map rowD ++ ((rowsN j).map (true :: ·)).map rowD = (rowsN (j + 1)).map rowD := by simp [rowsN]
        walk_at "lfs"
theorem rngL_len {lo : Int} {n : Nat} : (rngL lo n).length = n := by simp [rngL]
theorem rows_ok {U : Pg} {n i : Nat} {ms : List Str} (hi : U.fns[i]? = some fRows) (hl : ms.length ≤ 10) : callN U (n + 1) i [.d (.tup (sD ms))] [] = .ok (.d (.lst ((rowsN ms.length).map rowD)), []) := by
  rw [run_def hi ⟨rfl, by decide⟩]
  simp only [fRows, bRows, List.map, List.replicate, Nat.reduceSub]
  walk_at "lf"
  refine rows_loop (rngL 0 (ms.length : Int).toNat) 0 none (by rw [rngL_len]; omega) fun w => ?_
  rw [rngL_len]
  walk_at "lf"
  simp
/-! ### what a tree says -/
def Tr.ev (f : Str → Bool) : Tr → Bool
  | .leaf b => b
  | .ask m n y => if f m = true then y.ev f else n.ev f
def Tr.step (f : Str → Bool) : Tr → Tr
  | .leaf b => .leaf b
  | .ask m n y => if f m = true then y else n
def Tr.steps (f : Str → Bool) : Nat → Tr → Tr
  | 0, t => t
  | n + 1, t => (t.step f).steps f n
theorem steps_leaf {f : Str → Bool} : ∀ (n : Nat) (b : Bool), (Tr.leaf b).steps f n = .leaf b
  | 0, _ => rfl
  | n + 1, b => steps_leaf n b
theorem steps_ev {f : Str → Bool} : ∀ (n : Nat) (t : Tr), t.depth ≤ n → t.steps f n = .leaf (t.ev f)
  | n, .leaf b, _ => steps_leaf n b
  | 0, .ask _ _ _, h => by simp [Tr.depth] at h
  | n + 1, .ask m a b, h => by
    simp only [Tr.depth] at h
    simp only [Tr.steps, Tr.step, Tr.ev]
    split
    · exact steps_ev n b (by omega)
    · exact steps_ev n a (by omega)
theorem on_depth : ∀ (t : Tr) (ms : List Str), t.on ms → t.depth ≤ ms.length
  | .leaf _, _, _ => by simp [Tr.depth]
  | .ask m a b, ms, h => by
    obtain ⟨h0, h1, h2⟩ := h
    have l : (ms.filter (· ≠ m)).length < ms.length := by
      refine Nat.lt_of_le_of_ne (List.length_filter_le _ _) fun e => ?_
      have := List.length_filter_eq_length_iff.mp e m h0
      simp at this
    have a1 := on_depth a _ h1
    have b1 := on_depth b _ h2
    simp only [Tr.depth]
    omega
theorem on_mono : ∀ {t : Tr} {xs ys : List Str}, (∀ x, x ∈ xs → x ∈ ys) → t.on xs → t.on ys := by
  intro t
  induction t with
  | leaf _ => intros; trivial
  | ask k n y i1 i2 =>
    intro xs ys s h
    refine ⟨s _ h.1, i1 ?_ h.2.1, i2 ?_ h.2.2⟩ <;>
    · intro x hx
      simp only [List.mem_filter] at hx ⊢
      exact ⟨s _ hx.1, hx.2⟩
theorem on_step {f : Str → Bool} {ms : List Str} : ∀ {t : Tr}, t.on ms → (t.step f).on ms
  | .leaf _, _ => trivial
  | .ask m a b, h => by
    simp only [Tr.step]
    split
    · exact on_mono (fun x hx => (List.mem_filter.mp hx).1) h.2.2
    · exact on_mono (fun x hx => (List.mem_filter.mp hx).1) h.2.1
/-- the marks' truths, as a dict -/
def hadK (ms : List Str) (r : List Bool) : List (D × D) := dMerge [] ((ms.zip r).map fun p => (.str p.1, .bl p.2))
def asg (ms : List Str) (r : List Bool) (m : Str) : Bool := ((ms.zip r).lookup m).getD false
theorem pairs_zip (ms : List Str) (r : List Bool) : pairsOf (zipD (sD ms) (bD r)) = some ((ms.zip r).map fun p => (.str p.1, .bl p.2)) := by
  induction ms generalizing r with
  | nil => simp [zipD, pairsOf]
  | cons m ms ih =>
    cases r with
    | nil => simp [zipD, pairsOf]
    | cons b r =>
      have e : zipD (sD (m :: ms)) (bD (b :: r)) = .tup [.str m, .bl b] :: zipD (sD ms) (bD r) := rfl
      rw [e]
      simp only [pairsOf, keyD, ih r]
      rfl
def kvB (l : List (Str × Bool)) : List (D × D) := l.map fun p => (.str p.1, .bl p.2)
theorem put_new (l : List (Str × Bool)) (m : Str) (b : Bool) (h : m ∉ l.map (·.1)) : dPut (kvB l) (.str m) (.bl b) = kvB (l ++ [(m, b)]) := by
  unfold dPut
  rw [if_neg]
  · simp [kvB]
  · simp only [kvB, List.any_map, List.any_eq_true, Function.comp, decide_eq_true_eq, keyD, Option.some.injEq, Sum.inr.injEq]
    rintro ⟨p, hp, e⟩
    exact h (e ▸ List.mem_map_of_mem hp)
theorem merge_new : ∀ (r l : List (Str × Bool)), ((l ++ r).map (·.1)).Nodup → dMerge (kvB l) (kvB r) = kvB (l ++ r)
  | [], l, _ => by simp [kvB, dMerge]
  | (m, b) :: r, l, h => by
    have e : kvB ((m, b) :: r) = (.str m, .bl b) :: kvB r := rfl
    rw [e]
    simp only [dMerge]
    rw [put_new l m b ?_, merge_new r (l ++ [(m, b)]) (by simpa using h)]
    · simp
    · intro z
      simp only [List.map_append, List.map_cons] at h
      exact (List.nodup_append.mp h).2.2 m z m List.mem_cons_self rfl
theorem get_kv : ∀ (l : List (Str × Bool)) (m : Str), dGet (kvB l) (.str m) = (l.lookup m).map .bl
  | [], m => rfl
  | (k, b) :: l, m => by
    have e : kvB ((k, b) :: l) = (.str k, .bl b) :: kvB l := rfl
    rw [e, List.lookup_cons]
    by_cases h : k = m
    · subst h; rw [dGet_hit]; simp
    · rw [dGet_miss (by simpa using h), get_kv l m]
      have : (m == k) = false := by simpa using fun z => h z.symm
      rw [this]
theorem zip_keys : ∀ (ms : List Str) (r : List Bool), ms.length = r.length → (ms.zip r).map (·.1) = ms
  | [], _, _ => by simp
  | m :: ms, [], h => by simp at h
  | m :: ms, b :: r, h => by simp [zip_keys ms r (by simpa using h)]
theorem look_some : ∀ (l : List (Str × Bool)) (m : Str), m ∈ l.map (·.1) → ∃ b, l.lookup m = some b
  | [], _, h => by simp at h
  | (k, b) :: l, m, h => by
    rw [List.lookup_cons]
    by_cases e : m = k
    · subst e; exact ⟨b, by simp⟩
    · have : (m == k) = false := by simpa using e
      rw [this]
      exact look_some l m (by simpa [e] using h)
theorem had_get {ms : List Str} {r : List Bool} {m : Str} (nd : ms.Nodup) (hl : ms.length = r.length) (hm : m ∈ ms) : dGet (hadK ms r) (.str m) = some (.bl (asg ms r m)) := by
  have e : hadK ms r = kvB (ms.zip r) := (merge_new (ms.zip r) [] (by simpa [zip_keys ms r hl] using nd)).trans (by simp)
  rw [e, get_kv]
  obtain ⟨b, hb⟩ := look_some (ms.zip r) m (by rw [zip_keys ms r hl]; exact hm)
  simp [asg, hb]
def wVerdict : S := (.cons (.ife (.cmp .Eq (.idx (.var 4) (.int 0)) (.str "ask"))
 (.cons (.asg (.nm 4) (.ife (.idx (.var 3) (.idx (.var 4) (.int 1))) (.idx (.var 4) (.int 3)) (.idx (.var 4) (.int 2))))
 .nil)
 .nil)
 .nil)
theorem u_wVerdict {β : Type} {F : Fns} {X : Xk β} {env : En} {c : Cells} {K : Fl → En → Cells → Res β} : cS F X wVerdict env c K = cS F X (.ife (.cmp .Eq (.idx (.var 4) (.int 0)) (.str "ask"))
 (.cons (.asg (.nm 4) (.ife (.idx (.var 3) (.idx (.var 4) (.int 1))) (.idx (.var 4) (.int 3)) (.idx (.var 4) (.int 2))))
 .nil)
 .nil) env c (kSeq F X .nil K) := by rw [wVerdict, cS_cons]
def bVerdict : S := (.cons (.asg (.nm 3) (.mkd (.cons (.lzip (.cons (.var 1) (.cons (.var 2) .nil))) .nil)))
 (.cons (.asg (.nm 4) (.var 0))
 (.cons (.forr (.nm 5) (.rng (.cons (.bin .Add (.bi .len (.cons (.var 1) .nil)) (.int 1)) .nil))
wVerdict)
 (.cons (.ret (.idx (.var 4) (.int 1)))
 .nil))))
def fVerdict : Fd := ⟨3, 6, bVerdict⟩
local macro_rules | `(tactic| walk_at "lf") => `(tactic| simp -implicitDefEqProofs (disch := (first | with_reducible assumption | omega | decide +kernel | (simp only [List.length_cons, List.length_nil, List.length_map, List.length_append, List.length_take, List.length_drop, List.length_reverse, tap_len]; omega) | exact of_decide_eq_true (id rfl) | fail)) only [↓cE_non, ↓cE_bl, ↓cE_int, ↓cE_str, ↓cE_var0, ↓cE_varS, ↓cE_glb, ↓cE_bin, ↓kBin1_eq, ↓cE_neg, ↓kNeg_int, ↓cE_rev, ↓kRev_tup, ↓kRev_lst, ↓kRev_fl, ↓cE_isi, ↓kIsi_d, ↓kIsi_fl, ↓r_isN, ↓r_isNN, ↓r_lts, ↓r_les, ↓r_gts, ↓r_ges, ↓r_addbi, ↓r_strb, ↓r_strs, ↓kMe1_supp, ↓r_in_sl, ↓r_in_st, ↓r_ni_sl, ↓r_ni_st, ↓r_in_it, ↓r_ni_it, ↓cE_unot, ↓kNot_bl, ↓cE_band, ↓cE_bor, ↓cE_cmp, ↓kCmp1_eq, ↓cE_ife, ↓cE_tup, ↓cE_lst, ↓kTup0, ↓kTup1, ↓kTup2, ↓kTup3, ↓kTup4, ↓kTup5, ↓kLst0, ↓kLst1, ↓kLst2, ↓kLst3, ↓kLst4, ↓kLst5, ↓cE_call, ↓cE_bi, ↓cE_idx, ↓kIdx1_eq, ↓cE_slc, ↓kSlc1_eq, ↓kSlc2_eq, ↓kSlc3_lst, ↓kSlc3_fl, ↓kSlc3_tup, ↓kSlc3_sq, ↓cE_meth, ↓cE_dct, ↓cE_mkd, ↓kMkd_lst, ↓cE_lzip, ↓cL_nil, ↓cL_cons, ↓kRow_eq, ↓kCons_d, ↓kCons_ref, ↓kCons_fl, ↓kCons_sq, ↓cO_nop, ↓cO_sb, ↓kSb_int, ↓cP_nil, ↓cP_cons, ↓kPr1_d, ↓kPr2_d, ↓kPr2_fl, ↓kPr3_s, ↓kPr3_i, ↓cT_nil, ↓cT_cons, ↓cI_rng, ↓cI_rng2, ↓cI_zip, ↓kZip_tt, ↓kZip_ll, ↓cI_it, ↓kIt_lst, ↓kIt_tup, ↓kIt_fl, ↓kIt_str, ↓ckd_none, ↓unl_none, ↓cN_0, ↓cN_S, ↓kEn_eq, ↓cB_nm, ↓cB_tup, ↓cBs_nil, ↓cBs_cons, ↓kBs_eq, ↓cE_lc, ↓kLc_eq, ↓kLt1_eq, ↓kLt3_d, ↓kLt3_fl, ↓cG_d, ↓cG_ref, ↓cG_sq, ↓cG_fl, ↓cG_fd, ↓cA_d, ↓cA_ref, ↓cA_fl, ↓cA_fd, ↓cG_pt, ↓cG_unl, ↓cG_star, ↓cG_ix, ↓cG_ixl, ↓kIx1_eq, ↓cS_asg, ↓kAsg_eq, ↓kNx_eq, ↓cS_par, ↓kPar_eq, ↓cR_nil, ↓cR_cons, ↓kRw_nd, ↓kRw_nf, ↓kRw_nr, ↓kRw_ad, ↓kRw_af, ↓kRw_ar, ↓cW_nil, ↓cW_nd, ↓cW_nr, ↓cW_ad, ↓cW_ar, ↓cW_af, ↓kWs_eq, ↓cS_ret, ↓kRt_eq, ↓cS_ex, ↓kEx_eq, ↓cS_if, ↓cS_cons, ↓cS_nil, ↓cS_brk, ↓cS_cnt, ↓cS_pass, ↓kSeq_nx, ↓kSeq_ret, ↓kSeq_bk, ↓kSeq_ct, ↓cS_for, ↓kFor_eq, ↓kBody_eq, ↓kTurn_nx, ↓kTurn_ct, ↓kTurn_bk, ↓kTurn_ret, ↓cS_whl, ↓kWTurn_nx, ↓kWTurn_ct, ↓kWTurn_bk, ↓kWTurn_ret, ↓kFin_ret, ↓kFin_nx, ↓finish_d, ↓finish_fl, ↓finish_fd, ↓finish_sq, ↓r_add, ↓r_addb, ↓r_sub, ↓r_mul, ↓r_div, ↓r_mod, ↓r_pow, ↓r_shl, ↓r_shr, ↓r_and, ↓r_adds, ↓r_addt, ↓r_addl, ↓r_eqi, ↓r_nei, ↓r_eqs, ↓r_nes, ↓r_eqt0, ↓r_net0, ↓r_eql0, ↓r_nel0, ↓r_lt, ↓r_le, ↓r_gt, ↓r_ge, ↓r_lenl, ↓r_lent, ↓r_lens, ↓r_tupl, ↓r_tupt, ↓r_lisl, ↓r_list, ↓r_inti, ↓r_abs, ↓r_max, ↓r_min, ↓t2_0, ↓t2_1, ↓t2_2, ↓t2_3, ↓t2_4, ↓l2_0, ↓l2_1, ↓l2_2, ↓l2_3, ↓kRng_int, ↓kRng2_int, ↓ckd_some, ↓unl_t, ↓unl_f, ↓oK_some, ↓oC_some, ↓oP_some, ↓oW_some, ↓kRet_ok, ↓kLc2_t, ↓kLc2_f, ↓vIdx_dct, ↓vPt_some, ↓vUn_some, ↓kLc3_d, ↓kLc3_fl, ↓kIf_t, ↓kIf_f, ↓kIf_p, ↓kIf_n, ↓kIte_t, ↓kIte_f, ↓kIte_p, ↓kIte_n, ↓kAnd_t, ↓kAnd_f, ↓kAnd_p, ↓kAnd_n, ↓kOr_t, ↓kOr_f, ↓kOr_p, ↓kOr_n, ↓kTst_t, ↓kTst_f, ↓kTst_p, ↓kTst_n, ↓kWTest_p, ↓kWTest_n, ↓kLt2_t, ↓kLt2_f, ↓kLt2_p, ↓kCall_0, ↓kCall_r0, ↓kCall_r1, ↓kCall_r2, ↓kR0_d, ↓kR0_fl, ↓kR0_fd, ↓kR1_d, ↓kR1_fl, ↓kR1_fd, ↓kR1_ref, ↓m_pop1, ↓m_pop0, ↓m_app, ↓vTy_lst, ↓kMe1_pop, ↓kMe1_app, ↓kMe1_ext, ↓kMe1_idx, ↓m_ext, ↓bin_fl1, ↓bin_fl2, ↓vBin_dd, ↓cmp_fl1, ↓cmp_fl2, ↓vCmp_dd, ↓vBi_1, ↓idx_fl, ↓idx_fd, ↓vIdx_dd, ↓vSlc_d, ↓if_fl, ↓st21, ↓st32, ↓r_intt, ↓r_intf, ↓r_intp, ↓r_zipt, ↓u_wVerdict, ↓if_pos, ↓if_neg, ↓reduceIte, kSlc3_str, r_stri, m_supp, isD_tup_non, isD_tup_bl, isD_tup_int, isD_tup_str, isD_tup_tup, isD_tup_lst, isD_lst_non, isD_lst_bl, isD_lst_int, isD_lst_str, isD_lst_tup, isD_lst_lst, isD_str_non, isD_str_bl, isD_str_int, isD_str_str, isD_str_tup, isD_str_lst, isD_int_non, isD_int_bl, isD_int_int, isD_int_str, isD_int_tup, isD_int_lst, isD_bl_non, isD_bl_bl, isD_bl_int, isD_bl_str, isD_bl_tup, isD_bl_lst, isD_dct_non, isD_dct_bl, isD_dct_int, isD_dct_str, isD_dct_tup, isD_dct_lst, isN_non, isN_bl, isN_int, isN_str, isN_tup, isN_lst, r_intb, bin_ref1, bin_ref2, cmp_ref1, cmp_ref2, bi_ref, idx_ref, slc_ref, r_eq, r_ne, kAnd_bl, kOr_bl, kIte_bl, kTst_bl, kIf_bl, kWTest_bl, kLt2_eq, kNot_eq, kAnd_eq, kOr_eq, kIte_eq, kTup_eq, kLst_eq, kIdx2_dd, vPop_lst, vPop0_lst, vApp_lst, emp_snoc, vExt_lst, m_tidx, idx_tmap, idx_lmap, kDct_eq, kLzip_eq, kTst_eq, kIt_ref, vWk_lst, vWk_lk, kIf_eq, kWTest_eq, kIx2_d, kRw_eq, kGl_some, finish_old, finish_new, vFin_lst, vFin_dct, cLc_nil, cLc_cons, kLc1_eq, kLc2_eq, cFor_nil, cFor_cons, view_d, view_fl, view_ref, vwC_lst, vwC_lk, vwC_dct, viewD_ref, viewD_d, viewD_fl, viewD_fd, vwD_lst, vwD_lk, vwD_dct, views_nil, views_cons, cnsO_some, frzs_nil, frzs_d, cnsF_some, putIx_ref, pIx_s, pIx_i, pIx_l, dGet_hit, dGet_miss, renW_self, renW_d, renW_sq, truW, tup_ok, lst_ok, List.map_cons, List.map_nil, List.all_cons, List.all_nil, List.contains_cons, List.contains_nil, List.elem_nil, List.getD_cons_zero, List.getD_cons_succ, List.getElem?_cons_zero, List.getElem?_cons_succ, List.getElem?_nil, List.set_cons_zero, List.set_cons_succ, List.length_cons, List.length_nil, List.nil_append, List.cons_append, List.append_nil, List.take_zero, List.take_succ_cons, List.take_nil, Bool.true_and, Bool.and_true, Bool.false_and, Bool.and_false, Bool.not_true, Bool.not_false, Bool.true_or, Bool.or_true, decide_eq_true_eq, Bool.not_eq_true', decide_eq_false_iff_not, reduceCtorEq, if_true, if_false, ite_true, ite_false, Bool.false_eq_true, Option.map_some, List.idxOf_cons, beq_self_eq_true, Nat.zero_add, cond_true, cond_false, D.truO, D.tru, List.isEmpty_cons, List.isEmpty_nil, Int.toNat_zero, List.length_map, clearO_nil, clearO_cons, Option.map_none, star_t, star_l, cut_pre, cut_suf, cut_mid, cut_all, take_map, drop_map, b2i_t, b2i_f, cut_tail, drop_one, toNat_1, toNat_2, toNat_3, List.drop_zero, cE_non, cE_bl, cE_int, cE_str, cE_var0, cE_varS, cE_glb, cE_bin, kBin1_eq, cE_neg, kNeg_int, cE_rev, kRev_tup, kRev_lst, kRev_fl, cE_isi, kIsi_d, kIsi_fl, r_isN, r_isNN, r_lts, r_les, r_gts, r_ges, r_addbi, r_strb, r_strs, kMe1_supp, r_in_sl, r_in_st, r_ni_sl, r_ni_st, r_in_it, r_ni_it, cE_unot, kNot_bl, cE_band, cE_bor, cE_cmp, kCmp1_eq, cE_ife, cE_tup, cE_lst, kTup0, kTup1, kTup2, kTup3, kTup4, kTup5, kLst0, kLst1, kLst2, kLst3, kLst4, kLst5, cE_call, cE_bi, cE_idx, kIdx1_eq, cE_slc, kSlc1_eq, kSlc2_eq, kSlc3_lst, kSlc3_fl, kSlc3_tup, kSlc3_sq, cE_meth, cE_dct, cE_mkd, kMkd_lst, cE_lzip, cL_nil, cL_cons, kRow_eq, kCons_d, kCons_ref, kCons_fl, kCons_sq, cO_nop, cO_sb, kSb_int, cP_nil, cP_cons, kPr1_d, kPr2_d, kPr2_fl, kPr3_s, kPr3_i, cT_nil, cT_cons, cI_rng, cI_rng2, cI_zip, kZip_tt, kZip_ll, cI_it, kIt_lst, kIt_tup, kIt_fl, kIt_str, ckd_none, unl_none, cN_0, cN_S, kEn_eq, cB_nm, cB_tup, cBs_nil, cBs_cons, kBs_eq, cE_lc, kLc_eq, kLt1_eq, kLt3_d, kLt3_fl, cG_d, cG_ref, cG_sq, cG_fl, cG_fd, cA_d, cA_ref, cA_fl, cA_fd, cG_pt, cG_unl, cG_star, cG_ix, cG_ixl, kIx1_eq, cS_asg, kAsg_eq, kNx_eq, cS_par, kPar_eq, cR_nil, cR_cons, kRw_nd, kRw_nf, kRw_nr, kRw_ad, kRw_af, kRw_ar, cW_nil, cW_nd, cW_nr, cW_ad, cW_ar, cW_af, kWs_eq, cS_ret, kRt_eq, cS_ex, kEx_eq, cS_if, cS_cons, cS_nil, cS_brk, cS_cnt, cS_pass, kSeq_nx, kSeq_ret, kSeq_bk, kSeq_ct, cS_for, kFor_eq, kBody_eq, kTurn_nx, kTurn_ct, kTurn_bk, kTurn_ret, cS_whl, kWTurn_nx, kWTurn_ct, kWTurn_bk, kWTurn_ret, kFin_ret, kFin_nx, finish_d, finish_fl, finish_fd, finish_sq, r_add, r_addb, r_sub, r_mul, r_div, r_mod, r_pow, r_shl, r_shr, r_and, r_adds, r_addt, r_addl, r_eqi, r_nei, r_eqs, r_nes, r_eqt0, r_net0, r_eql0, r_nel0, r_lt, r_le, r_gt, r_ge, r_lenl, r_lent, r_lens, r_tupl, r_tupt, r_lisl, r_list, r_inti, r_abs, r_max, r_min, t2_0, t2_1, t2_2, t2_3, t2_4, l2_0, l2_1, l2_2, l2_3, kRng_int, kRng2_int, ckd_some, unl_t, unl_f, oK_some, oC_some, oP_some, oW_some, kRet_ok, kLc2_t, kLc2_f, vIdx_dct, vPt_some, vUn_some, kLc3_d, kLc3_fl, kIf_t, kIf_f, kIf_p, kIf_n, kIte_t, kIte_f, kIte_p, kIte_n, kAnd_t, kAnd_f, kAnd_p, kAnd_n, kOr_t, kOr_f, kOr_p, kOr_n, kTst_t, kTst_f, kTst_p, kTst_n, kWTest_p, kWTest_n, kLt2_t, kLt2_f, kLt2_p, kCall_0, kCall_r0, kCall_r1, kCall_r2, kR0_d, kR0_fl, kR0_fd, kR1_d, kR1_fl, kR1_fd, kR1_ref, m_pop1, m_pop0, m_app, vTy_lst, kMe1_pop, kMe1_app, kMe1_ext, kMe1_idx, m_ext, bin_fl1, bin_fl2, vBin_dd, cmp_fl1, cmp_fl2, vCmp_dd, vBi_1, idx_fl, idx_fd, vIdx_dd, vSlc_d, if_fl, st21, st32, r_intt, r_intf, r_intp, r_zipt, pairs_zip])
local macro_rules | `(tactic| walk_at "lfs") => `(tactic| simp -implicitDefEqProofs (disch := (first | with_reducible assumption | omega | decide +kernel | (simp only [List.length_cons, List.length_nil, List.length_map, List.length_append, List.length_take, List.length_drop, List.length_reverse, tap_len]; omega) | exact of_decide_eq_true (id rfl) | fail)) only [↓cE_non, ↓cE_bl, ↓cE_int, ↓cE_str, ↓cE_var0, ↓cE_varS, ↓cE_glb, ↓cE_bin, ↓kBin1_eq, ↓cE_neg, ↓kNeg_int, ↓cE_rev, ↓kRev_tup, ↓kRev_lst, ↓kRev_fl, ↓cE_isi, ↓kIsi_d, ↓kIsi_fl, ↓r_isN, ↓r_isNN, ↓r_lts, ↓r_les, ↓r_gts, ↓r_ges, ↓r_addbi, ↓r_strb, ↓r_strs, ↓kMe1_supp, ↓r_in_sl, ↓r_in_st, ↓r_ni_sl, ↓r_ni_st, ↓r_in_it, ↓r_ni_it, ↓cE_unot, ↓kNot_bl, ↓cE_band, ↓cE_bor, ↓cE_cmp, ↓kCmp1_eq, ↓cE_ife, ↓cE_tup, ↓cE_lst, ↓kTup0, ↓kTup1, ↓kTup2, ↓kTup3, ↓kTup4, ↓kTup5, ↓kLst0, ↓kLst1, ↓kLst2, ↓kLst3, ↓kLst4, ↓kLst5, ↓cE_call, ↓cE_bi, ↓cE_idx, ↓kIdx1_eq, ↓cE_slc, ↓kSlc1_eq, ↓kSlc2_eq, ↓kSlc3_lst, ↓kSlc3_fl, ↓kSlc3_tup, ↓kSlc3_sq, ↓cE_meth, ↓cE_dct, ↓cE_mkd, ↓kMkd_lst, ↓cE_lzip, ↓cL_nil, ↓cL_cons, ↓kRow_eq, ↓kCons_d, ↓kCons_ref, ↓kCons_fl, ↓kCons_sq, ↓cO_nop, ↓cO_sb, ↓kSb_int, ↓cP_nil, ↓cP_cons, ↓kPr1_d, ↓kPr2_d, ↓kPr2_fl, ↓kPr3_s, ↓kPr3_i, ↓cT_nil, ↓cT_cons, ↓cI_rng, ↓cI_rng2, ↓cI_zip, ↓kZip_tt, ↓kZip_ll, ↓cI_it, ↓kIt_lst, ↓kIt_tup, ↓kIt_fl, ↓kIt_str, ↓ckd_none, ↓unl_none, ↓cN_0, ↓cN_S, ↓kEn_eq, ↓cB_nm, ↓cB_tup, ↓cBs_nil, ↓cBs_cons, ↓kBs_eq, ↓cE_lc, ↓kLc_eq, ↓kLt1_eq, ↓kLt3_d, ↓kLt3_fl, ↓cG_d, ↓cG_ref, ↓cG_sq, ↓cG_fl, ↓cG_fd, ↓cA_d, ↓cA_ref, ↓cA_fl, ↓cA_fd, ↓cG_pt, ↓cG_unl, ↓cG_star, ↓cG_ix, ↓cG_ixl, ↓kIx1_eq, ↓cS_asg, ↓kAsg_eq, ↓kNx_eq, ↓cS_par, ↓kPar_eq, ↓cR_nil, ↓cR_cons, ↓kRw_nd, ↓kRw_nf, ↓kRw_nr, ↓kRw_ad, ↓kRw_af, ↓kRw_ar, ↓cW_nil, ↓cW_nd, ↓cW_nr, ↓cW_ad, ↓cW_ar, ↓cW_af, ↓kWs_eq, ↓cS_ret, ↓kRt_eq, ↓cS_ex, ↓kEx_eq, ↓cS_if, ↓cS_cons, ↓cS_nil, ↓cS_brk, ↓cS_cnt, ↓cS_pass, ↓kSeq_nx, ↓kSeq_ret, ↓kSeq_bk, ↓kSeq_ct, ↓cS_for, ↓kFor_eq, ↓kBody_eq, ↓kTurn_nx, ↓kTurn_ct, ↓kTurn_bk, ↓kTurn_ret, ↓cS_whl, ↓kWTurn_nx, ↓kWTurn_ct, ↓kWTurn_bk, ↓kWTurn_ret, ↓kFin_ret, ↓kFin_nx, ↓finish_d, ↓finish_fl, ↓finish_fd, ↓finish_sq, ↓r_add, ↓r_addb, ↓r_sub, ↓r_mul, ↓r_div, ↓r_mod, ↓r_pow, ↓r_shl, ↓r_shr, ↓r_and, ↓r_adds, ↓r_addt, ↓r_addl, ↓r_eqi, ↓r_nei, ↓r_eqs, ↓r_nes, ↓r_eqt0, ↓r_net0, ↓r_eql0, ↓r_nel0, ↓r_lt, ↓r_le, ↓r_gt, ↓r_ge, ↓r_lenl, ↓r_lent, ↓r_lens, ↓r_tupl, ↓r_tupt, ↓r_lisl, ↓r_list, ↓r_inti, ↓r_abs, ↓r_max, ↓r_min, ↓t2_0, ↓t2_1, ↓t2_2, ↓t2_3, ↓t2_4, ↓l2_0, ↓l2_1, ↓l2_2, ↓l2_3, ↓kRng_int, ↓kRng2_int, ↓ckd_some, ↓unl_t, ↓unl_f, ↓oK_some, ↓oC_some, ↓oP_some, ↓oW_some, ↓kRet_ok, ↓kLc2_t, ↓kLc2_f, ↓vIdx_dct, ↓vPt_some, ↓vUn_some, ↓kLc3_d, ↓kLc3_fl, ↓kIf_t, ↓kIf_f, ↓kIf_p, ↓kIf_n, ↓kIte_t, ↓kIte_f, ↓kIte_p, ↓kIte_n, ↓kAnd_t, ↓kAnd_f, ↓kAnd_p, ↓kAnd_n, ↓kOr_t, ↓kOr_f, ↓kOr_p, ↓kOr_n, ↓kTst_t, ↓kTst_f, ↓kTst_p, ↓kTst_n, ↓kWTest_p, ↓kWTest_n, ↓kLt2_t, ↓kLt2_f, ↓kLt2_p, ↓kCall_0, ↓kCall_r0, ↓kCall_r1, ↓kCall_r2, ↓kR0_d, ↓kR0_fl, ↓kR0_fd, ↓kR1_d, ↓kR1_fl, ↓kR1_fd, ↓kR1_ref, ↓m_pop1, ↓m_pop0, ↓m_app, ↓vTy_lst, ↓kMe1_pop, ↓kMe1_app, ↓kMe1_ext, ↓kMe1_idx, ↓m_ext, ↓bin_fl1, ↓bin_fl2, ↓vBin_dd, ↓cmp_fl1, ↓cmp_fl2, ↓vCmp_dd, ↓vBi_1, ↓idx_fl, ↓idx_fd, ↓vIdx_dd, ↓vSlc_d, ↓if_fl, ↓st21, ↓st32, ↓r_intt, ↓r_intf, ↓r_intp, ↓r_zipt, ↓u_wVerdict, ↓if_pos, ↓if_neg, ↓reduceIte, kSlc3_str, r_stri, m_supp, isD_tup_non, isD_tup_bl, isD_tup_int, isD_tup_str, isD_tup_tup, isD_tup_lst, isD_lst_non, isD_lst_bl, isD_lst_int, isD_lst_str, isD_lst_tup, isD_lst_lst, isD_str_non, isD_str_bl, isD_str_int, isD_str_str, isD_str_tup, isD_str_lst, isD_int_non, isD_int_bl, isD_int_int, isD_int_str, isD_int_tup, isD_int_lst, isD_bl_non, isD_bl_bl, isD_bl_int, isD_bl_str, isD_bl_tup, isD_bl_lst, isD_dct_non, isD_dct_bl, isD_dct_int, isD_dct_str, isD_dct_tup, isD_dct_lst, isN_non, isN_bl, isN_int, isN_str, isN_tup, isN_lst, r_intb, bin_ref1, bin_ref2, cmp_ref1, cmp_ref2, bi_ref, idx_ref, slc_ref, r_eq, r_ne, kAnd_bl, kOr_bl, kIte_bl, kTst_bl, kIf_bl, kWTest_bl, kLt2_eq, kNot_eq, kAnd_eq, kOr_eq, kIte_eq, kTup_eq, kLst_eq, kIdx2_dd, vPop_lst, vPop0_lst, vApp_lst, emp_snoc, vExt_lst, m_tidx, idx_tmap, idx_lmap, kDct_eq, kLzip_eq, kTst_eq, kIt_ref, vWk_lst, vWk_lk, kIf_eq, kWTest_eq, kIx2_d, kRw_eq, kGl_some, finish_old, finish_new, vFin_lst, vFin_dct, cLc_nil, cLc_cons, kLc1_eq, kLc2_eq, cFor_nil, cFor_cons, view_d, view_fl, view_ref, vwC_lst, vwC_lk, vwC_dct, viewD_ref, viewD_d, viewD_fl, viewD_fd, vwD_lst, vwD_lk, vwD_dct, views_nil, views_cons, cnsO_some, frzs_nil, frzs_d, cnsF_some, putIx_ref, pIx_s, pIx_i, pIx_l, dGet_hit, dGet_miss, renW_self, renW_d, renW_sq, truW, tup_ok, lst_ok, List.map_cons, List.map_nil, List.all_cons, List.all_nil, List.contains_cons, List.contains_nil, List.elem_nil, List.getD_cons_zero, List.getD_cons_succ, List.getElem?_cons_zero, List.getElem?_cons_succ, List.getElem?_nil, List.set_cons_zero, List.set_cons_succ, List.length_cons, List.length_nil, List.nil_append, List.cons_append, List.append_nil, List.take_zero, List.take_succ_cons, List.take_nil, Bool.true_and, Bool.and_true, Bool.false_and, Bool.and_false, Bool.not_true, Bool.not_false, Bool.true_or, Bool.or_true, decide_eq_true_eq, Bool.not_eq_true', decide_eq_false_iff_not, reduceCtorEq, if_true, if_false, ite_true, ite_false, Bool.false_eq_true, Option.map_some, List.idxOf_cons, beq_self_eq_true, Nat.zero_add, cond_true, cond_false, D.truO, D.tru, List.isEmpty_cons, List.isEmpty_nil, Int.toNat_zero, List.length_map, clearO_nil, clearO_cons, Option.map_none, star_t, star_l, cut_pre, cut_suf, cut_mid, cut_all, take_map, drop_map, b2i_t, b2i_f, cut_tail, drop_one, toNat_1, toNat_2, toNat_3, List.drop_zero, cE_non, cE_bl, cE_int, cE_str, cE_var0, cE_varS, cE_glb, cE_bin, kBin1_eq, cE_neg, kNeg_int, cE_rev, kRev_tup, kRev_lst, kRev_fl, cE_isi, kIsi_d, kIsi_fl, r_isN, r_isNN, r_lts, r_les, r_gts, r_ges, r_addbi, r_strb, r_strs, kMe1_supp, r_in_sl, r_in_st, r_ni_sl, r_ni_st, r_in_it, r_ni_it, cE_unot, kNot_bl, cE_band, cE_bor, cE_cmp, kCmp1_eq, cE_ife, cE_tup, cE_lst, kTup0, kTup1, kTup2, kTup3, kTup4, kTup5, kLst0, kLst1, kLst2, kLst3, kLst4, kLst5, cE_call, cE_bi, cE_idx, kIdx1_eq, cE_slc, kSlc1_eq, kSlc2_eq, kSlc3_lst, kSlc3_fl, kSlc3_tup, kSlc3_sq, cE_meth, cE_dct, cE_mkd, kMkd_lst, cE_lzip, cL_nil, cL_cons, kRow_eq, kCons_d, kCons_ref, kCons_fl, kCons_sq, cO_nop, cO_sb, kSb_int, cP_nil, cP_cons, kPr1_d, kPr2_d, kPr2_fl, kPr3_s, kPr3_i, cT_nil, cT_cons, cI_rng, cI_rng2, cI_zip, kZip_tt, kZip_ll, cI_it, kIt_lst, kIt_tup, kIt_fl, kIt_str, ckd_none, unl_none, cN_0, cN_S, kEn_eq, cB_nm, cB_tup, cBs_nil, cBs_cons, kBs_eq, cE_lc, kLc_eq, kLt1_eq, kLt3_d, kLt3_fl, cG_d, cG_ref, cG_sq, cG_fl, cG_fd, cA_d, cA_ref, cA_fl, cA_fd, cG_pt, cG_unl, cG_star, cG_ix, cG_ixl, kIx1_eq, cS_asg, kAsg_eq, kNx_eq, cS_par, kPar_eq, cR_nil, cR_cons, kRw_nd, kRw_nf, kRw_nr, kRw_ad, kRw_af, kRw_ar, cW_nil, cW_nd, cW_nr, cW_ad, cW_ar, cW_af, kWs_eq, cS_ret, kRt_eq, cS_ex, kEx_eq, cS_if, cS_cons, cS_nil, cS_brk, cS_cnt, cS_pass, kSeq_nx, kSeq_ret, kSeq_bk, kSeq_ct, cS_for, kFor_eq, kBody_eq, kTurn_nx, kTurn_ct, kTurn_bk, kTurn_ret, cS_whl, kWTurn_nx, kWTurn_ct, kWTurn_bk, kWTurn_ret, kFin_ret, kFin_nx, finish_d, finish_fl, finish_fd, finish_sq, r_add, r_addb, r_sub, r_mul, r_div, r_mod, r_pow, r_shl, r_shr, r_and, r_adds, r_addt, r_addl, r_eqi, r_nei, r_eqs, r_nes, r_eqt0, r_net0, r_eql0, r_nel0, r_lt, r_le, r_gt, r_ge, r_lenl, r_lent, r_lens, r_tupl, r_tupt, r_lisl, r_list, r_inti, r_abs, r_max, r_min, t2_0, t2_1, t2_2, t2_3, t2_4, l2_0, l2_1, l2_2, l2_3, kRng_int, kRng2_int, ckd_some, unl_t, unl_f, oK_some, oC_some, oP_some, oW_some, kRet_ok, kLc2_t, kLc2_f, vIdx_dct, vPt_some, vUn_some, kLc3_d, kLc3_fl, kIf_t, kIf_f, kIf_p, kIf_n, kIte_t, kIte_f, kIte_p, kIte_n, kAnd_t, kAnd_f, kAnd_p, kAnd_n, kOr_t, kOr_f, kOr_p, kOr_n, kTst_t, kTst_f, kTst_p, kTst_n, kWTest_p, kWTest_n, kLt2_t, kLt2_f, kLt2_p, kCall_0, kCall_r0, kCall_r1, kCall_r2, kR0_d, kR0_fl, kR0_fd, kR1_d, kR1_fl, kR1_fd, kR1_ref, m_pop1, m_pop0, m_app, vTy_lst, kMe1_pop, kMe1_app, kMe1_ext, kMe1_idx, m_ext, bin_fl1, bin_fl2, vBin_dd, cmp_fl1, cmp_fl2, vCmp_dd, vBi_1, idx_fl, idx_fd, vIdx_dd, vSlc_d, if_fl, st21, st32, r_intt, r_intf, r_intp, r_zipt, pairs_zip, *])
theorem verdict_loop {β : Type} {X : Xk β} {U : Pg} {n : Nat} {t0 ms tr : D} {its : List D} {K : Fl → En → Cells → Res β} {R : Res β} {xs : List Str} {r : List Bool} (nd : xs.Nodup) (hl : xs.length = r.length) : ∀ (es : List D) (t : Tr) (w : Option W), t.on xs →
    (∀ w : Option W, K .nx [some (.d t0), some (.d ms), some (.d tr), some (.ref 0), some (.d (t.steps (asg xs r) es.length).d), w] [.dct (hadK xs r)] = R) →
    cFor (fnsN U n) X (.nm 5) wVerdict none its es [some (.d t0), some (.d ms), some (.d tr), some (.ref 0), some (.d t.d), w] [.dct (hadK xs r)] K = R
  | [], t, w, _, h => by
    walk_at "lf"
    exact h w
  | x :: es, t, w, hon, h => by
    have ih := verdict_loop (X := X) (U := U) (n := n) (t0 := t0) (ms := ms) (tr := tr) (its := its) (K := K) (R := R) nd hl es (t.step (asg xs r)) (some (.d x)) (on_step hon) h
    cases t with
    | leaf b =>
      simp only [Tr.step, Tr.d] at ih ⊢
      walk_at "lfs"
    | ask m a b =>
      have hg := had_get nd hl hon.1
      by_cases hb : asg xs r m = true
      · simp only [Tr.step, if_pos hb] at ih
        simp only [Tr.d] at ih ⊢
        walk_at "lfs"
      · simp only [Tr.step, if_neg hb] at ih
        have hb : asg xs r m = false := by simpa using hb
        simp only [Tr.d] at ih ⊢
        walk_at "lfs"
theorem verdict_ok {U : Pg} {n i : Nat} {ms : List Str} {r : List Bool} {t : Tr} (hi : U.fns[i]? = some fVerdict) (nd : ms.Nodup) (hl : ms.length = r.length) (h10 : ms.length ≤ 100) (hon : t.on ms) :
    callN U (n + 1) i [.d t.d, .d (.tup (sD ms)), .d (rowD r)] [] = .ok (.d (.bl (t.ev (asg ms r))), []) := by
  rw [run_def hi ⟨rfl, by decide⟩]
  simp only [fVerdict, bVerdict, List.map, List.replicate, Nat.reduceSub, rowD]
  walk_at "lf"
  refine verdict_loop nd hl _ t none hon fun w => ?_
  rw [rngL_len, steps_ev _ t (by have := on_depth t ms hon; omega)]
  simp only [Tr.d]
  walk_at "lf"
theorem tree_on : ∀ (d : Nat) (t : Tap) (ms : List Str), (t.tree d ms).1.on ms
  | 0, t, ms => trivial
  | d + 1, t, ms => by
    simp only [Tap.tree]
    split
    · trivial
    · rename_i hne
      have hl : 0 < ms.length := by
        cases ms with
        | nil => exact absurd rfl hne
        | cons _ _ => simp
      split
      · trivial
      · have b := Tap.val_b (t := t.nxt 4) (m := ms.length) (by omega)
        refine ⟨?_, tree_on d _ _, tree_on d _ _⟩
        rw [List.getD_eq_getElem?_getD, List.getElem?_eq_getElem (by omega)]
        exact List.getElem_mem _
theorem tree_depth : ∀ (d : Nat) (t : Tap) (ms : List Str), (t.tree d ms).1.depth ≤ d
  | 0, t, ms => by simp [Tap.tree, Tr.depth]
  | d + 1, t, ms => by
    simp only [Tap.tree]
    split
    · simp [Tr.depth]
    · split
      · simp [Tr.depth]
      · simp only [Tr.depth]
        have a := tree_depth d ((t.nxt 4).nxt ms.length) (ms.filter (· ≠ ms.getD ((t.nxt 4).val ms.length).toNat default))
        have b := tree_depth d (Tap.tree d ((t.nxt 4).nxt ms.length) (ms.filter (· ≠ ms.getD ((t.nxt 4).val ms.length).toNat default))).2 (ms.filter (· ≠ ms.getD ((t.nxt 4).val ms.length).toNat default))
        omega
theorem mkd_sub : ∀ (j : Nat) (t : Tap) (p : List Str) (m : Int), (t.mkd j p m).1.Sublist p
  | 0, _, p, _ => List.Sublist.refl _
  | j + 1, t, p, m => by
    simp only [Tap.mkd]
    split
    · exact (mkd_sub j _ _ m).trans (List.eraseIdx_sublist _ _)
    · exact List.Sublist.refl _
/-- a text as the marks are -/
def okS (s : Str) : Bool := decide (s.length ≤ 8) && s.cps.toList.all fun c => decide (c < 16 ^ 8)
theorem pool_okS : ∀ s ∈ pool8, okS s = true := by decide +kernel
theorem pool_nd : pool8.Nodup := by decide +kernel
theorem marked_okS {t : Tap} {m : Int} : ∀ s ∈ (t.marked m).1, okS s = true := fun s h => pool_okS s ((mkd_sub 8 t pool8 m).mem h)
theorem marked_nd {t : Tap} {m : Int} : (t.marked m).1.Nodup := (mkd_sub 8 t pool8 m).nodup pool_nd
theorem marked_len {t : Tap} {m : Int} : (t.marked m).1.length ≤ 8 := (mkd_sub 8 t pool8 m).length_le
/-- all marks of a tree -/
def Tr.all (p : Str → Bool) : Tr → Bool
  | .leaf _ => true
  | .ask m n y => p m && n.all p && y.all p
theorem on_all {p : Str → Bool} : ∀ (t : Tr) (ms : List Str), t.on ms → (∀ m ∈ ms, p m = true) → t.all p = true
  | .leaf _, _, _, _ => rfl
  | .ask m n y, ms, h, hp => by
    have f : ∀ x ∈ ms.filter (· ≠ m), p x = true := fun x hx => hp x (List.mem_filter.mp hx).1
    simp only [Tr.all, Bool.and_eq_true]
    exact ⟨⟨hp m h.1, on_all n _ h.2.1 f⟩, on_all y _ h.2.2 f⟩
theorem tr_tame : ∀ t : Tr, t.all okS = true → t.d.tame = true
  | .leaf b, _ => by cases b <;> decide +kernel
  | .ask m n y, h => by
    simp only [Tr.all, Bool.and_eq_true] at h
    have h0 := h.1.1
    simp only [okS, Bool.and_eq_true] at h0
    have e : (D.str "ask").tame = true := by decide +kernel
    simp only [Tr.d, D.tame, D.tames, Bool.and_eq_true, tr_tame n h.1.2, tr_tame y h.2, and_true]
    refine ⟨by simpa only [D.tame] using e, h0.2⟩
theorem tr_ub : ∀ t : Tr, t.all okS = true → t.d.ub + 125 ≤ 179 * 2 ^ t.depth
  | .leaf b, _ => by cases b <;> decide +kernel
  | .ask m n y, h => by
    simp only [Tr.all, Bool.and_eq_true] at h
    have h0 := h.1.1
    simp only [okS, Bool.and_eq_true, decide_eq_true_eq] at h0
    have a := tr_ub n h.1.2
    have b := tr_ub y h.2
    have e : (D.str "ask").ub = 32 := by decide +kernel
    simp only [Tr.d, D.ub, D.ubs, Tr.depth, Nat.pow_succ] at a b e ⊢
    have p1 : 2 ^ n.depth ≤ 2 ^ (max n.depth y.depth) := Nat.pow_le_pow_right (by decide) (Nat.le_max_left _ _)
    have p2 : 2 ^ y.depth ≤ 2 ^ (max n.depth y.depth) := Nat.pow_le_pow_right (by decide) (Nat.le_max_right _ _)
    omega
theorem tr_dep : ∀ t : Tr, t.d.dep = t.depth + 1
  | .leaf b => rfl
  | .ask m n y => by
    simp only [Tr.d, D.dep, D.deps, tr_dep n, tr_dep y, Tr.depth]
    omega
theorem tr_eq : ∀ (a b : Tr), D.eq a.d b.d = decide (a = b)
  | .leaf a, .leaf b => by cases a <;> cases b <;> decide
  | .leaf a, .ask m n y => by simp [Tr.d, D.eq, D.eqs]
  | .ask m n y, .leaf a => by simp [Tr.d, D.eq, D.eqs]
  | .ask m n y, .ask m' n' y' => by
    simp only [Tr.d, D.eq, D.eqs, tr_eq n n', tr_eq y y', beq_self_eq_true, Bool.true_and, Bool.and_true]
    by_cases h : m = m' <;> by_cases h2 : n = n' <;> by_cases h3 : y = y' <;> simp [h, h2, h3]
theorem tr_rep {t : Tr} (h : t.all okS = true) (hd : t.depth ≤ 14) : t.d.repOk = true := by
  refine rep_of (tr_tame t h) (by rw [tr_dep]; omega) ?_
  have := tr_ub t h
  have : 2 ^ t.depth ≤ 2 ^ 14 := Nat.pow_le_pow_right (by decide) hd
  omega
theorem sD_tame : ∀ ms : List Str, (∀ m ∈ ms, okS m = true) → D.tames (sD ms) = true
  | [], _ => rfl
  | m :: ms, h => by
    have h0 := h m List.mem_cons_self
    simp only [okS, Bool.and_eq_true] at h0
    have ih := sD_tame ms fun x hx => h x (List.mem_cons_of_mem _ hx)
    simp only [sD] at ih
    simp only [sD, List.map_cons, D.tames, D.tame, Bool.and_eq_true]
    exact ⟨h0.2, ih⟩
theorem sD_ub : ∀ ms : List Str, (∀ m ∈ ms, okS m = true) → D.ubs (sD ms) ≤ 84 * ms.length
  | [], _ => by simp [D.ubs]
  | m :: ms, h => by
    have h0 := h m List.mem_cons_self
    simp only [okS, Bool.and_eq_true, decide_eq_true_eq] at h0
    have ih := sD_ub ms fun x hx => h x (List.mem_cons_of_mem _ hx)
    simp only [sD] at ih
    simp only [sD, List.map_cons, D.ubs, D.ub, List.length_cons]
    omega
theorem sD_dep : ∀ ms : List Str, D.deps (sD ms) = 0
  | [] => rfl
  | m :: ms => by
    have ih := sD_dep ms
    simp only [sD] at ih
    simp [sD, D.deps, D.dep, ih]
theorem pair_rep {ms : List Str} {t : Tr} (hm : ∀ m ∈ ms, okS m = true) (hl : ms.length ≤ 100) (h : t.all okS = true) (hd : t.depth ≤ 14) : (D.tup [.tup (sD ms), t.d]).repOk = true := by
  have e1 := sD_tame ms hm
  have e2 := tr_tame t h
  have e3 := sD_ub ms hm
  have e4 := tr_ub t h
  have e5 : 2 ^ t.depth ≤ 2 ^ 14 := Nat.pow_le_pow_right (by decide) hd
  have e6 := sD_dep ms
  have e7 := tr_dep t
  refine rep_of ?_ ?_ ?_
  · simp [D.tame, D.tames, e1, e2]
  · simp only [D.dep, D.deps, e6, e7]; omega
  · simp only [D.ub, D.ubs]; omega
end Lf
end

section
set_option maxHeartbeats 4000000
namespace Lf.K04
open PySem Lf
/-! the text in the small language -/
def top (i : Nat) : Stmt := PySem.Challenge.pw_leastfaults_k04_trees_by_kind.main.body.getD i (.Pass ⟨0, 0, 0, 0⟩)
/-- is_tree: slots 0 marks, 1 thing, 2 rest, 3 word, 4 mark, 5 no, 6 yes, 7 one -/
def b0 : S := (.cons (.ife (.bor (.unot (.isi .tup (.var 1))) (.bor (.cmp .NotIn (.bi .len (.cons (.var 1) .nil)) (.tup (.cons (.int 2) (.cons (.int 4) .nil)))) (.unot (.isi .str (.idx (.var 1) (.int 0))))))
 (.cons (.ret (.bl false))
 .nil)
 .nil)
 (.cons (.ife (.cmp .Eq (.bi .len (.cons (.var 1) .nil)) (.int 2))
 (.cons (.ret (.band (.cmp .Eq (.idx (.var 1) (.int 0)) (.str "leaf")) (.isi .bl (.idx (.var 1) (.int 1)))))
 .nil)
 .nil)
 (.cons (.asg (.pt (.tup (.cons (.nm 3) (.cons (.nm 4) (.cons (.nm 5) (.cons (.nm 6) .nil)))))) (.var 1))
 (.cons (.ife (.bor (.cmp .NotEq (.var 3) (.str "ask")) (.bor (.unot (.isi .str (.var 4))) (.cmp .NotIn (.var 4) (.var 0))))
 (.cons (.ret (.bl false))
 .nil)
 .nil)
 (.cons (.asg (.nm 2) (.bi .tuple (.cons (.lc [7] (.var 7) (.nm 7) (.it (.var 0)) (.cons (.cmp .NotEq (.var 7) (.var 4)) .nil)) .nil)))
 (.cons (.ret (.band (.call 0 (.cons (.var 2) (.cons (.var 5) .nil))) (.call 0 (.cons (.var 2) (.cons (.var 6) .nil)))))
 .nil))))))
def f0 : Fd := ⟨2, 8, b0⟩
def d0 : Df := ⟨"is_tree", top 1, ["marks", "thing", "rest", "word", "mark", "no", "yes", "one"], ["marks", "thing"]⟩
/-- _law_tap: slots 0 _law_script -/
def b1 : S := (.cons (.ret (.dct (.cons (.str "cells") (.cons (.bi .list (.cons (.slc (.var 0) .nop (.sb (.int 63))) .nil)) (.cons (.str "spot") (.cons (.int 0) (.cons (.str "rest") (.cons (.int 0) (.cons (.str "calls") (.cons (.int 0) .nil))))))))))
 .nil)
def f1 : Fd := ⟨1, 1, b1⟩
def d1 : Df := ⟨"_law_tap", top 3, ["_law_script"], ["_law_script"]⟩
/-- _law_take: slots 0 _law_tap_here, 1 _law_many, 2 _law_calls, 3 _law_spot, 4 _law_cells, 5 _law_cell, 6 _law_once, 7 _law_figure -/
def b2 : S := (.cons (.asg (.nm 2) (.bin .Add (.idx (.var 0) (.str "calls")) (.int 1)))
 (.cons (.asg (.ix (.var 0) (.str "calls")) (.var 2))
 (.cons (.ife (.cmp .Gt (.idx (.var 0) (.str "rest")) (.int 0))
 (.cons (.asg (.nm 7) (.bin .Mod (.idx (.var 0) (.str "rest")) (.var 1)))
 (.cons (.asg (.ix (.var 0) (.str "rest")) (.bin .FloorDiv (.idx (.var 0) (.str "rest")) (.var 1)))
 (.cons (.ret (.var 7))
 .nil)))
 .nil)
 (.cons (.asg (.nm 3) (.idx (.var 0) (.str "spot")))
 (.cons (.asg (.ix (.var 0) (.str "spot")) (.bin .Add (.var 3) (.int 1)))
 (.cons (.asg (.nm 4) (.idx (.var 0) (.str "cells")))
 (.cons (.asg (.nm 5) (.ife (.cmp .Gt (.bi .len (.cons (.var 4) .nil)) (.int 0)) (.idx (.var 4) (.bin .Mod (.var 3) (.bi .len (.cons (.var 4) .nil)))) (.int 5)))
 (.cons (.ife (.band (.cmp .Lt (.var 3) (.bi .len (.cons (.var 4) .nil))) (.cmp .GtE (.var 5) (.bin .Pow (.int 10) (.int 18))))
 (.cons (.asg (.ix (.var 0) (.str "rest")) (.bin .FloorDiv (.var 5) (.var 1)))
 (.cons (.ret (.bin .Mod (.var 5) (.var 1)))
 .nil))
 .nil)
 (.cons (.asg (.nm 6) (.bin .Mod (.bin .Pow (.bin .Add (.bin .Add (.bin .Mod (.var 5) (.int 2147483629)) (.bin .Mult (.int 6007) (.var 2))) (.int 11)) (.int 5)) (.int 2147483647)))
 (.cons (.ret (.bin .Mod (.bin .FloorDiv (.bin .Mod (.bin .Pow (.bin .Add (.var 6) (.bin .Mult (.bin .Mult (.int 4099) (.var 2)) (.var 2))) (.int 5)) (.int 2147483587)) (.int 32)) (.var 1)))
 .nil))))))))))
def f2 : Fd := ⟨2, 8, b2⟩
def d2 : Df := ⟨"_law_take", top 4, ["_law_tap_here", "_law_many", "_law_calls", "_law_spot", "_law_cells", "_law_cell", "_law_once", "_law_figure"], ["_law_tap_here", "_law_many"]⟩
/-- _law_marked: slots 0 _law_tap_here, 1 _law_many, 2 _law_pool -/
def w3a : S := (.cons (.ex (.meth .lpop (.var 2) (.cons (.call 2 (.cons (.var 0) (.cons (.bi .len (.cons (.var 2) .nil)) .nil))) .nil)))
 .nil)
theorem u_w3a {β : Type} {F : Fns} {X : Xk β} {env : En} {c : Cells} {K : Fl → En → Cells → Res β} : cS F X w3a env c K = cS F X (.cons (.ex (.meth .lpop (.var 2) (.cons (.call 2 (.cons (.var 0) (.cons (.bi .len (.cons (.var 2) .nil)) .nil))) .nil)))
 .nil) env c K := by rw [w3a]
def b3 : S := (.cons (.asg (.al 2) (.lst (.cons (.str "a") (.cons (.str "ab") (.cons (.str "age") (.cons (.str "b") (.cons (.str "leaf") (.cons (.str "no") (.cons (.str "yes") (.cons (.str "zzzzzzzz") .nil))))))))))
 (.cons (.whl (.cmp .Gt (.bi .len (.cons (.var 2) .nil)) (.var 1))
 w3a)
 (.cons (.ret (.bi .tuple (.cons (.var 2) .nil)))
 .nil)))
def f3 : Fd := ⟨2, 3, b3⟩
def d3 : Df := ⟨"_law_marked", top 5, ["_law_tap_here", "_law_many", "_law_pool"], ["_law_tap_here", "_law_many"]⟩
/-- _law_tree: slots 0 _law_tap_here, 1 _law_marks, 2 _law_deep, 3 _law_mark, 4 _law_rest, 5 _law_one -/
def b4 : S := (.cons (.ife (.bor (.cmp .Eq (.var 2) (.int 0)) (.bor (.cmp .Eq (.var 1) (.tup .nil)) (.cmp .Eq (.call 2 (.cons (.var 0) (.cons (.int 4) .nil))) (.int 0))))
 (.cons (.ret (.tup (.cons (.str "leaf") (.cons (.cmp .Eq (.call 2 (.cons (.var 0) (.cons (.int 2) .nil))) (.int 0)) .nil))))
 .nil)
 .nil)
 (.cons (.asg (.nm 3) (.idx (.var 1) (.call 2 (.cons (.var 0) (.cons (.bi .len (.cons (.var 1) .nil)) .nil)))))
 (.cons (.asg (.nm 4) (.bi .tuple (.cons (.lc [5] (.var 5) (.nm 5) (.it (.var 1)) (.cons (.cmp .NotEq (.var 5) (.var 3)) .nil)) .nil)))
 (.cons (.ret (.tup (.cons (.str "ask") (.cons (.var 3) (.cons (.call 4 (.cons (.var 0) (.cons (.var 4) (.cons (.bin .Sub (.var 2) (.int 1)) .nil)))) (.cons (.call 4 (.cons (.var 0) (.cons (.var 4) (.cons (.bin .Sub (.var 2) (.int 1)) .nil)))) .nil))))))
 .nil))))
def f4 : Fd := ⟨3, 6, b4⟩
def d4 : Df := ⟨"_law_tree", top 6, ["_law_tap_here", "_law_marks", "_law_deep", "_law_mark", "_law_rest", "_law_one"], ["_law_tap_here", "_law_marks", "_law_deep"]⟩
/-- _law_odd: slots 0 _law_tap_here, 1 _law_some -/
def b5 : S := (.cons (.asg (.nm 1) (.lst (.cons .non (.cons (.bl true) (.cons (.bl false) (.cons (.int 0) (.cons (.int 1) (.cons (.neg (.int 1)) (.cons (.bin .Pow (.int 10) (.int 50)) (.cons (.str "") (.cons (.str "a") (.cons (.str "A") (.cons (.str "abcdefghi") (.cons (.tup .nil) (.cons (.lst .nil) (.cons (.tup (.cons (.str "a") .nil)) (.cons (.lst (.cons (.str "a") .nil)) (.cons (.tup (.cons (.str "a") (.cons (.bl true) .nil))) .nil))))))))))))))))))
 (.cons (.ret (.idx (.var 1) (.call 2 (.cons (.var 0) (.cons (.int 16) .nil)))))
 .nil))
def f5 : Fd := ⟨1, 2, b5⟩
def d5 : Df := ⟨"_law_odd", top 7, ["_law_tap_here", "_law_some"], ["_law_tap_here"]⟩
/-- _law_bend: slots 0 _law_tap_here, 1 _law_thing, 2 _law_deep, 3 _law_way, 4 _law_at -/
def b6 : S := (.cons (.ife (.band (.isi .tup (.var 1)) (.band (.cmp .NotEq (.var 1) (.tup .nil)) (.band (.cmp .Gt (.var 2) (.int 0)) (.cmp .Gt (.call 2 (.cons (.var 0) (.cons (.int 3) .nil))) (.int 0)))))
 (.cons (.asg (.nm 4) (.call 2 (.cons (.var 0) (.cons (.bi .len (.cons (.var 1) .nil)) .nil))))
 (.cons (.ret (.bin .Add (.bin .Add (.slc (.var 1) .nop (.sb (.var 4))) (.tup (.cons (.call 6 (.cons (.var 0) (.cons (.idx (.var 1) (.var 4)) (.cons (.bin .Sub (.var 2) (.int 1)) .nil)))) .nil))) (.slc (.var 1) (.sb (.bin .Add (.var 4) (.int 1))) .nop)))
 .nil))
 .nil)
 (.cons (.asg (.nm 3) (.call 2 (.cons (.var 0) (.cons (.int 7) .nil))))
 (.cons (.ife (.isi .tup (.var 1))
 (.cons (.asg (.nm 4) (.call 2 (.cons (.var 0) (.cons (.bin .Add (.bi .len (.cons (.var 1) .nil)) (.int 1)) .nil))))
 (.cons (.ife (.cmp .Eq (.var 3) (.int 3))
 (.cons (.ret (.bin .Add (.bin .Add (.slc (.var 1) .nop (.sb (.var 4))) (.tup (.cons (.call 5 (.cons (.var 0) .nil)) .nil))) (.slc (.var 1) (.sb (.var 4)) .nop)))
 .nil)
 .nil)
 (.cons (.ife (.cmp .Lt (.var 3) (.int 5))
 (.cons (.ret (.idx (.lst (.cons (.bi .list (.cons (.var 1) .nil)) (.cons (.bin .Add (.slc (.var 1) .nop (.sb (.var 4))) (.slc (.var 1) (.sb (.bin .Add (.var 4) (.int 1))) .nop)) (.cons (.bin .Add (.bin .Add (.slc (.var 1) .nop (.sb (.var 4))) (.slc (.var 1) (.sb (.var 4)) (.sb (.bin .Add (.var 4) (.int 1))))) (.slc (.var 1) (.sb (.var 4)) .nop)) (.cons (.tup .nil) (.cons (.rev (.var 1)) .nil)))))) (.var 3)))
 .nil)
 .nil)
 (.cons (.ret (.call 5 (.cons (.var 0) .nil)))
 .nil))))
 .nil)
 (.cons (.ife (.band (.isi .int (.var 1)) (.cmp .Lt (.var 3) (.int 4)))
 (.cons (.ret (.idx (.lst (.cons (.bin .Add (.var 1) (.int 1)) (.cons (.cmp .Eq (.var 1) (.int 0)) (.cons (.bi .int (.cons (.var 1) .nil)) (.cons (.bi .str (.cons (.var 1) .nil)) .nil))))) (.var 3)))
 .nil)
 .nil)
 (.cons (.ife (.band (.isi .str (.var 1)) (.cmp .Lt (.var 3) (.int 3)))
 (.cons (.ret (.idx (.lst (.cons (.bin .Add (.var 1) (.str "a")) (.cons (.slc (.var 1) (.sb (.int 1)) .nop) (.cons (.meth .supp (.var 1) .nil) .nil)))) (.var 3)))
 .nil)
 .nil)
 (.cons (.ret (.call 5 (.cons (.var 0) .nil)))
 .nil))))))
def f6 : Fd := ⟨3, 5, b6⟩
def d6 : Df := ⟨"_law_bend", top 8, ["_law_tap_here", "_law_thing", "_law_deep", "_law_way", "_law_at"], ["_law_tap_here", "_law_thing", "_law_deep"]⟩
/-- _law_is_grown: slots 0 _law_marks, 1 _law_thing, 2 _law_rest, 3 _law_mark -/
def b7 : S := (.cons (.ife (.bor (.unot (.isi .tup (.var 1))) (.bor (.cmp .Eq (.var 1) (.tup .nil)) (.unot (.isi .str (.idx (.var 1) (.int 0))))))
 (.cons (.ret (.bl false))
 .nil)
 .nil)
 (.cons (.ife (.cmp .Eq (.idx (.var 1) (.int 0)) (.str "leaf"))
 (.cons (.ret (.band (.cmp .Eq (.bi .len (.cons (.var 1) .nil)) (.int 2)) (.isi .bl (.idx (.var 1) (.int 1)))))
 .nil)
 .nil)
 (.cons (.ife (.bor (.cmp .NotEq (.idx (.var 1) (.int 0)) (.str "ask")) (.bor (.cmp .NotEq (.bi .len (.cons (.var 1) .nil)) (.int 4)) (.bor (.unot (.isi .str (.idx (.var 1) (.int 1)))) (.cmp .NotIn (.idx (.var 1) (.int 1)) (.var 0)))))
 (.cons (.ret (.bl false))
 .nil)
 .nil)
 (.cons (.asg (.nm 2) (.lc [3] (.var 3) (.nm 3) (.it (.var 0)) (.cons (.cmp .NotEq (.var 3) (.idx (.var 1) (.int 1))) .nil)))
 (.cons (.ret (.band (.call 7 (.cons (.var 2) (.cons (.idx (.var 1) (.int 2)) .nil))) (.call 7 (.cons (.var 2) (.cons (.idx (.var 1) (.int 3)) .nil)))))
 .nil)))))
def f7 : Fd := ⟨2, 4, b7⟩
def d7 : Df := ⟨"_law_is_grown", top 9, ["_law_marks", "_law_thing", "_law_rest", "_law_mark"], ["_law_marks", "_law_thing"]⟩
/-- _law_near: slots 0 _law_marks, 1 _law_tree_here, 2 _law_leaf, 3 _law_found, 4 _law_mark, 5 _law_twice -/
def w8a : S := (.cons (.asg (.nm 5) (.tup (.cons (.str "ask") (.cons (.var 4) (.cons (.var 2) (.cons (.tup (.cons (.str "ask") (.cons (.var 4) (.cons (.var 2) (.cons (.var 2) .nil))))) .nil))))))
 (.cons (.asg (.al 3) (.bin .Add (.var 3) (.lst (.cons (.var 5) (.cons (.tup (.cons (.str "ask") (.cons (.var 4) (.cons (.var 2) .nil)))) (.cons (.tup (.cons (.str "ask") (.cons (.var 4) (.cons (.var 2) (.cons (.var 2) (.cons (.var 2) .nil)))))) (.cons (.tup (.cons (.str "nor") (.cons (.var 4) (.cons (.var 2) (.cons (.var 2) .nil))))) .nil)))))))
 (.cons (.asg (.al 3) (.bin .Add (.var 3) (.lst (.cons (.tup (.cons (.str "ask") (.cons (.var 4) (.cons (.var 1) (.cons (.var 2) .nil))))) (.cons (.tup (.cons (.str "ask") (.cons (.var 4) (.cons (.var 2) (.cons (.lst (.cons (.var 2) .nil)) .nil))))) (.cons (.tup (.cons (.str "leaf") (.cons (.var 4) (.cons (.var 2) (.cons (.var 2) .nil))))) .nil))))))
 (.cons (.ex (.meth .lapp (.var 3) (.cons (.tup (.cons (.var 4) (.cons (.var 2) .nil))) .nil)))
 .nil))))
theorem u_w8a {β : Type} {F : Fns} {X : Xk β} {env : En} {c : Cells} {K : Fl → En → Cells → Res β} : cS F X w8a env c K = cS F X (.cons (.asg (.nm 5) (.tup (.cons (.str "ask") (.cons (.var 4) (.cons (.var 2) (.cons (.tup (.cons (.str "ask") (.cons (.var 4) (.cons (.var 2) (.cons (.var 2) .nil))))) .nil))))))
 (.cons (.asg (.al 3) (.bin .Add (.var 3) (.lst (.cons (.var 5) (.cons (.tup (.cons (.str "ask") (.cons (.var 4) (.cons (.var 2) .nil)))) (.cons (.tup (.cons (.str "ask") (.cons (.var 4) (.cons (.var 2) (.cons (.var 2) (.cons (.var 2) .nil)))))) (.cons (.tup (.cons (.str "nor") (.cons (.var 4) (.cons (.var 2) (.cons (.var 2) .nil))))) .nil)))))))
 (.cons (.asg (.al 3) (.bin .Add (.var 3) (.lst (.cons (.tup (.cons (.str "ask") (.cons (.var 4) (.cons (.var 1) (.cons (.var 2) .nil))))) (.cons (.tup (.cons (.str "ask") (.cons (.var 4) (.cons (.var 2) (.cons (.lst (.cons (.var 2) .nil)) .nil))))) (.cons (.tup (.cons (.str "leaf") (.cons (.var 4) (.cons (.var 2) (.cons (.var 2) .nil))))) .nil))))))
 (.cons (.ex (.meth .lapp (.var 3) (.cons (.tup (.cons (.var 4) (.cons (.var 2) .nil))) .nil)))
 .nil)))) env c K := by rw [w8a]
def b8 : S := (.cons (.asg (.nm 2) (.tup (.cons (.str "leaf") (.cons (.bl true) .nil))))
 (.cons (.asg (.al 3) (.lst (.cons (.var 1) (.cons (.bi .list (.cons (.var 1) .nil)) (.cons (.bin .Add (.var 1) (.tup (.cons (.var 2) .nil))) (.cons (.slc (.var 1) .nop (.sb (.neg (.int 1)))) (.cons (.tup (.cons (.str "leaf") (.cons (.int 1) .nil))) (.cons (.tup (.cons (.str "leaf") (.cons .non .nil))) (.cons (.tup (.cons (.str "leaf") .nil)) (.cons (.str "leaf") .nil))))))))))
 (.cons (.asg (.al 3) (.bin .Add (.var 3) (.lst (.cons (.tup (.cons (.str "leaf") (.cons (.bl true) (.cons (.bl true) .nil)))) (.cons (.tup (.cons (.str "ask") (.cons (.str "q") (.cons (.var 1) (.cons (.var 2) .nil))))) (.cons (.tup (.cons (.str "ask") (.cons (.str "a") (.cons (.var 1) (.cons (.var 2) .nil))))) .nil))))))
 (.cons (.asg (.al 3) (.bin .Add (.var 3) (.lst (.cons (.tup (.cons (.str "ask") (.cons (.str "a") (.cons (.var 2) (.cons (.var 2) .nil))))) (.cons (.tup (.cons (.str "ask") (.cons .non (.cons (.var 2) (.cons (.var 2) .nil))))) .nil)))))
 (.cons (.forr (.nm 4) (.it (.slc (.var 0) .nop (.sb (.int 2))))
 w8a)
 (.cons (.ret (.var 3))
 .nil))))))
def f8 : Fd := ⟨2, 6, b8⟩
def d8 : Df := ⟨"_law_near", top 10, ["_law_marks", "_law_tree_here", "_law_leaf", "_law_found", "_law_mark", "_law_twice"], ["_law_marks", "_law_tree_here"]⟩
/-- _law_chain: slots 0 _law_letters, 1 _law_words, 2 _law_word, 3 _law_late, 4 _law_found, 5 _law_leaf, 6 _law_sign -/
def w9a : S := (.cons (.asg (.nm 4) (.tup (.cons (.str "ask") (.cons (.var 2) (.cons (.var 5) (.cons (.var 4) .nil))))))
 .nil)
theorem u_w9a {β : Type} {F : Fns} {X : Xk β} {env : En} {c : Cells} {K : Fl → En → Cells → Res β} : cS F X w9a env c K = cS F X (.cons (.asg (.nm 4) (.tup (.cons (.str "ask") (.cons (.var 2) (.cons (.var 5) (.cons (.var 4) .nil))))))
 .nil) env c K := by rw [w9a]
def b9 : S := (.cons (.asg (.nm 0) (.str "abcdefghijklmnopqrstuvwxyz"))
 (.cons (.asg (.nm 1) (.bi .tuple (.cons (.bin .Add (.lc [6] (.bin .Add (.str "k") (.var 6)) (.nm 6) (.it (.slc (.var 0) .nop (.sb (.int 25)))) .nil) (.lc [6] (.bin .Add (.str "m") (.var 6)) (.nm 6) (.it (.slc (.var 0) .nop (.sb (.int 15)))) .nil)) .nil)))
 (.cons (.par [(.nm 4), (.nm 5)] [(.tup (.cons (.str "leaf") (.cons (.bl false) .nil))), (.tup (.cons (.str "leaf") (.cons (.bl true) .nil)))])
 (.cons (.forr (.nm 2) (.it (.slc (.var 1) .nop (.sb (.int 25))))
 w9a)
 (.cons (.asg (.nm 3) (.tup (.cons (.str "ask") (.cons (.str "mn") (.cons (.var 5) (.cons (.tup (.cons (.str "ask") (.cons (.str "mo") (.cons (.var 5) (.cons (.var 5) .nil))))) .nil))))))
 (.cons (.ret (.tup (.cons (.var 1) (.cons (.lst (.cons (.var 4) (.cons (.tup (.cons (.str "ask") (.cons (.str "ka") (.cons (.var 4) (.cons (.var 4) .nil))))) (.cons (.tup (.cons (.str "ask") (.cons (.str "l") (.cons (.var 5) (.cons (.var 4) .nil))))) (.cons (.var 3) (.cons (.tup (.cons (.str "ask") (.cons (.str "ka") (.cons (.var 3) (.cons (.var 3) .nil))))) .nil)))))) .nil))))
 .nil))))))
def f9 : Fd := ⟨0, 7, b9⟩
def d9 : Df := ⟨"_law_chain", top 11, ["_law_letters", "_law_words", "_law_word", "_law_late", "_law_found", "_law_leaf", "_law_sign"], []⟩
/-- law: slots 0 _law_script, 1 _law_tap_here, 2 _law_marks, 3 _law_wanted, 4 _law_k, 5 _law_tree_here, 6 _law_things, 7 _law_j, 8 _law_own, 9 _law_thing, 10 _law_kept, 11 _law_bend_here -/
def w10b : S := (.cons (.asg (.nm 11) (.call 6 (.cons (.var 1) (.cons (.var 5) (.cons (.int 7) .nil)))))
 (.cons (.asg (.nm 6) (.bin .Add (.var 6) (.lst (.cons (.var 11) (.cons (.call 6 (.cons (.var 1) (.cons (.var 11) (.cons (.int 7) .nil)))) (.cons (.call 5 (.cons (.var 1) .nil)) .nil))))))
 .nil))
theorem u_w10b {β : Type} {F : Fns} {X : Xk β} {env : En} {c : Cells} {K : Fl → En → Cells → Res β} : cS F X w10b env c K = cS F X (.cons (.asg (.nm 11) (.call 6 (.cons (.var 1) (.cons (.var 5) (.cons (.int 7) .nil)))))
 (.cons (.asg (.nm 6) (.bin .Add (.var 6) (.lst (.cons (.var 11) (.cons (.call 6 (.cons (.var 1) (.cons (.var 11) (.cons (.int 7) .nil)))) (.cons (.call 5 (.cons (.var 1) .nil)) .nil))))))
 .nil)) env c K := by rw [w10b]
def w10a : S := (.cons (.asg (.nm 5) (.call 4 (.cons (.var 1) (.cons (.var 2) (.cons (.idx (.lst (.cons (.int 6) (.cons (.int 3) (.cons (.int 2) .nil)))) (.var 4)) .nil)))))
 (.cons (.asg (.nm 6) (.call 8 (.cons (.var 2) (.cons (.var 5) .nil))))
 (.cons (.forr (.nm 7) (.rng (.cons (.int 5) .nil))
 w10b)
 (.cons (.ex (.meth .lext (.var 3) (.cons (.lc [9] (.tup (.cons (.var 2) (.cons (.var 9) .nil))) (.nm 9) (.it (.var 6)) .nil) .nil)))
 (.cons (.ex (.meth .lext (.var 3) (.cons (.lc [9] (.tup (.cons (.slc (.var 2) (.sb (.int 1)) .nop) (.cons (.var 9) .nil))) (.nm 9) (.it (.slc (.var 6) .nop (.sb (.int 3)))) .nil) .nil)))
 .nil)))))
theorem u_w10a {β : Type} {F : Fns} {X : Xk β} {env : En} {c : Cells} {K : Fl → En → Cells → Res β} : cS F X w10a env c K = cS F X (.cons (.asg (.nm 5) (.call 4 (.cons (.var 1) (.cons (.var 2) (.cons (.idx (.lst (.cons (.int 6) (.cons (.int 3) (.cons (.int 2) .nil)))) (.var 4)) .nil)))))
 (.cons (.asg (.nm 6) (.call 8 (.cons (.var 2) (.cons (.var 5) .nil))))
 (.cons (.forr (.nm 7) (.rng (.cons (.int 5) .nil))
 w10b)
 (.cons (.ex (.meth .lext (.var 3) (.cons (.lc [9] (.tup (.cons (.var 2) (.cons (.var 9) .nil))) (.nm 9) (.it (.var 6)) .nil) .nil)))
 (.cons (.ex (.meth .lext (.var 3) (.cons (.lc [9] (.tup (.cons (.slc (.var 2) (.sb (.int 1)) .nop) (.cons (.var 9) .nil))) (.nm 9) (.it (.slc (.var 6) .nop (.sb (.int 3)))) .nil) .nil)))
 .nil))))) env c K := by rw [w10a]
def w10c : S := (.cons (.asg (.nm 10) (.bi .repr (.cons (.tup (.cons (.var 8) (.cons (.var 9) .nil))) .nil)))
 (.cons (.ife (.bor (.cmp .NotEq (.bi .repr (.cons (.call 0 (.cons (.var 8) (.cons (.var 9) .nil))) .nil)) (.bi .repr (.cons (.call 7 (.cons (.var 8) (.cons (.var 9) .nil))) .nil))) (.cmp .NotEq (.bi .repr (.cons (.tup (.cons (.var 8) (.cons (.var 9) .nil))) .nil)) (.var 10)))
 (.cons (.ret (.bl false))
 .nil)
 .nil)
 .nil))
theorem u_w10c {β : Type} {F : Fns} {X : Xk β} {env : En} {c : Cells} {K : Fl → En → Cells → Res β} : cS F X w10c env c K = cS F X (.cons (.asg (.nm 10) (.bi .repr (.cons (.tup (.cons (.var 8) (.cons (.var 9) .nil))) .nil)))
 (.cons (.ife (.bor (.cmp .NotEq (.bi .repr (.cons (.call 0 (.cons (.var 8) (.cons (.var 9) .nil))) .nil)) (.bi .repr (.cons (.call 7 (.cons (.var 8) (.cons (.var 9) .nil))) .nil))) (.cmp .NotEq (.bi .repr (.cons (.tup (.cons (.var 8) (.cons (.var 9) .nil))) .nil)) (.var 10)))
 (.cons (.ret (.bl false))
 .nil)
 .nil)
 .nil)) env c K := by rw [w10c]
def b10 : S := (.cons (.asg (.al 1) (.call 1 (.cons (.var 0) .nil)))
 (.cons (.asg (.nm 2) (.call 3 (.cons (.var 1) (.cons (.call 2 (.cons (.var 1) (.cons (.int 7) .nil))) .nil))))
 (.cons (.asg (.al 3) (.lc [9] (.tup (.cons (.idx (.call 9 .nil) (.int 0)) (.cons (.var 9) .nil))) (.nm 9) (.it (.idx (.call 9 .nil) (.int 1))) .nil))
 (.cons (.forr (.nm 4) (.rng (.cons (.int 3) .nil))
 w10a)
 (.cons (.forr (.tup (.cons (.nm 8) (.cons (.nm 9) .nil))) (.it (.var 3))
 w10c)
 (.cons (.ret (.bl true))
 .nil))))))
def f10 : Fd := ⟨1, 12, b10⟩
def d10 : Df := ⟨"law", top 12, ["_law_script", "_law_tap_here", "_law_marks", "_law_wanted", "_law_k", "_law_tree_here", "_law_things", "_law_j", "_law_own", "_law_thing", "_law_kept", "_law_bend_here"], ["_law_script"]⟩
def ds : List Df := [d0, d1, d2, d3, d4, d5, d6, d7, d8, d9, d10]
def cs : List (Str × D) := []
def tb : Tb := ⟨ds.map (·.name), cs.map (·.1), ["isinstance", "tuple", "len", "str", "bool", "list", "int", "range", "repr"]⟩
def U : Pg := ⟨[f0, f1, f2, f3, f4, f5, f6, f7, f8, f9, f10], cs.map (·.2), 100⟩
theorem k0 : dfB tb f0 d0 = true := by decide +kernel
theorem k1 : dfB tb f1 d1 = true := by decide +kernel
theorem k2 : dfB tb f2 d2 = true := by decide +kernel
theorem k3 : dfB tb f3 d3 = true := by decide +kernel
theorem k4 : dfB tb f4 d4 = true := by decide +kernel
theorem k5 : dfB tb f5 d5 = true := by decide +kernel
theorem k6 : dfB tb f6 d6 = true := by decide +kernel
theorem k7 : dfB tb f7 d7 = true := by decide +kernel
theorem k8 : dfB tb f8 d8 = true := by decide +kernel
theorem k9 : dfB tb f9 d9 = true := by decide +kernel
theorem k10 : dfB tb f10 d10 = true := by decide +kernel
theorem a0 : Bd d0 := fun _ _ _ _ _ _ us hl => match us, hl with | [_, _], _ => rfl
theorem a1 : Bd d1 := fun _ _ _ _ _ _ us hl => match us, hl with | [_], _ => rfl
theorem a2 : Bd d2 := fun _ _ _ _ _ _ us hl => match us, hl with | [_, _], _ => rfl
theorem a3 : Bd d3 := fun _ _ _ _ _ _ us hl => match us, hl with | [_, _], _ => rfl
theorem a4 : Bd d4 := fun _ _ _ _ _ _ us hl => match us, hl with | [_, _, _], _ => rfl
theorem a5 : Bd d5 := fun _ _ _ _ _ _ us hl => match us, hl with | [_], _ => rfl
theorem a6 : Bd d6 := fun _ _ _ _ _ _ us hl => match us, hl with | [_, _, _], _ => rfl
theorem a7 : Bd d7 := fun _ _ _ _ _ _ us hl => match us, hl with | [_, _], _ => rfl
theorem a8 : Bd d8 := fun _ _ _ _ _ _ us hl => match us, hl with | [_, _], _ => rfl
theorem a9 : Bd d9 := fun _ _ _ _ _ _ us hl => match us, hl with | [], _ => rfl
theorem a10 : Bd d10 := fun _ _ _ _ _ _ us hl => match us, hl with | [_], _ => rfl
-- unfold: u_w3a u_w8a u_w9a u_w10b u_w10a u_w10c

end Lf.K04
end

section
set_option maxHeartbeats 4000000
/-! k04: trees by kind. -/
namespace Lf.K04
open PySem Lf
/-! ### is_tree -/
def isT : Nat → List Str → D → Bool
  | 0, _, _ => false
  | n + 1, ms, x => match x with
    | .tup [.str w, .bl _] => decide (w = "leaf")
    | .tup [.str w, .str m, a, b] => decide (w = "ask") && decide (m ∈ ms) && (isT n (ms.filter (· ≠ m)) a && isT n (ms.filter (· ≠ m)) b)
    | _ => false
local macro_rules | `(tactic| walk_at "lf") => `(tactic| simp -implicitDefEqProofs (disch := (first | with_reducible assumption | omega | decide +kernel | (simp only [List.length_cons, List.length_nil, List.length_map, List.length_append, List.length_take, List.length_drop, List.length_reverse, tap_len]; omega) | exact of_decide_eq_true (id rfl) | fail)) only [↓cE_non, ↓cE_bl, ↓cE_int, ↓cE_str, ↓cE_var0, ↓cE_varS, ↓cE_glb, ↓cE_bin, ↓kBin1_eq, ↓cE_neg, ↓kNeg_int, ↓cE_rev, ↓kRev_tup, ↓kRev_lst, ↓kRev_fl, ↓cE_isi, ↓kIsi_d, ↓kIsi_fl, ↓r_isN, ↓r_isNN, ↓r_lts, ↓r_les, ↓r_gts, ↓r_ges, ↓r_addbi, ↓r_strb, ↓r_strs, ↓kMe1_supp, ↓r_in_sl, ↓r_in_st, ↓r_ni_sl, ↓r_ni_st, ↓r_in_it, ↓r_ni_it, ↓cE_unot, ↓kNot_bl, ↓cE_band, ↓cE_bor, ↓cE_cmp, ↓kCmp1_eq, ↓cE_ife, ↓cE_tup, ↓cE_lst, ↓kTup0, ↓kTup1, ↓kTup2, ↓kTup3, ↓kTup4, ↓kTup5, ↓kLst0, ↓kLst1, ↓kLst2, ↓kLst3, ↓kLst4, ↓kLst5, ↓cE_call, ↓cE_bi, ↓cE_idx, ↓kIdx1_eq, ↓cE_slc, ↓kSlc1_eq, ↓kSlc2_eq, ↓kSlc3_lst, ↓kSlc3_fl, ↓kSlc3_tup, ↓kSlc3_sq, ↓cE_meth, ↓cE_dct, ↓cE_mkd, ↓kMkd_lst, ↓cE_lzip, ↓cL_nil, ↓cL_cons, ↓kRow_eq, ↓kCons_d, ↓kCons_ref, ↓kCons_fl, ↓kCons_sq, ↓cO_nop, ↓cO_sb, ↓kSb_int, ↓cP_nil, ↓cP_cons, ↓kPr1_d, ↓kPr2_d, ↓kPr2_fl, ↓kPr3_s, ↓kPr3_i, ↓cT_nil, ↓cT_cons, ↓cI_rng, ↓cI_rng2, ↓cI_zip, ↓kZip_tt, ↓kZip_ll, ↓cI_it, ↓kIt_lst, ↓kIt_tup, ↓kIt_fl, ↓kIt_str, ↓ckd_none, ↓unl_none, ↓cN_0, ↓cN_S, ↓kEn_eq, ↓cB_nm, ↓cB_tup, ↓cBs_nil, ↓cBs_cons, ↓kBs_eq, ↓cE_lc, ↓kLc_eq, ↓kLt1_eq, ↓kLt3_d, ↓kLt3_fl, ↓cG_d, ↓cG_ref, ↓cG_sq, ↓cG_fl, ↓cG_fd, ↓cA_d, ↓cA_ref, ↓cA_fl, ↓cA_fd, ↓cG_pt, ↓cG_unl, ↓cG_star, ↓cG_ix, ↓cG_ixl, ↓kIx1_eq, ↓cS_asg, ↓kAsg_eq, ↓kNx_eq, ↓cS_par, ↓kPar_eq, ↓cR_nil, ↓cR_cons, ↓kRw_nd, ↓kRw_nf, ↓kRw_nr, ↓kRw_ad, ↓kRw_af, ↓kRw_ar, ↓cW_nil, ↓cW_nd, ↓cW_nr, ↓cW_ad, ↓cW_ar, ↓cW_af, ↓kWs_eq, ↓cS_ret, ↓kRt_eq, ↓cS_ex, ↓kEx_eq, ↓cS_if, ↓cS_cons, ↓cS_nil, ↓cS_brk, ↓cS_cnt, ↓cS_pass, ↓kSeq_nx, ↓kSeq_ret, ↓kSeq_bk, ↓kSeq_ct, ↓cS_for, ↓kFor_eq, ↓kBody_eq, ↓kTurn_nx, ↓kTurn_ct, ↓kTurn_bk, ↓kTurn_ret, ↓cS_whl, ↓kWTurn_nx, ↓kWTurn_ct, ↓kWTurn_bk, ↓kWTurn_ret, ↓kFin_ret, ↓kFin_nx, ↓finish_d, ↓finish_fl, ↓finish_fd, ↓finish_sq, ↓r_add, ↓r_addb, ↓r_sub, ↓r_mul, ↓r_div, ↓r_mod, ↓r_pow, ↓r_shl, ↓r_shr, ↓r_and, ↓r_adds, ↓r_addt, ↓r_addl, ↓r_eqi, ↓r_nei, ↓r_eqs, ↓r_nes, ↓r_eqt0, ↓r_net0, ↓r_eql0, ↓r_nel0, ↓r_lt, ↓r_le, ↓r_gt, ↓r_ge, ↓r_lenl, ↓r_lent, ↓r_lens, ↓r_tupl, ↓r_tupt, ↓r_lisl, ↓r_list, ↓r_inti, ↓r_abs, ↓r_max, ↓r_min, ↓t2_0, ↓t2_1, ↓t2_2, ↓t2_3, ↓t2_4, ↓l2_0, ↓l2_1, ↓l2_2, ↓l2_3, ↓kRng_int, ↓kRng2_int, ↓ckd_some, ↓unl_t, ↓unl_f, ↓oK_some, ↓oC_some, ↓oP_some, ↓oW_some, ↓kRet_ok, ↓kLc2_t, ↓kLc2_f, ↓vIdx_dct, ↓vPt_some, ↓vUn_some, ↓kLc3_d, ↓kLc3_fl, ↓kIf_t, ↓kIf_f, ↓kIf_p, ↓kIf_n, ↓kIte_t, ↓kIte_f, ↓kIte_p, ↓kIte_n, ↓kAnd_t, ↓kAnd_f, ↓kAnd_p, ↓kAnd_n, ↓kOr_t, ↓kOr_f, ↓kOr_p, ↓kOr_n, ↓kTst_t, ↓kTst_f, ↓kTst_p, ↓kTst_n, ↓kWTest_p, ↓kWTest_n, ↓kLt2_t, ↓kLt2_f, ↓kLt2_p, ↓kCall_0, ↓kCall_r0, ↓kCall_r1, ↓kCall_r2, ↓kR0_d, ↓kR0_fl, ↓kR0_fd, ↓kR1_d, ↓kR1_fl, ↓kR1_fd, ↓kR1_ref, ↓m_pop1, ↓m_pop0, ↓m_app, ↓vTy_lst, ↓kMe1_pop, ↓kMe1_app, ↓kMe1_ext, ↓kMe1_idx, ↓m_ext, ↓bin_fl1, ↓bin_fl2, ↓vBin_dd, ↓cmp_fl1, ↓cmp_fl2, ↓vCmp_dd, ↓vBi_1, ↓idx_fl, ↓idx_fd, ↓vIdx_dd, ↓vSlc_d, ↓if_fl, ↓st21, ↓st32, ↓r_intt, ↓r_intf, ↓r_intp, ↓r_zipt, ↓if_pos, ↓if_neg, ↓reduceIte, kSlc3_str, r_stri, m_supp, isD_tup_non, isD_tup_bl, isD_tup_int, isD_tup_str, isD_tup_tup, isD_tup_lst, isD_lst_non, isD_lst_bl, isD_lst_int, isD_lst_str, isD_lst_tup, isD_lst_lst, isD_str_non, isD_str_bl, isD_str_int, isD_str_str, isD_str_tup, isD_str_lst, isD_int_non, isD_int_bl, isD_int_int, isD_int_str, isD_int_tup, isD_int_lst, isD_bl_non, isD_bl_bl, isD_bl_int, isD_bl_str, isD_bl_tup, isD_bl_lst, isD_dct_non, isD_dct_bl, isD_dct_int, isD_dct_str, isD_dct_tup, isD_dct_lst, isN_non, isN_bl, isN_int, isN_str, isN_tup, isN_lst, r_intb, bin_ref1, bin_ref2, cmp_ref1, cmp_ref2, bi_ref, idx_ref, slc_ref, r_eq, r_ne, kAnd_bl, kOr_bl, kIte_bl, kTst_bl, kIf_bl, kWTest_bl, kLt2_eq, kNot_eq, kAnd_eq, kOr_eq, kIte_eq, kTup_eq, kLst_eq, kIdx2_dd, vPop_lst, vPop0_lst, vApp_lst, emp_snoc, vExt_lst, m_tidx, idx_tmap, idx_lmap, kDct_eq, kLzip_eq, kTst_eq, kIt_ref, vWk_lst, vWk_lk, kIf_eq, kWTest_eq, kIx2_d, kRw_eq, kGl_some, finish_old, finish_new, vFin_lst, vFin_dct, cLc_nil, cLc_cons, kLc1_eq, kLc2_eq, cFor_nil, cFor_cons, view_d, view_fl, view_ref, vwC_lst, vwC_lk, vwC_dct, viewD_ref, viewD_d, viewD_fl, viewD_fd, vwD_lst, vwD_lk, vwD_dct, views_nil, views_cons, cnsO_some, frzs_nil, frzs_d, cnsF_some, putIx_ref, pIx_s, pIx_i, pIx_l, dGet_hit, dGet_miss, renW_self, renW_d, renW_sq, truW, tup_ok, lst_ok, List.map_cons, List.map_nil, List.all_cons, List.all_nil, List.contains_cons, List.contains_nil, List.elem_nil, List.getD_cons_zero, List.getD_cons_succ, List.getElem?_cons_zero, List.getElem?_cons_succ, List.getElem?_nil, List.set_cons_zero, List.set_cons_succ, List.length_cons, List.length_nil, List.nil_append, List.cons_append, List.append_nil, List.take_zero, List.take_succ_cons, List.take_nil, Bool.true_and, Bool.and_true, Bool.false_and, Bool.and_false, Bool.not_true, Bool.not_false, Bool.true_or, Bool.or_true, decide_eq_true_eq, Bool.not_eq_true', decide_eq_false_iff_not, reduceCtorEq, if_true, if_false, ite_true, ite_false, Bool.false_eq_true, Option.map_some, List.idxOf_cons, beq_self_eq_true, Nat.zero_add, cond_true, cond_false, D.truO, D.tru, List.isEmpty_cons, List.isEmpty_nil, Int.toNat_zero, List.length_map, clearO_nil, clearO_cons, Option.map_none, star_t, star_l, cut_pre, cut_suf, cut_mid, cut_all, take_map, drop_map, b2i_t, b2i_f, cut_tail, drop_one, toNat_1, toNat_2, toNat_3, List.drop_zero, cE_non, cE_bl, cE_int, cE_str, cE_var0, cE_varS, cE_glb, cE_bin, kBin1_eq, cE_neg, kNeg_int, cE_rev, kRev_tup, kRev_lst, kRev_fl, cE_isi, kIsi_d, kIsi_fl, r_isN, r_isNN, r_lts, r_les, r_gts, r_ges, r_addbi, r_strb, r_strs, kMe1_supp, r_in_sl, r_in_st, r_ni_sl, r_ni_st, r_in_it, r_ni_it, cE_unot, kNot_bl, cE_band, cE_bor, cE_cmp, kCmp1_eq, cE_ife, cE_tup, cE_lst, kTup0, kTup1, kTup2, kTup3, kTup4, kTup5, kLst0, kLst1, kLst2, kLst3, kLst4, kLst5, cE_call, cE_bi, cE_idx, kIdx1_eq, cE_slc, kSlc1_eq, kSlc2_eq, kSlc3_lst, kSlc3_fl, kSlc3_tup, kSlc3_sq, cE_meth, cE_dct, cE_mkd, kMkd_lst, cE_lzip, cL_nil, cL_cons, kRow_eq, kCons_d, kCons_ref, kCons_fl, kCons_sq, cO_nop, cO_sb, kSb_int, cP_nil, cP_cons, kPr1_d, kPr2_d, kPr2_fl, kPr3_s, kPr3_i, cT_nil, cT_cons, cI_rng, cI_rng2, cI_zip, kZip_tt, kZip_ll, cI_it, kIt_lst, kIt_tup, kIt_fl, kIt_str, ckd_none, unl_none, cN_0, cN_S, kEn_eq, cB_nm, cB_tup, cBs_nil, cBs_cons, kBs_eq, cE_lc, kLc_eq, kLt1_eq, kLt3_d, kLt3_fl, cG_d, cG_ref, cG_sq, cG_fl, cG_fd, cA_d, cA_ref, cA_fl, cA_fd, cG_pt, cG_unl, cG_star, cG_ix, cG_ixl, kIx1_eq, cS_asg, kAsg_eq, kNx_eq, cS_par, kPar_eq, cR_nil, cR_cons, kRw_nd, kRw_nf, kRw_nr, kRw_ad, kRw_af, kRw_ar, cW_nil, cW_nd, cW_nr, cW_ad, cW_ar, cW_af, kWs_eq, cS_ret, kRt_eq, cS_ex, kEx_eq, cS_if, cS_cons, cS_nil, cS_brk, cS_cnt, cS_pass, kSeq_nx, kSeq_ret, kSeq_bk, kSeq_ct, cS_for, kFor_eq, kBody_eq, kTurn_nx, kTurn_ct, kTurn_bk, kTurn_ret, cS_whl, kWTurn_nx, kWTurn_ct, kWTurn_bk, kWTurn_ret, kFin_ret, kFin_nx, finish_d, finish_fl, finish_fd, finish_sq, r_add, r_addb, r_sub, r_mul, r_div, r_mod, r_pow, r_shl, r_shr, r_and, r_adds, r_addt, r_addl, r_eqi, r_nei, r_eqs, r_nes, r_eqt0, r_net0, r_eql0, r_nel0, r_lt, r_le, r_gt, r_ge, r_lenl, r_lent, r_lens, r_tupl, r_tupt, r_lisl, r_list, r_inti, r_abs, r_max, r_min, t2_0, t2_1, t2_2, t2_3, t2_4, l2_0, l2_1, l2_2, l2_3, kRng_int, kRng2_int, ckd_some, unl_t, unl_f, oK_some, oC_some, oP_some, oW_some, kRet_ok, kLc2_t, kLc2_f, vIdx_dct, vPt_some, vUn_some, kLc3_d, kLc3_fl, kIf_t, kIf_f, kIf_p, kIf_n, kIte_t, kIte_f, kIte_p, kIte_n, kAnd_t, kAnd_f, kAnd_p, kAnd_n, kOr_t, kOr_f, kOr_p, kOr_n, kTst_t, kTst_f, kTst_p, kTst_n, kWTest_p, kWTest_n, kLt2_t, kLt2_f, kLt2_p, kCall_0, kCall_r0, kCall_r1, kCall_r2, kR0_d, kR0_fl, kR0_fd, kR1_d, kR1_fl, kR1_fd, kR1_ref, m_pop1, m_pop0, m_app, vTy_lst, kMe1_pop, kMe1_app, kMe1_ext, kMe1_idx, m_ext, bin_fl1, bin_fl2, vBin_dd, cmp_fl1, cmp_fl2, vCmp_dd, vBi_1, idx_fl, idx_fd, vIdx_dd, vSlc_d, if_fl, st21, st32, r_intt, r_intf, r_intp, r_zipt, inD_nil, inD_cons])
local macro_rules | `(tactic| walk_at "lfs") => `(tactic| simp -implicitDefEqProofs (disch := (first | with_reducible assumption | omega | decide +kernel | (simp only [List.length_cons, List.length_nil, List.length_map, List.length_append, List.length_take, List.length_drop, List.length_reverse, tap_len]; omega) | exact of_decide_eq_true (id rfl) | fail)) only [↓cE_non, ↓cE_bl, ↓cE_int, ↓cE_str, ↓cE_var0, ↓cE_varS, ↓cE_glb, ↓cE_bin, ↓kBin1_eq, ↓cE_neg, ↓kNeg_int, ↓cE_rev, ↓kRev_tup, ↓kRev_lst, ↓kRev_fl, ↓cE_isi, ↓kIsi_d, ↓kIsi_fl, ↓r_isN, ↓r_isNN, ↓r_lts, ↓r_les, ↓r_gts, ↓r_ges, ↓r_addbi, ↓r_strb, ↓r_strs, ↓kMe1_supp, ↓r_in_sl, ↓r_in_st, ↓r_ni_sl, ↓r_ni_st, ↓r_in_it, ↓r_ni_it, ↓cE_unot, ↓kNot_bl, ↓cE_band, ↓cE_bor, ↓cE_cmp, ↓kCmp1_eq, ↓cE_ife, ↓cE_tup, ↓cE_lst, ↓kTup0, ↓kTup1, ↓kTup2, ↓kTup3, ↓kTup4, ↓kTup5, ↓kLst0, ↓kLst1, ↓kLst2, ↓kLst3, ↓kLst4, ↓kLst5, ↓cE_call, ↓cE_bi, ↓cE_idx, ↓kIdx1_eq, ↓cE_slc, ↓kSlc1_eq, ↓kSlc2_eq, ↓kSlc3_lst, ↓kSlc3_fl, ↓kSlc3_tup, ↓kSlc3_sq, ↓cE_meth, ↓cE_dct, ↓cE_mkd, ↓kMkd_lst, ↓cE_lzip, ↓cL_nil, ↓cL_cons, ↓kRow_eq, ↓kCons_d, ↓kCons_ref, ↓kCons_fl, ↓kCons_sq, ↓cO_nop, ↓cO_sb, ↓kSb_int, ↓cP_nil, ↓cP_cons, ↓kPr1_d, ↓kPr2_d, ↓kPr2_fl, ↓kPr3_s, ↓kPr3_i, ↓cT_nil, ↓cT_cons, ↓cI_rng, ↓cI_rng2, ↓cI_zip, ↓kZip_tt, ↓kZip_ll, ↓cI_it, ↓kIt_lst, ↓kIt_tup, ↓kIt_fl, ↓kIt_str, ↓ckd_none, ↓unl_none, ↓cN_0, ↓cN_S, ↓kEn_eq, ↓cB_nm, ↓cB_tup, ↓cBs_nil, ↓cBs_cons, ↓kBs_eq, ↓cE_lc, ↓kLc_eq, ↓kLt1_eq, ↓kLt3_d, ↓kLt3_fl, ↓cG_d, ↓cG_ref, ↓cG_sq, ↓cG_fl, ↓cG_fd, ↓cA_d, ↓cA_ref, ↓cA_fl, ↓cA_fd, ↓cG_pt, ↓cG_unl, ↓cG_star, ↓cG_ix, ↓cG_ixl, ↓kIx1_eq, ↓cS_asg, ↓kAsg_eq, ↓kNx_eq, ↓cS_par, ↓kPar_eq, ↓cR_nil, ↓cR_cons, ↓kRw_nd, ↓kRw_nf, ↓kRw_nr, ↓kRw_ad, ↓kRw_af, ↓kRw_ar, ↓cW_nil, ↓cW_nd, ↓cW_nr, ↓cW_ad, ↓cW_ar, ↓cW_af, ↓kWs_eq, ↓cS_ret, ↓kRt_eq, ↓cS_ex, ↓kEx_eq, ↓cS_if, ↓cS_cons, ↓cS_nil, ↓cS_brk, ↓cS_cnt, ↓cS_pass, ↓kSeq_nx, ↓kSeq_ret, ↓kSeq_bk, ↓kSeq_ct, ↓cS_for, ↓kFor_eq, ↓kBody_eq, ↓kTurn_nx, ↓kTurn_ct, ↓kTurn_bk, ↓kTurn_ret, ↓cS_whl, ↓kWTurn_nx, ↓kWTurn_ct, ↓kWTurn_bk, ↓kWTurn_ret, ↓kFin_ret, ↓kFin_nx, ↓finish_d, ↓finish_fl, ↓finish_fd, ↓finish_sq, ↓r_add, ↓r_addb, ↓r_sub, ↓r_mul, ↓r_div, ↓r_mod, ↓r_pow, ↓r_shl, ↓r_shr, ↓r_and, ↓r_adds, ↓r_addt, ↓r_addl, ↓r_eqi, ↓r_nei, ↓r_eqs, ↓r_nes, ↓r_eqt0, ↓r_net0, ↓r_eql0, ↓r_nel0, ↓r_lt, ↓r_le, ↓r_gt, ↓r_ge, ↓r_lenl, ↓r_lent, ↓r_lens, ↓r_tupl, ↓r_tupt, ↓r_lisl, ↓r_list, ↓r_inti, ↓r_abs, ↓r_max, ↓r_min, ↓t2_0, ↓t2_1, ↓t2_2, ↓t2_3, ↓t2_4, ↓l2_0, ↓l2_1, ↓l2_2, ↓l2_3, ↓kRng_int, ↓kRng2_int, ↓ckd_some, ↓unl_t, ↓unl_f, ↓oK_some, ↓oC_some, ↓oP_some, ↓oW_some, ↓kRet_ok, ↓kLc2_t, ↓kLc2_f, ↓vIdx_dct, ↓vPt_some, ↓vUn_some, ↓kLc3_d, ↓kLc3_fl, ↓kIf_t, ↓kIf_f, ↓kIf_p, ↓kIf_n, ↓kIte_t, ↓kIte_f, ↓kIte_p, ↓kIte_n, ↓kAnd_t, ↓kAnd_f, ↓kAnd_p, ↓kAnd_n, ↓kOr_t, ↓kOr_f, ↓kOr_p, ↓kOr_n, ↓kTst_t, ↓kTst_f, ↓kTst_p, ↓kTst_n, ↓kWTest_p, ↓kWTest_n, ↓kLt2_t, ↓kLt2_f, ↓kLt2_p, ↓kCall_0, ↓kCall_r0, ↓kCall_r1, ↓kCall_r2, ↓kR0_d, ↓kR0_fl, ↓kR0_fd, ↓kR1_d, ↓kR1_fl, ↓kR1_fd, ↓kR1_ref, ↓m_pop1, ↓m_pop0, ↓m_app, ↓vTy_lst, ↓kMe1_pop, ↓kMe1_app, ↓kMe1_ext, ↓kMe1_idx, ↓m_ext, ↓bin_fl1, ↓bin_fl2, ↓vBin_dd, ↓cmp_fl1, ↓cmp_fl2, ↓vCmp_dd, ↓vBi_1, ↓idx_fl, ↓idx_fd, ↓vIdx_dd, ↓vSlc_d, ↓if_fl, ↓st21, ↓st32, ↓r_intt, ↓r_intf, ↓r_intp, ↓r_zipt, ↓if_pos, ↓if_neg, ↓reduceIte, kSlc3_str, r_stri, m_supp, isD_tup_non, isD_tup_bl, isD_tup_int, isD_tup_str, isD_tup_tup, isD_tup_lst, isD_lst_non, isD_lst_bl, isD_lst_int, isD_lst_str, isD_lst_tup, isD_lst_lst, isD_str_non, isD_str_bl, isD_str_int, isD_str_str, isD_str_tup, isD_str_lst, isD_int_non, isD_int_bl, isD_int_int, isD_int_str, isD_int_tup, isD_int_lst, isD_bl_non, isD_bl_bl, isD_bl_int, isD_bl_str, isD_bl_tup, isD_bl_lst, isD_dct_non, isD_dct_bl, isD_dct_int, isD_dct_str, isD_dct_tup, isD_dct_lst, isN_non, isN_bl, isN_int, isN_str, isN_tup, isN_lst, r_intb, bin_ref1, bin_ref2, cmp_ref1, cmp_ref2, bi_ref, idx_ref, slc_ref, r_eq, r_ne, kAnd_bl, kOr_bl, kIte_bl, kTst_bl, kIf_bl, kWTest_bl, kLt2_eq, kNot_eq, kAnd_eq, kOr_eq, kIte_eq, kTup_eq, kLst_eq, kIdx2_dd, vPop_lst, vPop0_lst, vApp_lst, emp_snoc, vExt_lst, m_tidx, idx_tmap, idx_lmap, kDct_eq, kLzip_eq, kTst_eq, kIt_ref, vWk_lst, vWk_lk, kIf_eq, kWTest_eq, kIx2_d, kRw_eq, kGl_some, finish_old, finish_new, vFin_lst, vFin_dct, cLc_nil, cLc_cons, kLc1_eq, kLc2_eq, cFor_nil, cFor_cons, view_d, view_fl, view_ref, vwC_lst, vwC_lk, vwC_dct, viewD_ref, viewD_d, viewD_fl, viewD_fd, vwD_lst, vwD_lk, vwD_dct, views_nil, views_cons, cnsO_some, frzs_nil, frzs_d, cnsF_some, putIx_ref, pIx_s, pIx_i, pIx_l, dGet_hit, dGet_miss, renW_self, renW_d, renW_sq, truW, tup_ok, lst_ok, List.map_cons, List.map_nil, List.all_cons, List.all_nil, List.contains_cons, List.contains_nil, List.elem_nil, List.getD_cons_zero, List.getD_cons_succ, List.getElem?_cons_zero, List.getElem?_cons_succ, List.getElem?_nil, List.set_cons_zero, List.set_cons_succ, List.length_cons, List.length_nil, List.nil_append, List.cons_append, List.append_nil, List.take_zero, List.take_succ_cons, List.take_nil, Bool.true_and, Bool.and_true, Bool.false_and, Bool.and_false, Bool.not_true, Bool.not_false, Bool.true_or, Bool.or_true, decide_eq_true_eq, Bool.not_eq_true', decide_eq_false_iff_not, reduceCtorEq, if_true, if_false, ite_true, ite_false, Bool.false_eq_true, Option.map_some, List.idxOf_cons, beq_self_eq_true, Nat.zero_add, cond_true, cond_false, D.truO, D.tru, List.isEmpty_cons, List.isEmpty_nil, Int.toNat_zero, List.length_map, clearO_nil, clearO_cons, Option.map_none, star_t, star_l, cut_pre, cut_suf, cut_mid, cut_all, take_map, drop_map, b2i_t, b2i_f, cut_tail, drop_one, toNat_1, toNat_2, toNat_3, List.drop_zero, cE_non, cE_bl, cE_int, cE_str, cE_var0, cE_varS, cE_glb, cE_bin, kBin1_eq, cE_neg, kNeg_int, cE_rev, kRev_tup, kRev_lst, kRev_fl, cE_isi, kIsi_d, kIsi_fl, r_isN, r_isNN, r_lts, r_les, r_gts, r_ges, r_addbi, r_strb, r_strs, kMe1_supp, r_in_sl, r_in_st, r_ni_sl, r_ni_st, r_in_it, r_ni_it, cE_unot, kNot_bl, cE_band, cE_bor, cE_cmp, kCmp1_eq, cE_ife, cE_tup, cE_lst, kTup0, kTup1, kTup2, kTup3, kTup4, kTup5, kLst0, kLst1, kLst2, kLst3, kLst4, kLst5, cE_call, cE_bi, cE_idx, kIdx1_eq, cE_slc, kSlc1_eq, kSlc2_eq, kSlc3_lst, kSlc3_fl, kSlc3_tup, kSlc3_sq, cE_meth, cE_dct, cE_mkd, kMkd_lst, cE_lzip, cL_nil, cL_cons, kRow_eq, kCons_d, kCons_ref, kCons_fl, kCons_sq, cO_nop, cO_sb, kSb_int, cP_nil, cP_cons, kPr1_d, kPr2_d, kPr2_fl, kPr3_s, kPr3_i, cT_nil, cT_cons, cI_rng, cI_rng2, cI_zip, kZip_tt, kZip_ll, cI_it, kIt_lst, kIt_tup, kIt_fl, kIt_str, ckd_none, unl_none, cN_0, cN_S, kEn_eq, cB_nm, cB_tup, cBs_nil, cBs_cons, kBs_eq, cE_lc, kLc_eq, kLt1_eq, kLt3_d, kLt3_fl, cG_d, cG_ref, cG_sq, cG_fl, cG_fd, cA_d, cA_ref, cA_fl, cA_fd, cG_pt, cG_unl, cG_star, cG_ix, cG_ixl, kIx1_eq, cS_asg, kAsg_eq, kNx_eq, cS_par, kPar_eq, cR_nil, cR_cons, kRw_nd, kRw_nf, kRw_nr, kRw_ad, kRw_af, kRw_ar, cW_nil, cW_nd, cW_nr, cW_ad, cW_ar, cW_af, kWs_eq, cS_ret, kRt_eq, cS_ex, kEx_eq, cS_if, cS_cons, cS_nil, cS_brk, cS_cnt, cS_pass, kSeq_nx, kSeq_ret, kSeq_bk, kSeq_ct, cS_for, kFor_eq, kBody_eq, kTurn_nx, kTurn_ct, kTurn_bk, kTurn_ret, cS_whl, kWTurn_nx, kWTurn_ct, kWTurn_bk, kWTurn_ret, kFin_ret, kFin_nx, finish_d, finish_fl, finish_fd, finish_sq, r_add, r_addb, r_sub, r_mul, r_div, r_mod, r_pow, r_shl, r_shr, r_and, r_adds, r_addt, r_addl, r_eqi, r_nei, r_eqs, r_nes, r_eqt0, r_net0, r_eql0, r_nel0, r_lt, r_le, r_gt, r_ge, r_lenl, r_lent, r_lens, r_tupl, r_tupt, r_lisl, r_list, r_inti, r_abs, r_max, r_min, t2_0, t2_1, t2_2, t2_3, t2_4, l2_0, l2_1, l2_2, l2_3, kRng_int, kRng2_int, ckd_some, unl_t, unl_f, oK_some, oC_some, oP_some, oW_some, kRet_ok, kLc2_t, kLc2_f, vIdx_dct, vPt_some, vUn_some, kLc3_d, kLc3_fl, kIf_t, kIf_f, kIf_p, kIf_n, kIte_t, kIte_f, kIte_p, kIte_n, kAnd_t, kAnd_f, kAnd_p, kAnd_n, kOr_t, kOr_f, kOr_p, kOr_n, kTst_t, kTst_f, kTst_p, kTst_n, kWTest_p, kWTest_n, kLt2_t, kLt2_f, kLt2_p, kCall_0, kCall_r0, kCall_r1, kCall_r2, kR0_d, kR0_fl, kR0_fd, kR1_d, kR1_fl, kR1_fd, kR1_ref, m_pop1, m_pop0, m_app, vTy_lst, kMe1_pop, kMe1_app, kMe1_ext, kMe1_idx, m_ext, bin_fl1, bin_fl2, vBin_dd, cmp_fl1, cmp_fl2, vCmp_dd, vBi_1, idx_fl, idx_fd, vIdx_dd, vSlc_d, if_fl, st21, st32, r_intt, r_intf, r_intp, r_zipt, inD_nil, inD_cons, *])
theorem in24 (k : Nat) : inD (.int (k : Nat)) [.int 2, .int 4] = (decide (k = 2) || decide (k = 4)) := by
  simp only [inD, List.any_cons, List.any_nil, D.eq, Bool.or_false]
  congr 1
  · by_cases h : k = 2
    · subst h; rfl
    · have : ¬ ((2 : Int) = (k : Int)) := by omega
      simp [h, this]
  · by_cases h : k = 4
    · subst h; rfl
    · have : ¬ ((4 : Int) = (k : Int)) := by omega
      simp [h, this]
theorem len_ne {k : Nat} (h : k ≠ 2 ∧ k ≠ 4) : inD (.int (k : Nat)) [.int 2, .int 4] = false := by rw [in24]; simp [h.1, h.2]
theorem dep_of {x : D} {xs : List D} (h : x ∈ xs) : x.dep ≤ D.deps xs := by
  induction xs with
  | nil => cases h
  | cons y ys ih =>
    simp only [D.deps]
    cases h with
    | head => omega
    | tail _ h => have := ih h; omega
theorem it_ok : ∀ (n : Nat) (x : D) (ms : List Str), x.dep ≤ n → ms.length ≤ 100 → callN U (n + 1) 0 [.d (.tup (sD ms)), .d x] [] = .ok (.d (.bl (isT (n + 1) ms x)), []) := by
  intro n
  induction n with
  | zero =>
    intro x ms h hm
    cases x with
    | tup xs => simp [D.dep] at h
    | lst xs => simp [D.dep] at h
    | non => rw [run_def rfl ⟨rfl, by decide⟩]; simp only [f0, b0, List.map, List.replicate, Nat.reduceSub, isT]; walk_at "lf"
    | bl b => rw [run_def rfl ⟨rfl, by decide⟩]; simp only [f0, b0, List.map, List.replicate, Nat.reduceSub, isT]; walk_at "lf"
    | int b => rw [run_def rfl ⟨rfl, by decide⟩]; simp only [f0, b0, List.map, List.replicate, Nat.reduceSub, isT]; walk_at "lf"
    | str b => rw [run_def rfl ⟨rfl, by decide⟩]; simp only [f0, b0, List.map, List.replicate, Nat.reduceSub, isT]; walk_at "lf"
  | succ n ih =>
    intro x ms h hm
    cases x with
    | non => rw [run_def rfl ⟨rfl, by decide⟩]; simp only [f0, b0, List.map, List.replicate, Nat.reduceSub, isT]; walk_at "lf"
    | bl b => rw [run_def rfl ⟨rfl, by decide⟩]; simp only [f0, b0, List.map, List.replicate, Nat.reduceSub, isT]; walk_at "lf"
    | int b => rw [run_def rfl ⟨rfl, by decide⟩]; simp only [f0, b0, List.map, List.replicate, Nat.reduceSub, isT]; walk_at "lf"
    | str b => rw [run_def rfl ⟨rfl, by decide⟩]; simp only [f0, b0, List.map, List.replicate, Nat.reduceSub, isT]; walk_at "lf"
    | lst b => rw [run_def rfl ⟨rfl, by decide⟩]; simp only [f0, b0, List.map, List.replicate, Nat.reduceSub, isT]; walk_at "lf"
    | tup xs =>
      by_cases hl : xs.length ≠ 2 ∧ xs.length ≠ 4
      · have e := len_ne hl
        have f : isT (n + 1 + 1) ms (.tup xs) = false := by
          unfold isT
          split
          · rename_i q; cases q; simp at hl
          · rename_i q; cases q; simp at hl
          · rfl
        rw [f]
        rw [run_def rfl ⟨rfl, by decide⟩]
        simp only [f0, b0, List.map, List.replicate, Nat.reduceSub]
        walk_at "lfs"
      · have two : xs.length = 2 ∨ xs.length = 4 := by omega
        rcases two with h2 | h4
        · obtain ⟨a, b, rfl⟩ : ∃ a b, xs = [a, b] := by
            match xs, h2 with
            | [a, b], _ => exact ⟨a, b, rfl⟩
          have e := in24 2
          have e : inD (.int ((2 : Nat) : Int)) [.int 2, .int 4] = true := by rw [e]; rfl
          rw [run_def rfl ⟨rfl, by decide⟩]
          simp only [f0, b0, List.map, List.replicate, Nat.reduceSub]
          cases a with
          | str w =>
            by_cases hw : w = "leaf"
            · subst hw
              cases b <;> simp only [isT] <;> walk_at "lfs"
              all_goals simp
            · have f : isT (n + 1 + 1) ms (.tup [.str w, b]) = false := by
                cases b <;> simp [isT, hw]
              rw [f]
              walk_at "lfs"
          | _ => simp only [isT]; walk_at "lfs"
        · obtain ⟨a, b, c, d, rfl⟩ : ∃ a b c d, xs = [a, b, c, d] := by
            match xs, h4 with
            | [a, b, c, d], _ => exact ⟨a, b, c, d, rfl⟩
          have e : inD (.int ((4 : Nat) : Int)) [.int 2, .int 4] = true := by rw [in24]; rfl
          simp only [D.dep, D.deps] at h
          rw [run_def rfl ⟨rfl, by decide⟩]
          simp only [f0, b0, List.map, List.replicate, Nat.reduceSub]
          cases a with
          | str w =>
            cases b with
            | str m =>
              have i1 := ih c (ms.filter (· ≠ m)) (by omega) (Nat.le_trans (List.length_filter_le _ _) hm)
              have i2 := ih d (ms.filter (· ≠ m)) (by omega) (Nat.le_trans (List.length_filter_le _ _) hm)
              by_cases hw : w = "ask"
              · by_cases hq : m ∈ ms
                · have f : isT (n + 1 + 1) ms (.tup [.str w, .str m, c, d]) = (isT (n + 1) (ms.filter (· ≠ m)) c && isT (n + 1) (ms.filter (· ≠ m)) d) := by simp [isT, hw, hq]
                  rw [f]
                  generalize isT (n + 1) (ms.filter (· ≠ m)) c = t1 at *
                  generalize isT (n + 1) (ms.filter (· ≠ m)) d = t2 at *
                  subst hw
                  walk_at "lfs"
                  refine lc_fms (f' := .str) (as := ms) (fun x => if x = m then none else some x) (by omega) (fun x hx K => ?_) ?_
                  · by_cases hx2 : x = m
                    · rw [if_pos hx2]; walk_at "lfs"
                    · rw [if_neg hx2]; walk_at "lfs"
                  · rw [fm_ne]
                    cases t1 <;> walk_at "lfs"
                · have f : isT (n + 1 + 1) ms (.tup [.str w, .str m, c, d]) = false := by simp [isT, hq]
                  rw [f]
                  subst hw
                  walk_at "lfs"
              · have f : isT (n + 1 + 1) ms (.tup [.str w, .str m, c, d]) = false := by simp [isT, hw]
                rw [f]
                walk_at "lfs"
            | _ =>
              by_cases hw : w = "ask"
              · subst hw; simp only [isT]; walk_at "lfs"
              · simp only [isT]; walk_at "lfs"
          | _ => simp only [isT]; walk_at "lfs"
/-! ### is_grown -/
/-- marks as a tuple or a list -/
def mkD (l : Bool) (ms : List Str) : D := if l = true then .lst (sD ms) else .tup (sD ms)
theorem ig_ok : ∀ (n : Nat) (x : D) (l : Bool) (ms : List Str), x.dep ≤ n → ms.length ≤ 100 → callN U (n + 1) 7 [.d (mkD l ms), .d x] [] = .ok (.d (.bl (isT (n + 1) ms x)), []) := by
  intro n
  induction n with
  | zero =>
    intro x l ms h hm
    cases x with
    | tup xs => simp [D.dep] at h
    | lst xs => simp [D.dep] at h
    | _ => rw [run_def rfl ⟨rfl, by decide⟩]; simp only [f7, b7, List.map, List.replicate, Nat.reduceSub, isT]; walk_at "lf"
  | succ n ih =>
    intro x l ms h hm
    cases x with
    | tup xs =>
      rw [run_def rfl ⟨rfl, by decide⟩]
      simp only [f7, b7, List.map, List.replicate, Nat.reduceSub]
      cases xs with
      | nil => simp only [isT]; walk_at "lf"
      | cons a xs =>
        cases a with
        | str w =>
          by_cases hw : w = "leaf"
          · subst hw
            have len1 : ((((D.str "leaf") :: xs).length : Nat) : Int) = (xs.length : Int) + 1 := by simp
            cases xs with
            | nil => simp only [isT]; walk_at "lf"
            | cons b xs =>
              cases xs with
              | nil => cases b <;> simp only [isT] <;> walk_at "lf" <;> all_goals simp
              | cons c xs =>
                have q : ¬ ((((D.str "leaf") :: b :: c :: xs).length : Nat) : Int) = 2 := by simp only [List.length_cons]; omega
                have f : isT (n + 1 + 1) ms (.tup (.str "leaf" :: b :: c :: xs)) = false := by
                  unfold isT
                  split
                  · rename_i z; cases z
                  · rename_i w' m a b' z
                    cases z
                    have : ¬ (("leaf" : Str) = "ask") := by decide
                    simp [this]
                  · rfl
                rw [f]
                clear len1
                walk_at "lfs"
          · by_cases hk : w = "ask"
            · subst hk
              match xs with
              | [] => simp only [isT]; walk_at "lf"
              | [b] => cases b <;> simp only [isT] <;> walk_at "lf" <;> (simp <;> exact hw)
              | [b, c] => simp only [isT]; walk_at "lf"
              | [.str m, c, d] =>
                simp only [D.dep, D.deps] at h
                have i1 := ih c true (ms.filter (· ≠ m)) (by omega) (Nat.le_trans (List.length_filter_le _ _) hm)
                have i2 := ih d true (ms.filter (· ≠ m)) (by omega) (Nat.le_trans (List.length_filter_le _ _) hm)
                by_cases hq : m ∈ ms
                · have f : isT (n + 1 + 1) ms (.tup [.str "ask", .str m, c, d]) = (isT (n + 1) (ms.filter (· ≠ m)) c && isT (n + 1) (ms.filter (· ≠ m)) d) := by simp [isT, hq]
                  rw [f]
                  generalize isT (n + 1) (ms.filter (· ≠ m)) c = t1 at *
                  generalize isT (n + 1) (ms.filter (· ≠ m)) d = t2 at *
                  simp only [mkD, if_true] at i1 i2
                  cases l with
                  | false =>
                    simp only [mkD, Bool.false_eq_true, if_false]
                    walk_at "lfs"
                    refine lc_fms (f' := .str) (as := ms) (fun x => if x = m then none else some x) (by omega) (fun x hx K => ?_) ?_
                    · by_cases hx2 : x = m
                      · rw [if_pos hx2]; walk_at "lfs"
                      · rw [if_neg hx2]; walk_at "lfs"
                    · rw [fm_ne]
                      cases t1 <;> walk_at "lfs"
                  | true =>
                    simp only [mkD, if_true]
                    walk_at "lfs"
                    refine lc_fms (f' := .str) (as := ms) (fun x => if x = m then none else some x) (by omega) (fun x hx K => ?_) ?_
                    · by_cases hx2 : x = m
                      · rw [if_pos hx2]; walk_at "lfs"
                      · rw [if_neg hx2]; walk_at "lfs"
                    · rw [fm_ne]
                      cases t1 <;> walk_at "lfs"
                · have f : isT (n + 1 + 1) ms (.tup [.str "ask", .str m, c, d]) = false := by simp [isT, hq]
                  rw [f]
                  cases l with
                  | false => simp only [mkD, Bool.false_eq_true, if_false]; walk_at "lfs"
                  | true => simp only [mkD, if_true]; walk_at "lfs"
              | [.non, c, d] => simp only [isT]; walk_at "lf"
              | [.bl _, c, d] => simp only [isT]; walk_at "lf"
              | [.int _, c, d] => simp only [isT]; walk_at "lf"
              | [.tup _, c, d] => simp only [isT]; walk_at "lf"
              | [.lst _, c, d] => simp only [isT]; walk_at "lf"
              | b :: c :: d :: e :: xs =>
                have q : ¬ ((((D.str "ask") :: b :: c :: d :: e :: xs).length : Nat) : Int) = 4 := by simp only [List.length_cons]; omega
                simp only [isT]
                walk_at "lfs"
            · have f : isT (n + 1 + 1) ms (.tup (.str w :: xs)) = false := by
                unfold isT
                split
                · rename_i z; cases z; simp [hw]
                · rename_i z; cases z; simp [hk]
                · rfl
              rw [f]
              walk_at "lfs"
        | _ => simp only [isT]; walk_at "lf"
    | _ => rw [run_def rfl ⟨rfl, by decide⟩]; simp only [f7, b7, List.map, List.replicate, Nat.reduceSub, isT]; walk_at "lf"
end Lf.K04
end

section
set_option maxHeartbeats 4000000
/-! k04: odd things, bent things. -/
namespace Lf.K04
open PySem Lf
theorem idx_lget {xs : List D} {i : Int} (h : 0 ≤ i ∧ i < xs.length) : idxD (.lst xs) (.int i) = some (xs.getD i.toNat .non) := by
  rw [idx_lnn h, List.getElem?_eq_getElem (by omega : i.toNat < xs.length)]
  simp [List.getD_eq_getElem?_getD, List.getElem?_eq_getElem (by omega : i.toNat < xs.length)]
def odds : List D := [.non, .bl true, .bl false, .int 0, .int 1, .int (-1), .int (10 ^ 50), .str "", .str "a", .str "A", .str "abcdefghi", .tup [], .lst [], .tup [.str "a"], .lst [.str "a"], .tup [.str "a", .bl true]]
def Tap.odd (t : Tap) : D × Tap := (odds.getD (t.val 16).toNat .non, t.nxt 16)
local macro_rules | `(tactic| walk_at "lf") => `(tactic| simp -implicitDefEqProofs (disch := (first | with_reducible assumption | omega | decide +kernel | (simp only [List.length_cons, List.length_nil, List.length_map, List.length_append, List.length_take, List.length_drop, List.length_reverse, tap_len]; omega) | exact of_decide_eq_true (id rfl) | fail)) only [↓cE_non, ↓cE_bl, ↓cE_int, ↓cE_str, ↓cE_var0, ↓cE_varS, ↓cE_glb, ↓cE_bin, ↓kBin1_eq, ↓cE_neg, ↓kNeg_int, ↓cE_rev, ↓kRev_tup, ↓kRev_lst, ↓kRev_fl, ↓cE_isi, ↓kIsi_d, ↓kIsi_fl, ↓r_isN, ↓r_isNN, ↓r_lts, ↓r_les, ↓r_gts, ↓r_ges, ↓r_addbi, ↓r_strb, ↓r_strs, ↓kMe1_supp, ↓r_in_sl, ↓r_in_st, ↓r_ni_sl, ↓r_ni_st, ↓r_in_it, ↓r_ni_it, ↓cE_unot, ↓kNot_bl, ↓cE_band, ↓cE_bor, ↓cE_cmp, ↓kCmp1_eq, ↓cE_ife, ↓cE_tup, ↓cE_lst, ↓kTup0, ↓kTup1, ↓kTup2, ↓kTup3, ↓kTup4, ↓kTup5, ↓kLst0, ↓kLst1, ↓kLst2, ↓kLst3, ↓kLst4, ↓kLst5, ↓cE_call, ↓cE_bi, ↓cE_idx, ↓kIdx1_eq, ↓cE_slc, ↓kSlc1_eq, ↓kSlc2_eq, ↓kSlc3_lst, ↓kSlc3_fl, ↓kSlc3_tup, ↓kSlc3_sq, ↓cE_meth, ↓cE_dct, ↓cE_mkd, ↓kMkd_lst, ↓cE_lzip, ↓cL_nil, ↓cL_cons, ↓kRow_eq, ↓kCons_d, ↓kCons_ref, ↓kCons_fl, ↓kCons_sq, ↓cO_nop, ↓cO_sb, ↓kSb_int, ↓cP_nil, ↓cP_cons, ↓kPr1_d, ↓kPr2_d, ↓kPr2_fl, ↓kPr3_s, ↓kPr3_i, ↓cT_nil, ↓cT_cons, ↓cI_rng, ↓cI_rng2, ↓cI_zip, ↓kZip_tt, ↓kZip_ll, ↓cI_it, ↓kIt_lst, ↓kIt_tup, ↓kIt_fl, ↓kIt_str, ↓ckd_none, ↓unl_none, ↓cN_0, ↓cN_S, ↓kEn_eq, ↓cB_nm, ↓cB_tup, ↓cBs_nil, ↓cBs_cons, ↓kBs_eq, ↓cE_lc, ↓kLc_eq, ↓kLt1_eq, ↓kLt3_d, ↓kLt3_fl, ↓cG_d, ↓cG_ref, ↓cG_sq, ↓cG_fl, ↓cG_fd, ↓cA_d, ↓cA_ref, ↓cA_fl, ↓cA_fd, ↓cG_pt, ↓cG_unl, ↓cG_star, ↓cG_ix, ↓cG_ixl, ↓kIx1_eq, ↓cS_asg, ↓kAsg_eq, ↓kNx_eq, ↓cS_par, ↓kPar_eq, ↓cR_nil, ↓cR_cons, ↓kRw_nd, ↓kRw_nf, ↓kRw_nr, ↓kRw_ad, ↓kRw_af, ↓kRw_ar, ↓cW_nil, ↓cW_nd, ↓cW_nr, ↓cW_ad, ↓cW_ar, ↓cW_af, ↓kWs_eq, ↓cS_ret, ↓kRt_eq, ↓cS_ex, ↓kEx_eq, ↓cS_if, ↓cS_cons, ↓cS_nil, ↓cS_brk, ↓cS_cnt, ↓cS_pass, ↓kSeq_nx, ↓kSeq_ret, ↓kSeq_bk, ↓kSeq_ct, ↓cS_for, ↓kFor_eq, ↓kBody_eq, ↓kTurn_nx, ↓kTurn_ct, ↓kTurn_bk, ↓kTurn_ret, ↓cS_whl, ↓kWTurn_nx, ↓kWTurn_ct, ↓kWTurn_bk, ↓kWTurn_ret, ↓kFin_ret, ↓kFin_nx, ↓finish_d, ↓finish_fl, ↓finish_fd, ↓finish_sq, ↓r_add, ↓r_addb, ↓r_sub, ↓r_mul, ↓r_div, ↓r_mod, ↓r_pow, ↓r_shl, ↓r_shr, ↓r_and, ↓r_adds, ↓r_addt, ↓r_addl, ↓r_eqi, ↓r_nei, ↓r_eqs, ↓r_nes, ↓r_eqt0, ↓r_net0, ↓r_eql0, ↓r_nel0, ↓r_lt, ↓r_le, ↓r_gt, ↓r_ge, ↓r_lenl, ↓r_lent, ↓r_lens, ↓r_tupl, ↓r_tupt, ↓r_lisl, ↓r_list, ↓r_inti, ↓r_abs, ↓r_max, ↓r_min, ↓t2_0, ↓t2_1, ↓t2_2, ↓t2_3, ↓t2_4, ↓l2_0, ↓l2_1, ↓l2_2, ↓l2_3, ↓kRng_int, ↓kRng2_int, ↓ckd_some, ↓unl_t, ↓unl_f, ↓oK_some, ↓oC_some, ↓oP_some, ↓oW_some, ↓kRet_ok, ↓kLc2_t, ↓kLc2_f, ↓vIdx_dct, ↓vPt_some, ↓vUn_some, ↓kLc3_d, ↓kLc3_fl, ↓kIf_t, ↓kIf_f, ↓kIf_p, ↓kIf_n, ↓kIte_t, ↓kIte_f, ↓kIte_p, ↓kIte_n, ↓kAnd_t, ↓kAnd_f, ↓kAnd_p, ↓kAnd_n, ↓kOr_t, ↓kOr_f, ↓kOr_p, ↓kOr_n, ↓kTst_t, ↓kTst_f, ↓kTst_p, ↓kTst_n, ↓kWTest_p, ↓kWTest_n, ↓kLt2_t, ↓kLt2_f, ↓kLt2_p, ↓kCall_0, ↓kCall_r0, ↓kCall_r1, ↓kCall_r2, ↓kR0_d, ↓kR0_fl, ↓kR0_fd, ↓kR1_d, ↓kR1_fl, ↓kR1_fd, ↓kR1_ref, ↓m_pop1, ↓m_pop0, ↓m_app, ↓vTy_lst, ↓kMe1_pop, ↓kMe1_app, ↓kMe1_ext, ↓kMe1_idx, ↓m_ext, ↓bin_fl1, ↓bin_fl2, ↓vBin_dd, ↓cmp_fl1, ↓cmp_fl2, ↓vCmp_dd, ↓vBi_1, ↓idx_fl, ↓idx_fd, ↓vIdx_dd, ↓vSlc_d, ↓if_fl, ↓st21, ↓st32, ↓r_intt, ↓r_intf, ↓r_intp, ↓r_zipt, ↓if_pos, ↓if_neg, ↓reduceIte, kSlc3_str, r_stri, m_supp, isD_tup_non, isD_tup_bl, isD_tup_int, isD_tup_str, isD_tup_tup, isD_tup_lst, isD_lst_non, isD_lst_bl, isD_lst_int, isD_lst_str, isD_lst_tup, isD_lst_lst, isD_str_non, isD_str_bl, isD_str_int, isD_str_str, isD_str_tup, isD_str_lst, isD_int_non, isD_int_bl, isD_int_int, isD_int_str, isD_int_tup, isD_int_lst, isD_bl_non, isD_bl_bl, isD_bl_int, isD_bl_str, isD_bl_tup, isD_bl_lst, isD_dct_non, isD_dct_bl, isD_dct_int, isD_dct_str, isD_dct_tup, isD_dct_lst, isN_non, isN_bl, isN_int, isN_str, isN_tup, isN_lst, r_intb, bin_ref1, bin_ref2, cmp_ref1, cmp_ref2, bi_ref, idx_ref, slc_ref, r_eq, r_ne, kAnd_bl, kOr_bl, kIte_bl, kTst_bl, kIf_bl, kWTest_bl, kLt2_eq, kNot_eq, kAnd_eq, kOr_eq, kIte_eq, kTup_eq, kLst_eq, kIdx2_dd, vPop_lst, vPop0_lst, vApp_lst, emp_snoc, vExt_lst, m_tidx, idx_tmap, idx_lmap, kDct_eq, kLzip_eq, kTst_eq, kIt_ref, vWk_lst, vWk_lk, kIf_eq, kWTest_eq, kIx2_d, kRw_eq, kGl_some, finish_old, finish_new, vFin_lst, vFin_dct, cLc_nil, cLc_cons, kLc1_eq, kLc2_eq, cFor_nil, cFor_cons, view_d, view_fl, view_ref, vwC_lst, vwC_lk, vwC_dct, viewD_ref, viewD_d, viewD_fl, viewD_fd, vwD_lst, vwD_lk, vwD_dct, views_nil, views_cons, cnsO_some, frzs_nil, frzs_d, cnsF_some, putIx_ref, pIx_s, pIx_i, pIx_l, dGet_hit, dGet_miss, renW_self, renW_d, renW_sq, truW, tup_ok, lst_ok, List.map_cons, List.map_nil, List.all_cons, List.all_nil, List.contains_cons, List.contains_nil, List.elem_nil, List.getD_cons_zero, List.getD_cons_succ, List.getElem?_cons_zero, List.getElem?_cons_succ, List.getElem?_nil, List.set_cons_zero, List.set_cons_succ, List.length_cons, List.length_nil, List.nil_append, List.cons_append, List.append_nil, List.take_zero, List.take_succ_cons, List.take_nil, Bool.true_and, Bool.and_true, Bool.false_and, Bool.and_false, Bool.not_true, Bool.not_false, Bool.true_or, Bool.or_true, decide_eq_true_eq, Bool.not_eq_true', decide_eq_false_iff_not, reduceCtorEq, if_true, if_false, ite_true, ite_false, Bool.false_eq_true, Option.map_some, List.idxOf_cons, beq_self_eq_true, Nat.zero_add, cond_true, cond_false, D.truO, D.tru, List.isEmpty_cons, List.isEmpty_nil, Int.toNat_zero, List.length_map, clearO_nil, clearO_cons, Option.map_none, star_t, star_l, cut_pre, cut_suf, cut_mid, cut_all, take_map, drop_map, b2i_t, b2i_f, cut_tail, drop_one, toNat_1, toNat_2, toNat_3, List.drop_zero, cE_non, cE_bl, cE_int, cE_str, cE_var0, cE_varS, cE_glb, cE_bin, kBin1_eq, cE_neg, kNeg_int, cE_rev, kRev_tup, kRev_lst, kRev_fl, cE_isi, kIsi_d, kIsi_fl, r_isN, r_isNN, r_lts, r_les, r_gts, r_ges, r_addbi, r_strb, r_strs, kMe1_supp, r_in_sl, r_in_st, r_ni_sl, r_ni_st, r_in_it, r_ni_it, cE_unot, kNot_bl, cE_band, cE_bor, cE_cmp, kCmp1_eq, cE_ife, cE_tup, cE_lst, kTup0, kTup1, kTup2, kTup3, kTup4, kTup5, kLst0, kLst1, kLst2, kLst3, kLst4, kLst5, cE_call, cE_bi, cE_idx, kIdx1_eq, cE_slc, kSlc1_eq, kSlc2_eq, kSlc3_lst, kSlc3_fl, kSlc3_tup, kSlc3_sq, cE_meth, cE_dct, cE_mkd, kMkd_lst, cE_lzip, cL_nil, cL_cons, kRow_eq, kCons_d, kCons_ref, kCons_fl, kCons_sq, cO_nop, cO_sb, kSb_int, cP_nil, cP_cons, kPr1_d, kPr2_d, kPr2_fl, kPr3_s, kPr3_i, cT_nil, cT_cons, cI_rng, cI_rng2, cI_zip, kZip_tt, kZip_ll, cI_it, kIt_lst, kIt_tup, kIt_fl, kIt_str, ckd_none, unl_none, cN_0, cN_S, kEn_eq, cB_nm, cB_tup, cBs_nil, cBs_cons, kBs_eq, cE_lc, kLc_eq, kLt1_eq, kLt3_d, kLt3_fl, cG_d, cG_ref, cG_sq, cG_fl, cG_fd, cA_d, cA_ref, cA_fl, cA_fd, cG_pt, cG_unl, cG_star, cG_ix, cG_ixl, kIx1_eq, cS_asg, kAsg_eq, kNx_eq, cS_par, kPar_eq, cR_nil, cR_cons, kRw_nd, kRw_nf, kRw_nr, kRw_ad, kRw_af, kRw_ar, cW_nil, cW_nd, cW_nr, cW_ad, cW_ar, cW_af, kWs_eq, cS_ret, kRt_eq, cS_ex, kEx_eq, cS_if, cS_cons, cS_nil, cS_brk, cS_cnt, cS_pass, kSeq_nx, kSeq_ret, kSeq_bk, kSeq_ct, cS_for, kFor_eq, kBody_eq, kTurn_nx, kTurn_ct, kTurn_bk, kTurn_ret, cS_whl, kWTurn_nx, kWTurn_ct, kWTurn_bk, kWTurn_ret, kFin_ret, kFin_nx, finish_d, finish_fl, finish_fd, finish_sq, r_add, r_addb, r_sub, r_mul, r_div, r_mod, r_pow, r_shl, r_shr, r_and, r_adds, r_addt, r_addl, r_eqi, r_nei, r_eqs, r_nes, r_eqt0, r_net0, r_eql0, r_nel0, r_lt, r_le, r_gt, r_ge, r_lenl, r_lent, r_lens, r_tupl, r_tupt, r_lisl, r_list, r_inti, r_abs, r_max, r_min, t2_0, t2_1, t2_2, t2_3, t2_4, l2_0, l2_1, l2_2, l2_3, kRng_int, kRng2_int, ckd_some, unl_t, unl_f, oK_some, oC_some, oP_some, oW_some, kRet_ok, kLc2_t, kLc2_f, vIdx_dct, vPt_some, vUn_some, kLc3_d, kLc3_fl, kIf_t, kIf_f, kIf_p, kIf_n, kIte_t, kIte_f, kIte_p, kIte_n, kAnd_t, kAnd_f, kAnd_p, kAnd_n, kOr_t, kOr_f, kOr_p, kOr_n, kTst_t, kTst_f, kTst_p, kTst_n, kWTest_p, kWTest_n, kLt2_t, kLt2_f, kLt2_p, kCall_0, kCall_r0, kCall_r1, kCall_r2, kR0_d, kR0_fl, kR0_fd, kR1_d, kR1_fl, kR1_fd, kR1_ref, m_pop1, m_pop0, m_app, vTy_lst, kMe1_pop, kMe1_app, kMe1_ext, kMe1_idx, m_ext, bin_fl1, bin_fl2, vBin_dd, cmp_fl1, cmp_fl2, vCmp_dd, vBi_1, idx_fl, idx_fd, vIdx_dd, vSlc_d, if_fl, st21, st32, r_intt, r_intf, r_intp, r_zipt, idx_lget])
local macro_rules | `(tactic| walk_at "lfs") => `(tactic| simp -implicitDefEqProofs (disch := (first | with_reducible assumption | omega | decide +kernel | (simp only [List.length_cons, List.length_nil, List.length_map, List.length_append, List.length_take, List.length_drop, List.length_reverse, tap_len]; omega) | exact of_decide_eq_true (id rfl) | fail)) only [↓cE_non, ↓cE_bl, ↓cE_int, ↓cE_str, ↓cE_var0, ↓cE_varS, ↓cE_glb, ↓cE_bin, ↓kBin1_eq, ↓cE_neg, ↓kNeg_int, ↓cE_rev, ↓kRev_tup, ↓kRev_lst, ↓kRev_fl, ↓cE_isi, ↓kIsi_d, ↓kIsi_fl, ↓r_isN, ↓r_isNN, ↓r_lts, ↓r_les, ↓r_gts, ↓r_ges, ↓r_addbi, ↓r_strb, ↓r_strs, ↓kMe1_supp, ↓r_in_sl, ↓r_in_st, ↓r_ni_sl, ↓r_ni_st, ↓r_in_it, ↓r_ni_it, ↓cE_unot, ↓kNot_bl, ↓cE_band, ↓cE_bor, ↓cE_cmp, ↓kCmp1_eq, ↓cE_ife, ↓cE_tup, ↓cE_lst, ↓kTup0, ↓kTup1, ↓kTup2, ↓kTup3, ↓kTup4, ↓kTup5, ↓kLst0, ↓kLst1, ↓kLst2, ↓kLst3, ↓kLst4, ↓kLst5, ↓cE_call, ↓cE_bi, ↓cE_idx, ↓kIdx1_eq, ↓cE_slc, ↓kSlc1_eq, ↓kSlc2_eq, ↓kSlc3_lst, ↓kSlc3_fl, ↓kSlc3_tup, ↓kSlc3_sq, ↓cE_meth, ↓cE_dct, ↓cE_mkd, ↓kMkd_lst, ↓cE_lzip, ↓cL_nil, ↓cL_cons, ↓kRow_eq, ↓kCons_d, ↓kCons_ref, ↓kCons_fl, ↓kCons_sq, ↓cO_nop, ↓cO_sb, ↓kSb_int, ↓cP_nil, ↓cP_cons, ↓kPr1_d, ↓kPr2_d, ↓kPr2_fl, ↓kPr3_s, ↓kPr3_i, ↓cT_nil, ↓cT_cons, ↓cI_rng, ↓cI_rng2, ↓cI_zip, ↓kZip_tt, ↓kZip_ll, ↓cI_it, ↓kIt_lst, ↓kIt_tup, ↓kIt_fl, ↓kIt_str, ↓ckd_none, ↓unl_none, ↓cN_0, ↓cN_S, ↓kEn_eq, ↓cB_nm, ↓cB_tup, ↓cBs_nil, ↓cBs_cons, ↓kBs_eq, ↓cE_lc, ↓kLc_eq, ↓kLt1_eq, ↓kLt3_d, ↓kLt3_fl, ↓cG_d, ↓cG_ref, ↓cG_sq, ↓cG_fl, ↓cG_fd, ↓cA_d, ↓cA_ref, ↓cA_fl, ↓cA_fd, ↓cG_pt, ↓cG_unl, ↓cG_star, ↓cG_ix, ↓cG_ixl, ↓kIx1_eq, ↓cS_asg, ↓kAsg_eq, ↓kNx_eq, ↓cS_par, ↓kPar_eq, ↓cR_nil, ↓cR_cons, ↓kRw_nd, ↓kRw_nf, ↓kRw_nr, ↓kRw_ad, ↓kRw_af, ↓kRw_ar, ↓cW_nil, ↓cW_nd, ↓cW_nr, ↓cW_ad, ↓cW_ar, ↓cW_af, ↓kWs_eq, ↓cS_ret, ↓kRt_eq, ↓cS_ex, ↓kEx_eq, ↓cS_if, ↓cS_cons, ↓cS_nil, ↓cS_brk, ↓cS_cnt, ↓cS_pass, ↓kSeq_nx, ↓kSeq_ret, ↓kSeq_bk, ↓kSeq_ct, ↓cS_for, ↓kFor_eq, ↓kBody_eq, ↓kTurn_nx, ↓kTurn_ct, ↓kTurn_bk, ↓kTurn_ret, ↓cS_whl, ↓kWTurn_nx, ↓kWTurn_ct, ↓kWTurn_bk, ↓kWTurn_ret, ↓kFin_ret, ↓kFin_nx, ↓finish_d, ↓finish_fl, ↓finish_fd, ↓finish_sq, ↓r_add, ↓r_addb, ↓r_sub, ↓r_mul, ↓r_div, ↓r_mod, ↓r_pow, ↓r_shl, ↓r_shr, ↓r_and, ↓r_adds, ↓r_addt, ↓r_addl, ↓r_eqi, ↓r_nei, ↓r_eqs, ↓r_nes, ↓r_eqt0, ↓r_net0, ↓r_eql0, ↓r_nel0, ↓r_lt, ↓r_le, ↓r_gt, ↓r_ge, ↓r_lenl, ↓r_lent, ↓r_lens, ↓r_tupl, ↓r_tupt, ↓r_lisl, ↓r_list, ↓r_inti, ↓r_abs, ↓r_max, ↓r_min, ↓t2_0, ↓t2_1, ↓t2_2, ↓t2_3, ↓t2_4, ↓l2_0, ↓l2_1, ↓l2_2, ↓l2_3, ↓kRng_int, ↓kRng2_int, ↓ckd_some, ↓unl_t, ↓unl_f, ↓oK_some, ↓oC_some, ↓oP_some, ↓oW_some, ↓kRet_ok, ↓kLc2_t, ↓kLc2_f, ↓vIdx_dct, ↓vPt_some, ↓vUn_some, ↓kLc3_d, ↓kLc3_fl, ↓kIf_t, ↓kIf_f, ↓kIf_p, ↓kIf_n, ↓kIte_t, ↓kIte_f, ↓kIte_p, ↓kIte_n, ↓kAnd_t, ↓kAnd_f, ↓kAnd_p, ↓kAnd_n, ↓kOr_t, ↓kOr_f, ↓kOr_p, ↓kOr_n, ↓kTst_t, ↓kTst_f, ↓kTst_p, ↓kTst_n, ↓kWTest_p, ↓kWTest_n, ↓kLt2_t, ↓kLt2_f, ↓kLt2_p, ↓kCall_0, ↓kCall_r0, ↓kCall_r1, ↓kCall_r2, ↓kR0_d, ↓kR0_fl, ↓kR0_fd, ↓kR1_d, ↓kR1_fl, ↓kR1_fd, ↓kR1_ref, ↓m_pop1, ↓m_pop0, ↓m_app, ↓vTy_lst, ↓kMe1_pop, ↓kMe1_app, ↓kMe1_ext, ↓kMe1_idx, ↓m_ext, ↓bin_fl1, ↓bin_fl2, ↓vBin_dd, ↓cmp_fl1, ↓cmp_fl2, ↓vCmp_dd, ↓vBi_1, ↓idx_fl, ↓idx_fd, ↓vIdx_dd, ↓vSlc_d, ↓if_fl, ↓st21, ↓st32, ↓r_intt, ↓r_intf, ↓r_intp, ↓r_zipt, ↓if_pos, ↓if_neg, ↓reduceIte, kSlc3_str, r_stri, m_supp, isD_tup_non, isD_tup_bl, isD_tup_int, isD_tup_str, isD_tup_tup, isD_tup_lst, isD_lst_non, isD_lst_bl, isD_lst_int, isD_lst_str, isD_lst_tup, isD_lst_lst, isD_str_non, isD_str_bl, isD_str_int, isD_str_str, isD_str_tup, isD_str_lst, isD_int_non, isD_int_bl, isD_int_int, isD_int_str, isD_int_tup, isD_int_lst, isD_bl_non, isD_bl_bl, isD_bl_int, isD_bl_str, isD_bl_tup, isD_bl_lst, isD_dct_non, isD_dct_bl, isD_dct_int, isD_dct_str, isD_dct_tup, isD_dct_lst, isN_non, isN_bl, isN_int, isN_str, isN_tup, isN_lst, r_intb, bin_ref1, bin_ref2, cmp_ref1, cmp_ref2, bi_ref, idx_ref, slc_ref, r_eq, r_ne, kAnd_bl, kOr_bl, kIte_bl, kTst_bl, kIf_bl, kWTest_bl, kLt2_eq, kNot_eq, kAnd_eq, kOr_eq, kIte_eq, kTup_eq, kLst_eq, kIdx2_dd, vPop_lst, vPop0_lst, vApp_lst, emp_snoc, vExt_lst, m_tidx, idx_tmap, idx_lmap, kDct_eq, kLzip_eq, kTst_eq, kIt_ref, vWk_lst, vWk_lk, kIf_eq, kWTest_eq, kIx2_d, kRw_eq, kGl_some, finish_old, finish_new, vFin_lst, vFin_dct, cLc_nil, cLc_cons, kLc1_eq, kLc2_eq, cFor_nil, cFor_cons, view_d, view_fl, view_ref, vwC_lst, vwC_lk, vwC_dct, viewD_ref, viewD_d, viewD_fl, viewD_fd, vwD_lst, vwD_lk, vwD_dct, views_nil, views_cons, cnsO_some, frzs_nil, frzs_d, cnsF_some, putIx_ref, pIx_s, pIx_i, pIx_l, dGet_hit, dGet_miss, renW_self, renW_d, renW_sq, truW, tup_ok, lst_ok, List.map_cons, List.map_nil, List.all_cons, List.all_nil, List.contains_cons, List.contains_nil, List.elem_nil, List.getD_cons_zero, List.getD_cons_succ, List.getElem?_cons_zero, List.getElem?_cons_succ, List.getElem?_nil, List.set_cons_zero, List.set_cons_succ, List.length_cons, List.length_nil, List.nil_append, List.cons_append, List.append_nil, List.take_zero, List.take_succ_cons, List.take_nil, Bool.true_and, Bool.and_true, Bool.false_and, Bool.and_false, Bool.not_true, Bool.not_false, Bool.true_or, Bool.or_true, decide_eq_true_eq, Bool.not_eq_true', decide_eq_false_iff_not, reduceCtorEq, if_true, if_false, ite_true, ite_false, Bool.false_eq_true, Option.map_some, List.idxOf_cons, beq_self_eq_true, Nat.zero_add, cond_true, cond_false, D.truO, D.tru, List.isEmpty_cons, List.isEmpty_nil, Int.toNat_zero, List.length_map, clearO_nil, clearO_cons, Option.map_none, star_t, star_l, cut_pre, cut_suf, cut_mid, cut_all, take_map, drop_map, b2i_t, b2i_f, cut_tail, drop_one, toNat_1, toNat_2, toNat_3, List.drop_zero, cE_non, cE_bl, cE_int, cE_str, cE_var0, cE_varS, cE_glb, cE_bin, kBin1_eq, cE_neg, kNeg_int, cE_rev, kRev_tup, kRev_lst, kRev_fl, cE_isi, kIsi_d, kIsi_fl, r_isN, r_isNN, r_lts, r_les, r_gts, r_ges, r_addbi, r_strb, r_strs, kMe1_supp, r_in_sl, r_in_st, r_ni_sl, r_ni_st, r_in_it, r_ni_it, cE_unot, kNot_bl, cE_band, cE_bor, cE_cmp, kCmp1_eq, cE_ife, cE_tup, cE_lst, kTup0, kTup1, kTup2, kTup3, kTup4, kTup5, kLst0, kLst1, kLst2, kLst3, kLst4, kLst5, cE_call, cE_bi, cE_idx, kIdx1_eq, cE_slc, kSlc1_eq, kSlc2_eq, kSlc3_lst, kSlc3_fl, kSlc3_tup, kSlc3_sq, cE_meth, cE_dct, cE_mkd, kMkd_lst, cE_lzip, cL_nil, cL_cons, kRow_eq, kCons_d, kCons_ref, kCons_fl, kCons_sq, cO_nop, cO_sb, kSb_int, cP_nil, cP_cons, kPr1_d, kPr2_d, kPr2_fl, kPr3_s, kPr3_i, cT_nil, cT_cons, cI_rng, cI_rng2, cI_zip, kZip_tt, kZip_ll, cI_it, kIt_lst, kIt_tup, kIt_fl, kIt_str, ckd_none, unl_none, cN_0, cN_S, kEn_eq, cB_nm, cB_tup, cBs_nil, cBs_cons, kBs_eq, cE_lc, kLc_eq, kLt1_eq, kLt3_d, kLt3_fl, cG_d, cG_ref, cG_sq, cG_fl, cG_fd, cA_d, cA_ref, cA_fl, cA_fd, cG_pt, cG_unl, cG_star, cG_ix, cG_ixl, kIx1_eq, cS_asg, kAsg_eq, kNx_eq, cS_par, kPar_eq, cR_nil, cR_cons, kRw_nd, kRw_nf, kRw_nr, kRw_ad, kRw_af, kRw_ar, cW_nil, cW_nd, cW_nr, cW_ad, cW_ar, cW_af, kWs_eq, cS_ret, kRt_eq, cS_ex, kEx_eq, cS_if, cS_cons, cS_nil, cS_brk, cS_cnt, cS_pass, kSeq_nx, kSeq_ret, kSeq_bk, kSeq_ct, cS_for, kFor_eq, kBody_eq, kTurn_nx, kTurn_ct, kTurn_bk, kTurn_ret, cS_whl, kWTurn_nx, kWTurn_ct, kWTurn_bk, kWTurn_ret, kFin_ret, kFin_nx, finish_d, finish_fl, finish_fd, finish_sq, r_add, r_addb, r_sub, r_mul, r_div, r_mod, r_pow, r_shl, r_shr, r_and, r_adds, r_addt, r_addl, r_eqi, r_nei, r_eqs, r_nes, r_eqt0, r_net0, r_eql0, r_nel0, r_lt, r_le, r_gt, r_ge, r_lenl, r_lent, r_lens, r_tupl, r_tupt, r_lisl, r_list, r_inti, r_abs, r_max, r_min, t2_0, t2_1, t2_2, t2_3, t2_4, l2_0, l2_1, l2_2, l2_3, kRng_int, kRng2_int, ckd_some, unl_t, unl_f, oK_some, oC_some, oP_some, oW_some, kRet_ok, kLc2_t, kLc2_f, vIdx_dct, vPt_some, vUn_some, kLc3_d, kLc3_fl, kIf_t, kIf_f, kIf_p, kIf_n, kIte_t, kIte_f, kIte_p, kIte_n, kAnd_t, kAnd_f, kAnd_p, kAnd_n, kOr_t, kOr_f, kOr_p, kOr_n, kTst_t, kTst_f, kTst_p, kTst_n, kWTest_p, kWTest_n, kLt2_t, kLt2_f, kLt2_p, kCall_0, kCall_r0, kCall_r1, kCall_r2, kR0_d, kR0_fl, kR0_fd, kR1_d, kR1_fl, kR1_fd, kR1_ref, m_pop1, m_pop0, m_app, vTy_lst, kMe1_pop, kMe1_app, kMe1_ext, kMe1_idx, m_ext, bin_fl1, bin_fl2, vBin_dd, cmp_fl1, cmp_fl2, vCmp_dd, vBi_1, idx_fl, idx_fd, vIdx_dd, vSlc_d, if_fl, st21, st32, r_intt, r_intf, r_intp, r_zipt, idx_lget, *])
theorem odd_ok {n : Nat} {t : Tap} (hc : 0 ≤ t.calls ∧ t.calls < 50000000) : callN U (n + 2) 5 [.ref 0] [t.c] = .ok (.d (Tap.odd t).1, [(Tap.odd t).2.c]) := by
  have tk := take_ok (U := U) (n := n) (i := 2) (t := t) (m := 16) rfl (by decide) ⟨by omega, by omega⟩
  have b := Tap.val_b (t := t) (m := 16) (by decide)
  rw [run_def rfl ⟨rfl, by decide⟩]
  simp only [f5, b5, List.map, List.replicate, Nat.reduceSub, Tap.odd, odds]
  walk_at "lfs"
/-- bent at its top -/
def flat (x : D) (t : Tap) : D × Tap :=
  match x with
  | .tup xs =>
    if t.val 7 = 3 then (.tup (xs.take ((t.nxt 7).val (xs.length + 1)).toNat ++ [(Tap.odd ((t.nxt 7).nxt (xs.length + 1))).1] ++ xs.drop ((t.nxt 7).val (xs.length + 1)).toNat), (Tap.odd ((t.nxt 7).nxt (xs.length + 1))).2)
    else if t.val 7 < 5 then ([.lst xs, .tup (xs.take ((t.nxt 7).val (xs.length + 1)).toNat ++ xs.drop ((t.nxt 7).val (xs.length + 1) + 1).toNat),
      .tup (xs.take ((t.nxt 7).val (xs.length + 1)).toNat ++ (xs.drop ((t.nxt 7).val (xs.length + 1)).toNat).take (((t.nxt 7).val (xs.length + 1) + 1).toNat - ((t.nxt 7).val (xs.length + 1)).toNat) ++ xs.drop ((t.nxt 7).val (xs.length + 1)).toNat), .tup [], .tup xs.reverse].getD (t.val 7).toNat .non, (t.nxt 7).nxt (xs.length + 1))
    else Tap.odd ((t.nxt 7).nxt (xs.length + 1))
  | .int i => if t.val 7 < 4 then ([.int (i + 1), .bl (decide (i = 0)), .int i, .str (toString i)].getD (t.val 7).toNat .non, t.nxt 7) else Tap.odd (t.nxt 7)
  | .bl b => if t.val 7 < 4 then ([.int (b2i b + 1), .bl (D.eq (.bl b) (.int 0)), .int (b2i b), .str (if b = true then "True" else "False")].getD (t.val 7).toNat .non, t.nxt 7) else Tap.odd (t.nxt 7)
  | .str z => if t.val 7 < 3 then ([.str (z ++ "a"), .str ⟨(z.cps.toList.drop 1).toArray⟩, .str (PySem.Txt.upper z)].getD (t.val 7).toNat .non, t.nxt 7) else Tap.odd (t.nxt 7)
  | _ => Tap.odd (t.nxt 7)
def bend : Nat → D → Tap → D × Tap
  | 0, x, t => flat x t
  | d + 1, .tup (y :: ys), t => if 0 < t.val 3 then
        (.tup ((y :: ys).take ((t.nxt 3).val (y :: ys).length).toNat ++ [(bend d ((y :: ys).getD ((t.nxt 3).val (y :: ys).length).toNat .non) ((t.nxt 3).nxt (y :: ys).length)).1] ++ (y :: ys).drop ((t.nxt 3).val (y :: ys).length + 1).toNat),
          (bend d ((y :: ys).getD ((t.nxt 3).val (y :: ys).length).toNat .non) ((t.nxt 3).nxt (y :: ys).length)).2)
      else flat (.tup (y :: ys)) (t.nxt 3)
  | _ + 1, x, t => flat x t
local macro_rules | `(tactic| walk_at "lf") => `(tactic| simp -implicitDefEqProofs (disch := (first | with_reducible assumption | omega | decide +kernel | (simp only [List.length_cons, List.length_nil, List.length_map, List.length_append, List.length_take, List.length_drop, List.length_reverse, tap_len]; omega) | exact of_decide_eq_true (id rfl) | fail)) only [↓cE_non, ↓cE_bl, ↓cE_int, ↓cE_str, ↓cE_var0, ↓cE_varS, ↓cE_glb, ↓cE_bin, ↓kBin1_eq, ↓cE_neg, ↓kNeg_int, ↓cE_rev, ↓kRev_tup, ↓kRev_lst, ↓kRev_fl, ↓cE_isi, ↓kIsi_d, ↓kIsi_fl, ↓r_isN, ↓r_isNN, ↓r_lts, ↓r_les, ↓r_gts, ↓r_ges, ↓r_addbi, ↓r_strb, ↓r_strs, ↓kMe1_supp, ↓r_in_sl, ↓r_in_st, ↓r_ni_sl, ↓r_ni_st, ↓r_in_it, ↓r_ni_it, ↓cE_unot, ↓kNot_bl, ↓cE_band, ↓cE_bor, ↓cE_cmp, ↓kCmp1_eq, ↓cE_ife, ↓cE_tup, ↓cE_lst, ↓kTup0, ↓kTup1, ↓kTup2, ↓kTup3, ↓kTup4, ↓kTup5, ↓kLst0, ↓kLst1, ↓kLst2, ↓kLst3, ↓kLst4, ↓kLst5, ↓cE_call, ↓cE_bi, ↓cE_idx, ↓kIdx1_eq, ↓cE_slc, ↓kSlc1_eq, ↓kSlc2_eq, ↓kSlc3_lst, ↓kSlc3_fl, ↓kSlc3_tup, ↓kSlc3_sq, ↓cE_meth, ↓cE_dct, ↓cE_mkd, ↓kMkd_lst, ↓cE_lzip, ↓cL_nil, ↓cL_cons, ↓kRow_eq, ↓kCons_d, ↓kCons_ref, ↓kCons_fl, ↓kCons_sq, ↓cO_nop, ↓cO_sb, ↓kSb_int, ↓cP_nil, ↓cP_cons, ↓kPr1_d, ↓kPr2_d, ↓kPr2_fl, ↓kPr3_s, ↓kPr3_i, ↓cT_nil, ↓cT_cons, ↓cI_rng, ↓cI_rng2, ↓cI_zip, ↓kZip_tt, ↓kZip_ll, ↓cI_it, ↓kIt_lst, ↓kIt_tup, ↓kIt_fl, ↓kIt_str, ↓ckd_none, ↓unl_none, ↓cN_0, ↓cN_S, ↓kEn_eq, ↓cB_nm, ↓cB_tup, ↓cBs_nil, ↓cBs_cons, ↓kBs_eq, ↓cE_lc, ↓kLc_eq, ↓kLt1_eq, ↓kLt3_d, ↓kLt3_fl, ↓cG_d, ↓cG_ref, ↓cG_sq, ↓cG_fl, ↓cG_fd, ↓cA_d, ↓cA_ref, ↓cA_fl, ↓cA_fd, ↓cG_pt, ↓cG_unl, ↓cG_star, ↓cG_ix, ↓cG_ixl, ↓kIx1_eq, ↓cS_asg, ↓kAsg_eq, ↓kNx_eq, ↓cS_par, ↓kPar_eq, ↓cR_nil, ↓cR_cons, ↓kRw_nd, ↓kRw_nf, ↓kRw_nr, ↓kRw_ad, ↓kRw_af, ↓kRw_ar, ↓cW_nil, ↓cW_nd, ↓cW_nr, ↓cW_ad, ↓cW_ar, ↓cW_af, ↓kWs_eq, ↓cS_ret, ↓kRt_eq, ↓cS_ex, ↓kEx_eq, ↓cS_if, ↓cS_cons, ↓cS_nil, ↓cS_brk, ↓cS_cnt, ↓cS_pass, ↓kSeq_nx, ↓kSeq_ret, ↓kSeq_bk, ↓kSeq_ct, ↓cS_for, ↓kFor_eq, ↓kBody_eq, ↓kTurn_nx, ↓kTurn_ct, ↓kTurn_bk, ↓kTurn_ret, ↓cS_whl, ↓kWTurn_nx, ↓kWTurn_ct, ↓kWTurn_bk, ↓kWTurn_ret, ↓kFin_ret, ↓kFin_nx, ↓finish_d, ↓finish_fl, ↓finish_fd, ↓finish_sq, ↓r_add, ↓r_addb, ↓r_sub, ↓r_mul, ↓r_div, ↓r_mod, ↓r_pow, ↓r_shl, ↓r_shr, ↓r_and, ↓r_adds, ↓r_addt, ↓r_addl, ↓r_eqi, ↓r_nei, ↓r_eqs, ↓r_nes, ↓r_eqt0, ↓r_net0, ↓r_eql0, ↓r_nel0, ↓r_lt, ↓r_le, ↓r_gt, ↓r_ge, ↓r_lenl, ↓r_lent, ↓r_lens, ↓r_tupl, ↓r_tupt, ↓r_lisl, ↓r_list, ↓r_inti, ↓r_abs, ↓r_max, ↓r_min, ↓t2_0, ↓t2_1, ↓t2_2, ↓t2_3, ↓t2_4, ↓l2_0, ↓l2_1, ↓l2_2, ↓l2_3, ↓kRng_int, ↓kRng2_int, ↓ckd_some, ↓unl_t, ↓unl_f, ↓oK_some, ↓oC_some, ↓oP_some, ↓oW_some, ↓kRet_ok, ↓kLc2_t, ↓kLc2_f, ↓vIdx_dct, ↓vPt_some, ↓vUn_some, ↓kLc3_d, ↓kLc3_fl, ↓kIf_t, ↓kIf_f, ↓kIf_p, ↓kIf_n, ↓kIte_t, ↓kIte_f, ↓kIte_p, ↓kIte_n, ↓kAnd_t, ↓kAnd_f, ↓kAnd_p, ↓kAnd_n, ↓kOr_t, ↓kOr_f, ↓kOr_p, ↓kOr_n, ↓kTst_t, ↓kTst_f, ↓kTst_p, ↓kTst_n, ↓kWTest_p, ↓kWTest_n, ↓kLt2_t, ↓kLt2_f, ↓kLt2_p, ↓kCall_0, ↓kCall_r0, ↓kCall_r1, ↓kCall_r2, ↓kR0_d, ↓kR0_fl, ↓kR0_fd, ↓kR1_d, ↓kR1_fl, ↓kR1_fd, ↓kR1_ref, ↓m_pop1, ↓m_pop0, ↓m_app, ↓vTy_lst, ↓kMe1_pop, ↓kMe1_app, ↓kMe1_ext, ↓kMe1_idx, ↓m_ext, ↓bin_fl1, ↓bin_fl2, ↓vBin_dd, ↓cmp_fl1, ↓cmp_fl2, ↓vCmp_dd, ↓vBi_1, ↓idx_fl, ↓idx_fd, ↓vIdx_dd, ↓vSlc_d, ↓if_fl, ↓st21, ↓st32, ↓r_intt, ↓r_intf, ↓r_intp, ↓r_zipt, ↓odd_ok, ↓if_pos, ↓if_neg, ↓reduceIte, kSlc3_str, r_stri, m_supp, isD_tup_non, isD_tup_bl, isD_tup_int, isD_tup_str, isD_tup_tup, isD_tup_lst, isD_lst_non, isD_lst_bl, isD_lst_int, isD_lst_str, isD_lst_tup, isD_lst_lst, isD_str_non, isD_str_bl, isD_str_int, isD_str_str, isD_str_tup, isD_str_lst, isD_int_non, isD_int_bl, isD_int_int, isD_int_str, isD_int_tup, isD_int_lst, isD_bl_non, isD_bl_bl, isD_bl_int, isD_bl_str, isD_bl_tup, isD_bl_lst, isD_dct_non, isD_dct_bl, isD_dct_int, isD_dct_str, isD_dct_tup, isD_dct_lst, isN_non, isN_bl, isN_int, isN_str, isN_tup, isN_lst, r_intb, bin_ref1, bin_ref2, cmp_ref1, cmp_ref2, bi_ref, idx_ref, slc_ref, r_eq, r_ne, kAnd_bl, kOr_bl, kIte_bl, kTst_bl, kIf_bl, kWTest_bl, kLt2_eq, kNot_eq, kAnd_eq, kOr_eq, kIte_eq, kTup_eq, kLst_eq, kIdx2_dd, vPop_lst, vPop0_lst, vApp_lst, emp_snoc, vExt_lst, m_tidx, idx_tmap, idx_lmap, kDct_eq, kLzip_eq, kTst_eq, kIt_ref, vWk_lst, vWk_lk, kIf_eq, kWTest_eq, kIx2_d, kRw_eq, kGl_some, finish_old, finish_new, vFin_lst, vFin_dct, cLc_nil, cLc_cons, kLc1_eq, kLc2_eq, cFor_nil, cFor_cons, view_d, view_fl, view_ref, vwC_lst, vwC_lk, vwC_dct, viewD_ref, viewD_d, viewD_fl, viewD_fd, vwD_lst, vwD_lk, vwD_dct, views_nil, views_cons, cnsO_some, frzs_nil, frzs_d, cnsF_some, putIx_ref, pIx_s, pIx_i, pIx_l, dGet_hit, dGet_miss, renW_self, renW_d, renW_sq, truW, tup_ok, lst_ok, List.map_cons, List.map_nil, List.all_cons, List.all_nil, List.contains_cons, List.contains_nil, List.elem_nil, List.getD_cons_zero, List.getD_cons_succ, List.getElem?_cons_zero, List.getElem?_cons_succ, List.getElem?_nil, List.set_cons_zero, List.set_cons_succ, List.length_cons, List.length_nil, List.nil_append, List.cons_append, List.append_nil, List.take_zero, List.take_succ_cons, List.take_nil, Bool.true_and, Bool.and_true, Bool.false_and, Bool.and_false, Bool.not_true, Bool.not_false, Bool.true_or, Bool.or_true, decide_eq_true_eq, Bool.not_eq_true', decide_eq_false_iff_not, reduceCtorEq, if_true, if_false, ite_true, ite_false, Bool.false_eq_true, Option.map_some, List.idxOf_cons, beq_self_eq_true, Nat.zero_add, cond_true, cond_false, D.truO, D.tru, List.isEmpty_cons, List.isEmpty_nil, Int.toNat_zero, List.length_map, clearO_nil, clearO_cons, Option.map_none, star_t, star_l, cut_pre, cut_suf, cut_mid, cut_all, take_map, drop_map, b2i_t, b2i_f, cut_tail, drop_one, toNat_1, toNat_2, toNat_3, List.drop_zero, cE_non, cE_bl, cE_int, cE_str, cE_var0, cE_varS, cE_glb, cE_bin, kBin1_eq, cE_neg, kNeg_int, cE_rev, kRev_tup, kRev_lst, kRev_fl, cE_isi, kIsi_d, kIsi_fl, r_isN, r_isNN, r_lts, r_les, r_gts, r_ges, r_addbi, r_strb, r_strs, kMe1_supp, r_in_sl, r_in_st, r_ni_sl, r_ni_st, r_in_it, r_ni_it, cE_unot, kNot_bl, cE_band, cE_bor, cE_cmp, kCmp1_eq, cE_ife, cE_tup, cE_lst, kTup0, kTup1, kTup2, kTup3, kTup4, kTup5, kLst0, kLst1, kLst2, kLst3, kLst4, kLst5, cE_call, cE_bi, cE_idx, kIdx1_eq, cE_slc, kSlc1_eq, kSlc2_eq, kSlc3_lst, kSlc3_fl, kSlc3_tup, kSlc3_sq, cE_meth, cE_dct, cE_mkd, kMkd_lst, cE_lzip, cL_nil, cL_cons, kRow_eq, kCons_d, kCons_ref, kCons_fl, kCons_sq, cO_nop, cO_sb, kSb_int, cP_nil, cP_cons, kPr1_d, kPr2_d, kPr2_fl, kPr3_s, kPr3_i, cT_nil, cT_cons, cI_rng, cI_rng2, cI_zip, kZip_tt, kZip_ll, cI_it, kIt_lst, kIt_tup, kIt_fl, kIt_str, ckd_none, unl_none, cN_0, cN_S, kEn_eq, cB_nm, cB_tup, cBs_nil, cBs_cons, kBs_eq, cE_lc, kLc_eq, kLt1_eq, kLt3_d, kLt3_fl, cG_d, cG_ref, cG_sq, cG_fl, cG_fd, cA_d, cA_ref, cA_fl, cA_fd, cG_pt, cG_unl, cG_star, cG_ix, cG_ixl, kIx1_eq, cS_asg, kAsg_eq, kNx_eq, cS_par, kPar_eq, cR_nil, cR_cons, kRw_nd, kRw_nf, kRw_nr, kRw_ad, kRw_af, kRw_ar, cW_nil, cW_nd, cW_nr, cW_ad, cW_ar, cW_af, kWs_eq, cS_ret, kRt_eq, cS_ex, kEx_eq, cS_if, cS_cons, cS_nil, cS_brk, cS_cnt, cS_pass, kSeq_nx, kSeq_ret, kSeq_bk, kSeq_ct, cS_for, kFor_eq, kBody_eq, kTurn_nx, kTurn_ct, kTurn_bk, kTurn_ret, cS_whl, kWTurn_nx, kWTurn_ct, kWTurn_bk, kWTurn_ret, kFin_ret, kFin_nx, finish_d, finish_fl, finish_fd, finish_sq, r_add, r_addb, r_sub, r_mul, r_div, r_mod, r_pow, r_shl, r_shr, r_and, r_adds, r_addt, r_addl, r_eqi, r_nei, r_eqs, r_nes, r_eqt0, r_net0, r_eql0, r_nel0, r_lt, r_le, r_gt, r_ge, r_lenl, r_lent, r_lens, r_tupl, r_tupt, r_lisl, r_list, r_inti, r_abs, r_max, r_min, t2_0, t2_1, t2_2, t2_3, t2_4, l2_0, l2_1, l2_2, l2_3, kRng_int, kRng2_int, ckd_some, unl_t, unl_f, oK_some, oC_some, oP_some, oW_some, kRet_ok, kLc2_t, kLc2_f, vIdx_dct, vPt_some, vUn_some, kLc3_d, kLc3_fl, kIf_t, kIf_f, kIf_p, kIf_n, kIte_t, kIte_f, kIte_p, kIte_n, kAnd_t, kAnd_f, kAnd_p, kAnd_n, kOr_t, kOr_f, kOr_p, kOr_n, kTst_t, kTst_f, kTst_p, kTst_n, kWTest_p, kWTest_n, kLt2_t, kLt2_f, kLt2_p, kCall_0, kCall_r0, kCall_r1, kCall_r2, kR0_d, kR0_fl, kR0_fd, kR1_d, kR1_fl, kR1_fd, kR1_ref, m_pop1, m_pop0, m_app, vTy_lst, kMe1_pop, kMe1_app, kMe1_ext, kMe1_idx, m_ext, bin_fl1, bin_fl2, vBin_dd, cmp_fl1, cmp_fl2, vCmp_dd, vBi_1, idx_fl, idx_fd, vIdx_dd, vSlc_d, if_fl, st21, st32, r_intt, r_intf, r_intp, r_zipt, idx_lget])
local macro_rules | `(tactic| walk_at "lfs") => `(tactic| simp -implicitDefEqProofs (disch := (first | with_reducible assumption | omega | decide +kernel | (simp only [List.length_cons, List.length_nil, List.length_map, List.length_append, List.length_take, List.length_drop, List.length_reverse, tap_len]; omega) | exact of_decide_eq_true (id rfl) | fail)) only [↓cE_non, ↓cE_bl, ↓cE_int, ↓cE_str, ↓cE_var0, ↓cE_varS, ↓cE_glb, ↓cE_bin, ↓kBin1_eq, ↓cE_neg, ↓kNeg_int, ↓cE_rev, ↓kRev_tup, ↓kRev_lst, ↓kRev_fl, ↓cE_isi, ↓kIsi_d, ↓kIsi_fl, ↓r_isN, ↓r_isNN, ↓r_lts, ↓r_les, ↓r_gts, ↓r_ges, ↓r_addbi, ↓r_strb, ↓r_strs, ↓kMe1_supp, ↓r_in_sl, ↓r_in_st, ↓r_ni_sl, ↓r_ni_st, ↓r_in_it, ↓r_ni_it, ↓cE_unot, ↓kNot_bl, ↓cE_band, ↓cE_bor, ↓cE_cmp, ↓kCmp1_eq, ↓cE_ife, ↓cE_tup, ↓cE_lst, ↓kTup0, ↓kTup1, ↓kTup2, ↓kTup3, ↓kTup4, ↓kTup5, ↓kLst0, ↓kLst1, ↓kLst2, ↓kLst3, ↓kLst4, ↓kLst5, ↓cE_call, ↓cE_bi, ↓cE_idx, ↓kIdx1_eq, ↓cE_slc, ↓kSlc1_eq, ↓kSlc2_eq, ↓kSlc3_lst, ↓kSlc3_fl, ↓kSlc3_tup, ↓kSlc3_sq, ↓cE_meth, ↓cE_dct, ↓cE_mkd, ↓kMkd_lst, ↓cE_lzip, ↓cL_nil, ↓cL_cons, ↓kRow_eq, ↓kCons_d, ↓kCons_ref, ↓kCons_fl, ↓kCons_sq, ↓cO_nop, ↓cO_sb, ↓kSb_int, ↓cP_nil, ↓cP_cons, ↓kPr1_d, ↓kPr2_d, ↓kPr2_fl, ↓kPr3_s, ↓kPr3_i, ↓cT_nil, ↓cT_cons, ↓cI_rng, ↓cI_rng2, ↓cI_zip, ↓kZip_tt, ↓kZip_ll, ↓cI_it, ↓kIt_lst, ↓kIt_tup, ↓kIt_fl, ↓kIt_str, ↓ckd_none, ↓unl_none, ↓cN_0, ↓cN_S, ↓kEn_eq, ↓cB_nm, ↓cB_tup, ↓cBs_nil, ↓cBs_cons, ↓kBs_eq, ↓cE_lc, ↓kLc_eq, ↓kLt1_eq, ↓kLt3_d, ↓kLt3_fl, ↓cG_d, ↓cG_ref, ↓cG_sq, ↓cG_fl, ↓cG_fd, ↓cA_d, ↓cA_ref, ↓cA_fl, ↓cA_fd, ↓cG_pt, ↓cG_unl, ↓cG_star, ↓cG_ix, ↓cG_ixl, ↓kIx1_eq, ↓cS_asg, ↓kAsg_eq, ↓kNx_eq, ↓cS_par, ↓kPar_eq, ↓cR_nil, ↓cR_cons, ↓kRw_nd, ↓kRw_nf, ↓kRw_nr, ↓kRw_ad, ↓kRw_af, ↓kRw_ar, ↓cW_nil, ↓cW_nd, ↓cW_nr, ↓cW_ad, ↓cW_ar, ↓cW_af, ↓kWs_eq, ↓cS_ret, ↓kRt_eq, ↓cS_ex, ↓kEx_eq, ↓cS_if, ↓cS_cons, ↓cS_nil, ↓cS_brk, ↓cS_cnt, ↓cS_pass, ↓kSeq_nx, ↓kSeq_ret, ↓kSeq_bk, ↓kSeq_ct, ↓cS_for, ↓kFor_eq, ↓kBody_eq, ↓kTurn_nx, ↓kTurn_ct, ↓kTurn_bk, ↓kTurn_ret, ↓cS_whl, ↓kWTurn_nx, ↓kWTurn_ct, ↓kWTurn_bk, ↓kWTurn_ret, ↓kFin_ret, ↓kFin_nx, ↓finish_d, ↓finish_fl, ↓finish_fd, ↓finish_sq, ↓r_add, ↓r_addb, ↓r_sub, ↓r_mul, ↓r_div, ↓r_mod, ↓r_pow, ↓r_shl, ↓r_shr, ↓r_and, ↓r_adds, ↓r_addt, ↓r_addl, ↓r_eqi, ↓r_nei, ↓r_eqs, ↓r_nes, ↓r_eqt0, ↓r_net0, ↓r_eql0, ↓r_nel0, ↓r_lt, ↓r_le, ↓r_gt, ↓r_ge, ↓r_lenl, ↓r_lent, ↓r_lens, ↓r_tupl, ↓r_tupt, ↓r_lisl, ↓r_list, ↓r_inti, ↓r_abs, ↓r_max, ↓r_min, ↓t2_0, ↓t2_1, ↓t2_2, ↓t2_3, ↓t2_4, ↓l2_0, ↓l2_1, ↓l2_2, ↓l2_3, ↓kRng_int, ↓kRng2_int, ↓ckd_some, ↓unl_t, ↓unl_f, ↓oK_some, ↓oC_some, ↓oP_some, ↓oW_some, ↓kRet_ok, ↓kLc2_t, ↓kLc2_f, ↓vIdx_dct, ↓vPt_some, ↓vUn_some, ↓kLc3_d, ↓kLc3_fl, ↓kIf_t, ↓kIf_f, ↓kIf_p, ↓kIf_n, ↓kIte_t, ↓kIte_f, ↓kIte_p, ↓kIte_n, ↓kAnd_t, ↓kAnd_f, ↓kAnd_p, ↓kAnd_n, ↓kOr_t, ↓kOr_f, ↓kOr_p, ↓kOr_n, ↓kTst_t, ↓kTst_f, ↓kTst_p, ↓kTst_n, ↓kWTest_p, ↓kWTest_n, ↓kLt2_t, ↓kLt2_f, ↓kLt2_p, ↓kCall_0, ↓kCall_r0, ↓kCall_r1, ↓kCall_r2, ↓kR0_d, ↓kR0_fl, ↓kR0_fd, ↓kR1_d, ↓kR1_fl, ↓kR1_fd, ↓kR1_ref, ↓m_pop1, ↓m_pop0, ↓m_app, ↓vTy_lst, ↓kMe1_pop, ↓kMe1_app, ↓kMe1_ext, ↓kMe1_idx, ↓m_ext, ↓bin_fl1, ↓bin_fl2, ↓vBin_dd, ↓cmp_fl1, ↓cmp_fl2, ↓vCmp_dd, ↓vBi_1, ↓idx_fl, ↓idx_fd, ↓vIdx_dd, ↓vSlc_d, ↓if_fl, ↓st21, ↓st32, ↓r_intt, ↓r_intf, ↓r_intp, ↓r_zipt, ↓odd_ok, ↓if_pos, ↓if_neg, ↓reduceIte, kSlc3_str, r_stri, m_supp, isD_tup_non, isD_tup_bl, isD_tup_int, isD_tup_str, isD_tup_tup, isD_tup_lst, isD_lst_non, isD_lst_bl, isD_lst_int, isD_lst_str, isD_lst_tup, isD_lst_lst, isD_str_non, isD_str_bl, isD_str_int, isD_str_str, isD_str_tup, isD_str_lst, isD_int_non, isD_int_bl, isD_int_int, isD_int_str, isD_int_tup, isD_int_lst, isD_bl_non, isD_bl_bl, isD_bl_int, isD_bl_str, isD_bl_tup, isD_bl_lst, isD_dct_non, isD_dct_bl, isD_dct_int, isD_dct_str, isD_dct_tup, isD_dct_lst, isN_non, isN_bl, isN_int, isN_str, isN_tup, isN_lst, r_intb, bin_ref1, bin_ref2, cmp_ref1, cmp_ref2, bi_ref, idx_ref, slc_ref, r_eq, r_ne, kAnd_bl, kOr_bl, kIte_bl, kTst_bl, kIf_bl, kWTest_bl, kLt2_eq, kNot_eq, kAnd_eq, kOr_eq, kIte_eq, kTup_eq, kLst_eq, kIdx2_dd, vPop_lst, vPop0_lst, vApp_lst, emp_snoc, vExt_lst, m_tidx, idx_tmap, idx_lmap, kDct_eq, kLzip_eq, kTst_eq, kIt_ref, vWk_lst, vWk_lk, kIf_eq, kWTest_eq, kIx2_d, kRw_eq, kGl_some, finish_old, finish_new, vFin_lst, vFin_dct, cLc_nil, cLc_cons, kLc1_eq, kLc2_eq, cFor_nil, cFor_cons, view_d, view_fl, view_ref, vwC_lst, vwC_lk, vwC_dct, viewD_ref, viewD_d, viewD_fl, viewD_fd, vwD_lst, vwD_lk, vwD_dct, views_nil, views_cons, cnsO_some, frzs_nil, frzs_d, cnsF_some, putIx_ref, pIx_s, pIx_i, pIx_l, dGet_hit, dGet_miss, renW_self, renW_d, renW_sq, truW, tup_ok, lst_ok, List.map_cons, List.map_nil, List.all_cons, List.all_nil, List.contains_cons, List.contains_nil, List.elem_nil, List.getD_cons_zero, List.getD_cons_succ, List.getElem?_cons_zero, List.getElem?_cons_succ, List.getElem?_nil, List.set_cons_zero, List.set_cons_succ, List.length_cons, List.length_nil, List.nil_append, List.cons_append, List.append_nil, List.take_zero, List.take_succ_cons, List.take_nil, Bool.true_and, Bool.and_true, Bool.false_and, Bool.and_false, Bool.not_true, Bool.not_false, Bool.true_or, Bool.or_true, decide_eq_true_eq, Bool.not_eq_true', decide_eq_false_iff_not, reduceCtorEq, if_true, if_false, ite_true, ite_false, Bool.false_eq_true, Option.map_some, List.idxOf_cons, beq_self_eq_true, Nat.zero_add, cond_true, cond_false, D.truO, D.tru, List.isEmpty_cons, List.isEmpty_nil, Int.toNat_zero, List.length_map, clearO_nil, clearO_cons, Option.map_none, star_t, star_l, cut_pre, cut_suf, cut_mid, cut_all, take_map, drop_map, b2i_t, b2i_f, cut_tail, drop_one, toNat_1, toNat_2, toNat_3, List.drop_zero, cE_non, cE_bl, cE_int, cE_str, cE_var0, cE_varS, cE_glb, cE_bin, kBin1_eq, cE_neg, kNeg_int, cE_rev, kRev_tup, kRev_lst, kRev_fl, cE_isi, kIsi_d, kIsi_fl, r_isN, r_isNN, r_lts, r_les, r_gts, r_ges, r_addbi, r_strb, r_strs, kMe1_supp, r_in_sl, r_in_st, r_ni_sl, r_ni_st, r_in_it, r_ni_it, cE_unot, kNot_bl, cE_band, cE_bor, cE_cmp, kCmp1_eq, cE_ife, cE_tup, cE_lst, kTup0, kTup1, kTup2, kTup3, kTup4, kTup5, kLst0, kLst1, kLst2, kLst3, kLst4, kLst5, cE_call, cE_bi, cE_idx, kIdx1_eq, cE_slc, kSlc1_eq, kSlc2_eq, kSlc3_lst, kSlc3_fl, kSlc3_tup, kSlc3_sq, cE_meth, cE_dct, cE_mkd, kMkd_lst, cE_lzip, cL_nil, cL_cons, kRow_eq, kCons_d, kCons_ref, kCons_fl, kCons_sq, cO_nop, cO_sb, kSb_int, cP_nil, cP_cons, kPr1_d, kPr2_d, kPr2_fl, kPr3_s, kPr3_i, cT_nil, cT_cons, cI_rng, cI_rng2, cI_zip, kZip_tt, kZip_ll, cI_it, kIt_lst, kIt_tup, kIt_fl, kIt_str, ckd_none, unl_none, cN_0, cN_S, kEn_eq, cB_nm, cB_tup, cBs_nil, cBs_cons, kBs_eq, cE_lc, kLc_eq, kLt1_eq, kLt3_d, kLt3_fl, cG_d, cG_ref, cG_sq, cG_fl, cG_fd, cA_d, cA_ref, cA_fl, cA_fd, cG_pt, cG_unl, cG_star, cG_ix, cG_ixl, kIx1_eq, cS_asg, kAsg_eq, kNx_eq, cS_par, kPar_eq, cR_nil, cR_cons, kRw_nd, kRw_nf, kRw_nr, kRw_ad, kRw_af, kRw_ar, cW_nil, cW_nd, cW_nr, cW_ad, cW_ar, cW_af, kWs_eq, cS_ret, kRt_eq, cS_ex, kEx_eq, cS_if, cS_cons, cS_nil, cS_brk, cS_cnt, cS_pass, kSeq_nx, kSeq_ret, kSeq_bk, kSeq_ct, cS_for, kFor_eq, kBody_eq, kTurn_nx, kTurn_ct, kTurn_bk, kTurn_ret, cS_whl, kWTurn_nx, kWTurn_ct, kWTurn_bk, kWTurn_ret, kFin_ret, kFin_nx, finish_d, finish_fl, finish_fd, finish_sq, r_add, r_addb, r_sub, r_mul, r_div, r_mod, r_pow, r_shl, r_shr, r_and, r_adds, r_addt, r_addl, r_eqi, r_nei, r_eqs, r_nes, r_eqt0, r_net0, r_eql0, r_nel0, r_lt, r_le, r_gt, r_ge, r_lenl, r_lent, r_lens, r_tupl, r_tupt, r_lisl, r_list, r_inti, r_abs, r_max, r_min, t2_0, t2_1, t2_2, t2_3, t2_4, l2_0, l2_1, l2_2, l2_3, kRng_int, kRng2_int, ckd_some, unl_t, unl_f, oK_some, oC_some, oP_some, oW_some, kRet_ok, kLc2_t, kLc2_f, vIdx_dct, vPt_some, vUn_some, kLc3_d, kLc3_fl, kIf_t, kIf_f, kIf_p, kIf_n, kIte_t, kIte_f, kIte_p, kIte_n, kAnd_t, kAnd_f, kAnd_p, kAnd_n, kOr_t, kOr_f, kOr_p, kOr_n, kTst_t, kTst_f, kTst_p, kTst_n, kWTest_p, kWTest_n, kLt2_t, kLt2_f, kLt2_p, kCall_0, kCall_r0, kCall_r1, kCall_r2, kR0_d, kR0_fl, kR0_fd, kR1_d, kR1_fl, kR1_fd, kR1_ref, m_pop1, m_pop0, m_app, vTy_lst, kMe1_pop, kMe1_app, kMe1_ext, kMe1_idx, m_ext, bin_fl1, bin_fl2, vBin_dd, cmp_fl1, cmp_fl2, vCmp_dd, vBi_1, idx_fl, idx_fd, vIdx_dd, vSlc_d, if_fl, st21, st32, r_intt, r_intf, r_intp, r_zipt, idx_lget, *])
def i6 : S := match b6 with
  | .cons a _ => a
  | s => s
def r6 : S := match b6 with
  | .cons _ r => r
  | s => s
theorem flat_ok {n : Nat} {t : Tap} {x : D} {d : Int} {X : Xk (W × Cells)} (hc : 0 ≤ t.calls ∧ t.calls < 40000000) (hl : ∀ xs, x = .tup xs → xs.length ≤ 100000) (hs : ∀ z, x = .str z → z.length ≤ 100000) (hi : ∀ i, x = .int i → i.natAbs.log2 < 1920) :
    cS (fnsN U (n + 2)) X r6 [some (.ref 0), some (.d x), some (.d (.int d)), none, none] [t.c] (kFin 1) = .ok (.d (flat x t).1, [(flat x t).2.c]) := by
  have tk := take_ok (U := U) (n := n + 1) (i := 2) (t := t) (m := 7) rfl (by decide) ⟨by omega, by omega⟩
  have b := Tap.val_b (t := t) (m := 7) (by decide)
  have nc := Tap.nxt_calls (t := t) (m := 7)
  have od := odd_ok (n := n) (t := t.nxt 7) ⟨by omega, by omega⟩
  cases x with
  | non =>
    simp only [r6, b6, flat]
    walk_at "lfs"
  | lst xs =>
    simp only [r6, b6, flat]
    walk_at "lfs"
  | int i =>
    have hi := hi i rfl
    clear hl hs
    simp only [r6, b6, flat]
    by_cases h4 : t.val 7 < 4
    · simp only [if_pos h4]; walk_at "lfs"
    · simp only [if_neg h4]; walk_at "lfs"
  | bl i =>
    simp only [r6, b6, flat]
    by_cases h4 : t.val 7 < 4
    · simp only [if_pos h4]; walk_at "lfs"
    · simp only [if_neg h4]; walk_at "lfs"
  | str z =>
    have hs := hs z rfl
    have sl : z.length + ("a" : Str).length ≤ 16777216 := by
      have : ("a" : Str).length = 1 := rfl
      omega
    clear hl hi
    simp only [r6, b6, flat]
    by_cases h4 : t.val 7 < 3
    · simp only [if_pos h4]; walk_at "lfs"
    · simp only [if_neg h4]; walk_at "lfs"
  | tup xs =>
    have hl := hl xs rfl
    clear hs hi
    have tk2 := take_ok (U := U) (n := n + 1) (i := 2) (t := t.nxt 7) (m := ((xs.length : Nat) : Int) + 1) rfl ⟨by omega, by omega⟩ ⟨by omega, by omega⟩
    have b2 := Tap.val_b (t := t.nxt 7) (m := ((xs.length : Nat) : Int) + 1) (by omega)
    have nc2 := Tap.nxt_calls (t := t.nxt 7) (m := ((xs.length : Nat) : Int) + 1)
    have od2 := odd_ok (n := n) (t := (t.nxt 7).nxt (((xs.length : Nat) : Int) + 1)) ⟨by omega, by omega⟩
    simp only [r6, b6, flat]
    generalize (t.nxt 7).val (((xs.length : Nat) : Int) + 1) = v at *
    have c0 : 0 ≤ v + 1 := by omega
    by_cases h3 : t.val 7 = 3
    · simp only [if_pos h3]; walk_at "lfs" <;> (try split) <;> rfl
    · by_cases h5 : t.val 7 < 5
      · simp only [if_neg h3, if_pos h5]; walk_at "lfs" <;> (try split) <;> rfl
      · simp only [if_neg h3, if_neg h5]; walk_at "lfs" <;> (try split) <;> rfl
end Lf.K04
end

section
set_option maxHeartbeats 4000000
/-! k04: bent things: how great they are, and the walk. -/
namespace Lf.K04
open PySem Lf
def aok (x : Str) : Bool := x.cps.toList.all fun c => decide (c < 128)
mutual
def asc (k : Nat) : D → Bool
  | .int i => decide (i.natAbs ≤ 10 ^ 50 + k)
  | .str x => aok x
  | .tup xs => ascs k xs
  | .lst xs => ascs k xs
  | _ => true
def ascs (k : Nat) : List D → Bool
  | [] => true
  | x :: xs => asc k x && ascs k xs
end
theorem ascs_iff {k : Nat} : ∀ {xs : List D}, ascs k xs = true ↔ ∀ x ∈ xs, asc k x = true
  | [] => by simp [ascs]
  | x :: xs => by simp [ascs, ascs_iff (xs := xs)]
mutual
theorem asc_mono {k l : Nat} (h : k ≤ l) : ∀ x : D, asc k x = true → asc l x = true
  | .int i, q => by simp only [asc, decide_eq_true_eq] at q ⊢; omega
  | .str _, q => q
  | .tup xs, q => by simp only [asc] at q ⊢; exact ascs_mono h xs q
  | .lst xs, q => by simp only [asc] at q ⊢; exact ascs_mono h xs q
  | .non, _ => rfl
  | .bl _, _ => rfl
theorem ascs_mono {k l : Nat} (h : k ≤ l) : ∀ xs : List D, ascs k xs = true → ascs l xs = true
  | [], _ => rfl
  | x :: xs, q => by
    simp only [ascs, Bool.and_eq_true] at q ⊢
    exact ⟨asc_mono h x q.1, ascs_mono h xs q.2⟩
end
theorem log_of {i : Int} {k : Nat} (h : i.natAbs ≤ 10 ^ 50 + k) (hk : k ≤ 1000) : i.natAbs.log2 < 168 := by
  by_cases e : i.natAbs = 0
  · rw [e]; decide
  · exact (Nat.log2_lt e).mpr (by omega)
mutual
theorem asc_tame {k : Nat} (hk : k ≤ 1000) : ∀ x : D, asc k x = true → x.tame = true
  | .int i, q => by
    simp only [asc, D.tame, decide_eq_true_eq] at q ⊢
    have := log_of q hk
    omega
  | .str x, q => by
    simp only [asc, aok, D.tame, List.all_eq_true, decide_eq_true_eq] at q ⊢
    intro c hc
    have := q c hc
    omega
  | .tup xs, q => by simp only [asc, D.tame] at q ⊢; exact ascs_tame hk xs q
  | .lst xs, q => by simp only [asc, D.tame] at q ⊢; exact ascs_tame hk xs q
  | .non, _ => rfl
  | .bl _, _ => rfl
theorem ascs_tame {k : Nat} (hk : k ≤ 1000) : ∀ xs : List D, ascs k xs = true → D.tames xs = true
  | [], _ => rfl
  | x :: xs, q => by
    simp only [ascs, D.tames, Bool.and_eq_true] at q ⊢
    exact ⟨asc_tame hk x q.1, ascs_tame hk xs q.2⟩
end
theorem ubs_app : ∀ (a b : List D), D.ubs (a ++ b) = D.ubs a + D.ubs b
  | [], b => by simp [D.ubs]
  | x :: a, b => by simp only [List.cons_append, D.ubs, ubs_app a b]; omega
theorem ubs_rev : ∀ a : List D, D.ubs a.reverse = D.ubs a
  | [] => rfl
  | x :: a => by rw [List.reverse_cons, ubs_app, ubs_rev a]; simp only [D.ubs]; omega
theorem ubs_mem {x : D} : ∀ {xs : List D}, x ∈ xs → x.ub + 2 ≤ D.ubs xs
  | y :: ys, h => by
    simp only [D.ubs]
    cases h with
    | head => omega
    | tail _ h => have := ubs_mem h; omega
theorem ubs_td (xs : List D) (n : Nat) : D.ubs (xs.take n) + D.ubs (xs.drop n) = D.ubs xs := by rw [← ubs_app, List.take_append_drop]
theorem ubs_drop1 (xs : List D) (n : Nat) : D.ubs (xs.drop (n + 1)) ≤ D.ubs (xs.drop n) := by
  by_cases h : n < xs.length
  · rw [List.drop_eq_getElem_cons h]; simp only [D.ubs]; omega
  · rw [List.drop_eq_nil_of_le (by omega)]; simp [D.ubs]
theorem ubs_len : ∀ xs : List D, 2 * xs.length ≤ D.ubs xs
  | [] => by simp
  | x :: xs => by have := ubs_len xs; simp only [D.ubs, List.length_cons]; omega
theorem deps_le {n : Nat} : ∀ {xs : List D}, (∀ x ∈ xs, x.dep ≤ n) → D.deps xs ≤ n
  | [], _ => by simp [D.deps]
  | x :: xs, h => by
    have := deps_le fun y hy => h y (List.mem_cons_of_mem _ hy)
    have := h x List.mem_cons_self
    simp only [D.deps]; omega
theorem getD_or {α : Type} (d : α) : ∀ (xs : List α) (i : Nat), xs.getD i d ∈ xs ∨ xs.getD i d = d
  | [], i => .inr (by simp)
  | x :: xs, 0 => .inl (by simp)
  | x :: xs, i + 1 => by
    rcases getD_or d xs i with h | h
    · exact .inl (List.mem_cons_of_mem _ (by simpa using h))
    · exact .inr (by simpa using h)
/-- how great a thing is -/
structure Bd (k d u : Nat) (x : D) : Prop where
  a : asc k x = true
  d : x.dep ≤ d
  u : x.ub ≤ u
theorem Bd.mono {k d u k' d' u' : Nat} {x : D} (h : Bd k d u x) (h1 : k ≤ k') (h2 : d ≤ d') (h3 : u ≤ u') : Bd k' d' u' x := ⟨asc_mono h1 x h.a, Nat.le_trans h.d h2, Nat.le_trans h.u h3⟩
theorem odd_bd {t : Tap} : Bd 0 1 300 (Tap.odd t).1 := by
  have key : ∀ x ∈ odds, asc 0 x = true ∧ x.dep ≤ 1 ∧ x.ub ≤ 300 := by decide +kernel
  rcases getD_or D.non odds (t.val 16).toNat with h | h
  · have := key _ h; exact ⟨this.1, this.2.1, this.2.2⟩
  · show Bd 0 1 300 (odds.getD (t.val 16).toNat .non)
    rw [h]; exact ⟨rfl, by decide, by decide⟩
theorem odd_calls {t : Tap} : (Tap.odd t).2.calls = t.calls + 1 := Tap.nxt_calls
theorem tup_bd {k d u : Nat} {xs : List D} (h1 : ∀ x ∈ xs, asc k x = true) (h2 : ∀ x ∈ xs, x.dep ≤ d) (h3 : D.ubs xs + 3 ≤ u) : Bd k (d + 1) u (.tup xs) :=
  ⟨by simp only [asc]; exact ascs_iff.mpr h1, by simp only [D.dep]; have := deps_le h2; omega, by simpa only [D.ub] using h3⟩
theorem up1_small {c : Nat} (h : c < 128) : PyProof.Rows.up1 c < 128 := by unfold PyProof.Rows.up1; split <;> omega
theorem str_app_ok {x y : Str} (h1 : aok x = true) (h2 : aok y = true) : aok (x ++ y) = true := by
  have e : (x ++ y).cps.toList = x.cps.toList ++ y.cps.toList := by
    show (x.cps ++ y.cps).toList = _
    simp
  simp only [aok] at h1 h2 ⊢
  rw [e, List.all_append, h1, h2]; rfl
theorem int_aok (i : Int) : aok ((toString i : String) : Str) = true := by
  have h := PyProof.Rows.int_sign i
  have e : (Str.ofString (toString i)).cps.toList = (toString i).toList.map Char.toNat := by
    rw [PySem.Str.ofString_eq_toList]
  simp only [aok, List.all_eq_true, decide_eq_true_eq]
  show ∀ c ∈ (Str.ofString (toString i)).cps.toList, c < 128
  rw [e]
  intro c hc
  obtain ⟨ch, hch, rfl⟩ := List.mem_map.mp hc
  rcases h ch hch with h | h
  · simp only [Char.isDigit, Bool.and_eq_true, decide_eq_true_eq] at h
    have h2 := h.2
    have : ch.val.toNat ≤ 57 := h2
    show ch.val.toNat < 128
    omega
  · subst h; decide
theorem flat_bd {k d u : Nat} {x : D} {t : Tap} (hk : k ≤ 500) (h : Bd k d u x) : Bd (k + 1) (d + 2) (2 * u + 2500) (flat x t).1 := by
  have od : ∀ t, Bd (k + 1) (d + 2) (2 * u + 2500) (Tap.odd t).1 := fun t => (odd_bd (t := t)).mono (by omega) (by omega) (by omega)
  have nn : Bd (k + 1) (d + 2) (2 * u + 2500) .non := ⟨rfl, by simp [D.dep], by simp [D.ub]⟩
  have bb : ∀ b, Bd (k + 1) (d + 2) (2 * u + 2500) (.bl b) := fun b => ⟨rfl, by simp [D.dep], by simp [D.ub]⟩
  have up := h.mono (k' := k + 1) (d' := d + 2) (u' := 2 * u + 2500) (by omega) (by omega) (by omega)
  cases x with
  | non => exact od _
  | lst xs => exact od _
  | int i =>
    have hi := h.a
    have hu := h.u
    simp only [asc, decide_eq_true_eq] at hi
    simp only [D.ub] at hu
    have ii : ∀ j : Int, j.natAbs ≤ i.natAbs + 1 → Bd (k + 1) (d + 2) (2 * u + 2500) (.int j) := fun j hj => by
      have hj' : j.natAbs ≤ 10 ^ 50 + (k + 1) := by omega
      have := log_of hj' (by omega)
      exact ⟨by simp only [asc, decide_eq_true_eq]; exact hj', by simp [D.dep], by simp only [D.ub]; omega⟩
    have ss : Bd (k + 1) (d + 2) (2 * u + 2500) (.str ((toString i : String) : Str)) := by
      refine ⟨int_aok i, by simp [D.dep], ?_⟩
      have l := log_of hi (by omega)
      have := PySem.int_text_length_le (a := i) (k := i.natAbs.log2 + 1) (by omega) (by omega)
      have e : (Str.ofString (toString i)).length = (toString i).length := by rw [PySem.ofString_length]
      show 10 * (Str.ofString (toString i)).length + 2 ≤ _
      omega
    simp only [flat]
    split
    · have sm := ii (i + 1) (by omega)
      have s0 := ii i (by omega)
      rcases getD_or D.non [.int (i + 1), .bl (decide (i = 0)), .int i, .str (toString i)] (t.val 7).toNat with q | q
      · simp only [List.mem_cons, List.not_mem_nil, or_false] at q
        dsimp only
        rcases q with q | q | q | q <;> rw [q]
        · exact sm
        · exact bb _
        · exact s0
        · exact ss
      · dsimp only; rw [q]; exact nn
    · exact od _
  | bl b =>
    have ii : ∀ j : Int, j.natAbs ≤ 2 → Bd (k + 1) (d + 2) (2 * u + 2500) (.int j) := fun j hj => by
      have hj' : j.natAbs ≤ 10 ^ 50 + (k + 1) := by omega
      have := log_of hj' (by omega)
      exact ⟨by simp only [asc, decide_eq_true_eq]; exact hj', by simp [D.dep], by simp only [D.ub]; omega⟩
    have ss : Bd (k + 1) (d + 2) (2 * u + 2500) (.str (if b = true then "True" else "False")) := by
      have q : aok (if b = true then "True" else "False") = true ∧ (D.str (if b = true then "True" else "False")).ub ≤ 100 := by cases b <;> decide +kernel
      exact ⟨q.1, by simp [D.dep], Nat.le_trans q.2 (by omega)⟩
    simp only [flat]
    split
    · have sm := ii (b2i b + 1) (by cases b <;> decide)
      have s0 := ii (b2i b) (by cases b <;> decide)
      rcases getD_or D.non [.int (b2i b + 1), .bl (D.eq (.bl b) (.int 0)), .int (b2i b), .str (if b = true then "True" else "False")] (t.val 7).toNat with q | q
      · simp only [List.mem_cons, List.not_mem_nil, or_false] at q
        dsimp only
        rcases q with q | q | q | q <;> rw [q]
        · exact sm
        · exact bb _
        · exact s0
        · exact ss
      · dsimp only; rw [q]; exact nn
    · exact od _
  | str z =>
    have hz := h.a
    have hu := h.u
    simp only [asc] at hz
    simp only [D.ub] at hu
    simp only [flat]
    split
    · have s1 : Bd (k + 1) (d + 2) (2 * u + 2500) (.str (z ++ "a")) := by
        refine ⟨str_app_ok hz (by decide +kernel), by simp [D.dep], ?_⟩
        simp only [D.ub]
        have e : (z ++ ("a" : Str)).length = z.length + ("a" : Str).length := len_app z "a"
        have e1 : ("a" : Str).length = 1 := rfl
        rw [e, e1]; omega
      have s2 : Bd (k + 1) (d + 2) (2 * u + 2500) (.str ⟨(z.cps.toList.drop 1).toArray⟩) := by
        refine ⟨?_, by simp [D.dep], ?_⟩
        · simp only [asc, aok, List.all_eq_true] at hz ⊢
          intro c hc
          exact hz c (List.mem_of_mem_drop hc)
        · simp only [D.ub]
          have : (⟨(z.cps.toList.drop 1).toArray⟩ : Str).length = z.length - 1 := by
            show (z.cps.toList.drop 1).toArray.size = z.cps.size - 1
            simp
          rw [this]; omega
      have s3 : Bd (k + 1) (d + 2) (2 * u + 2500) (.str (PySem.Txt.upper z)) := by
        have hz' : ∀ c ∈ z.cps.toList, c < 128 := by simpa only [aok, List.all_eq_true, decide_eq_true_eq] using hz
        rw [PyProof.Rows.upper_ascii hz']
        refine ⟨?_, by simp [D.dep], ?_⟩
        · simp only [asc, aok, Array.toList_map, List.all_eq_true, decide_eq_true_eq]
          intro c hc
          obtain ⟨b, hb, rfl⟩ := List.mem_map.mp hc
          exact up1_small (hz' b hb)
        · simp only [D.ub]
          have : (⟨z.cps.map PyProof.Rows.up1⟩ : Str).length = z.length := by
            show (z.cps.map PyProof.Rows.up1).size = z.cps.size
            simp
          rw [this]; omega
      rcases getD_or D.non [.str (z ++ "a"), .str ⟨(z.cps.toList.drop 1).toArray⟩, .str (PySem.Txt.upper z)] (t.val 7).toNat with q | q
      · simp only [List.mem_cons, List.not_mem_nil, or_false] at q
        dsimp only
        rcases q with q | q | q <;> rw [q]
        · exact s1
        · exact s2
        · exact s3
      · dsimp only; rw [q]; exact nn
    · exact od _
  | tup xs =>
    have ha := h.a
    have hd := h.d
    have hu := h.u
    simp only [asc] at ha
    simp only [D.dep] at hd
    simp only [D.ub] at hu
    have ha' := ascs_iff.mp ha
    have am : ∀ x ∈ xs, asc (k + 1) x = true := fun x hx => asc_mono (by omega) x (ha' x hx)
    have dm : ∀ x ∈ xs, x.dep ≤ d + 1 := fun x hx => by have := dep_of hx; omega
    generalize hv : (t.nxt 7).val (xs.length + 1) = v
    have td := ubs_td xs v.toNat
    simp only [flat, hv]
    split
    · have o := odd_bd (t := (t.nxt 7).nxt (xs.length + 1))
      refine tup_bd (d := d + 1) ?_ ?_ ?_
      · intro x hx
        simp only [List.mem_append, List.mem_cons, List.not_mem_nil, or_false] at hx
        rcases hx with (hx | rfl) | hx
        · exact am x (List.mem_of_mem_take hx)
        · exact asc_mono (by omega) _ o.a
        · exact am x (List.mem_of_mem_drop hx)
      · intro x hx
        simp only [List.mem_append, List.mem_cons, List.not_mem_nil, or_false] at hx
        rcases hx with (hx | rfl) | hx
        · exact dm x (List.mem_of_mem_take hx)
        · exact Nat.le_trans o.d (by omega)
        · exact dm x (List.mem_of_mem_drop hx)
      · have := o.u
        rw [ubs_app, ubs_app]; simp only [D.ubs]; omega
    · split
      · have s0 : Bd (k + 1) (d + 2) (2 * u + 2500) (.lst xs) := ⟨by simp only [asc]; exact ascs_iff.mpr am, by simp only [D.dep]; omega, by simp only [D.ub]; omega⟩
        have s1 : Bd (k + 1) (d + 2) (2 * u + 2500) (.tup (xs.take v.toNat ++ xs.drop (v + 1).toNat)) := by
          refine tup_bd (d := d + 1) ?_ ?_ ?_
          · intro x hx
            simp only [List.mem_append] at hx
            rcases hx with hx | hx
            · exact am x (List.mem_of_mem_take hx)
            · exact am x (List.mem_of_mem_drop hx)
          · intro x hx
            simp only [List.mem_append] at hx
            rcases hx with hx | hx
            · exact dm x (List.mem_of_mem_take hx)
            · exact dm x (List.mem_of_mem_drop hx)
          · have t1 := ubs_td xs (v + 1).toNat
            rw [ubs_app]; omega
        have s2 : Bd (k + 1) (d + 2) (2 * u + 2500) (.tup (xs.take v.toNat ++ (xs.drop v.toNat).take ((v + 1).toNat - v.toNat) ++ xs.drop v.toNat)) := by
          refine tup_bd (d := d + 1) ?_ ?_ ?_
          · intro x hx
            simp only [List.mem_append] at hx
            rcases hx with (hx | hx) | hx
            · exact am x (List.mem_of_mem_take hx)
            · exact am x (List.mem_of_mem_drop (List.mem_of_mem_take hx))
            · exact am x (List.mem_of_mem_drop hx)
          · intro x hx
            simp only [List.mem_append] at hx
            rcases hx with (hx | hx) | hx
            · exact dm x (List.mem_of_mem_take hx)
            · exact dm x (List.mem_of_mem_drop (List.mem_of_mem_take hx))
            · exact dm x (List.mem_of_mem_drop hx)
          · have t1 := ubs_td (xs.drop v.toNat) ((v + 1).toNat - v.toNat)
            rw [ubs_app, ubs_app]; omega
        have s3 : Bd (k + 1) (d + 2) (2 * u + 2500) (.tup []) := ⟨rfl, by simp [D.dep, D.deps], by simp [D.ub, D.ubs]⟩
        have s4 : Bd (k + 1) (d + 2) (2 * u + 2500) (.tup xs.reverse) := tup_bd (d := d + 1) (fun x hx => am x (List.mem_reverse.mp hx)) (fun x hx => dm x (List.mem_reverse.mp hx)) (by rw [ubs_rev]; omega)
        rcases getD_or D.non [.lst xs, .tup (xs.take v.toNat ++ xs.drop (v + 1).toNat), .tup (xs.take v.toNat ++ (xs.drop v.toNat).take ((v + 1).toNat - v.toNat) ++ xs.drop v.toNat), .tup [], .tup xs.reverse] (t.val 7).toNat with q | q
        · simp only [List.mem_cons, List.not_mem_nil, or_false] at q
          dsimp only
          rcases q with q | q | q | q | q <;> rw [q]
          · exact s0
          · exact s1
          · exact s2
          · exact s3
          · exact s4
        · dsimp only; rw [q]; exact nn
      · exact od _
theorem flat_calls {x : D} {t : Tap} : t.calls ≤ (flat x t).2.calls ∧ (flat x t).2.calls ≤ t.calls + 3 := by
  unfold flat
  split
  · split
    · simp only [odd_calls, Tap.nxt_calls]; omega
    · split
      · simp only [Tap.nxt_calls]; omega
      · simp only [odd_calls, Tap.nxt_calls]; omega
  · split <;> simp only [odd_calls, Tap.nxt_calls] <;> omega
  · split <;> simp only [odd_calls, Tap.nxt_calls] <;> omega
  · split <;> simp only [odd_calls, Tap.nxt_calls] <;> omega
  · simp only [odd_calls, Tap.nxt_calls]; omega
theorem bend_calls : ∀ (d : Nat) (x : D) (t : Tap), t.calls ≤ (bend d x t).2.calls ∧ (bend d x t).2.calls ≤ t.calls + 2 * d + 3
  | 0, x, t => by have := flat_calls (x := x) (t := t); simp only [bend]; omega
  | d + 1, .tup (y :: ys), t => by
    simp only [bend]
    split
    · have := bend_calls d ((y :: ys).getD ((t.nxt 3).val (y :: ys).length).toNat .non) ((t.nxt 3).nxt (y :: ys).length)
      simp only [Tap.nxt_calls] at this
      dsimp only
      omega
    · have := flat_calls (x := .tup (y :: ys)) (t := t.nxt 3)
      simp only [Tap.nxt_calls] at this
      omega
  | d + 1, .tup [], t => by have := flat_calls (x := .tup []) (t := t); simp only [bend]; omega
  | d + 1, .non, t => by have := flat_calls (x := .non) (t := t); simp only [bend]; omega
  | d + 1, .bl b, t => by have := flat_calls (x := .bl b) (t := t); simp only [bend]; omega
  | d + 1, .int b, t => by have := flat_calls (x := .int b) (t := t); simp only [bend]; omega
  | d + 1, .str b, t => by have := flat_calls (x := .str b) (t := t); simp only [bend]; omega
  | d + 1, .lst b, t => by have := flat_calls (x := .lst b) (t := t); simp only [bend]; omega
theorem bend_bd {k : Nat} (hk : k ≤ 500) : ∀ (n d u : Nat) (x : D) (t : Tap), Bd k d u x → Bd (k + 1) (d + 2) (2 * u + 2500) (bend n x t).1
  | 0, d, u, x, t, h => by simp only [bend]; exact flat_bd hk h
  | n + 1, d, u, .tup [], t, h => by simp only [bend]; exact flat_bd hk h
  | n + 1, d, u, .non, t, h => by simp only [bend]; exact flat_bd hk h
  | n + 1, d, u, .bl _, t, h => by simp only [bend]; exact flat_bd hk h
  | n + 1, d, u, .int _, t, h => by simp only [bend]; exact flat_bd hk h
  | n + 1, d, u, .str _, t, h => by simp only [bend]; exact flat_bd hk h
  | n + 1, d, u, .lst _, t, h => by simp only [bend]; exact flat_bd hk h
  | n + 1, d, u, .tup (y :: ys), t, h => by
    simp only [bend]
    split
    · have b := Tap.val_b (t := t.nxt 3) (m := ((y :: ys).length : Nat)) (by simp only [List.length_cons]; omega)
      generalize (t.nxt 3).val ((y :: ys).length : Nat) = v at b ⊢
      generalize (t.nxt 3).nxt ((y :: ys).length : Nat) = t'
      have ha := h.a
      have hd := h.d
      have hu := h.u
      simp only [asc] at ha
      simp only [D.dep] at hd
      simp only [D.ub] at hu
      have ha' := ascs_iff.mp ha
      revert b ha' hd hu
      generalize y :: ys = xs
      intro b hd hu ha'
      have lt : v.toNat < xs.length := by omega
      have e1 : (v + 1).toNat = v.toNat + 1 := by omega
      have eg : xs.getD v.toNat .non = xs[v.toNat] := by simp [List.getD_eq_getElem?_getD, List.getElem?_eq_getElem lt]
      have mem : xs[v.toNat] ∈ xs := List.getElem_mem lt
      have dd := dep_of mem
      have h0 : Bd k (d - 1) (xs[v.toNat]).ub xs[v.toNat] := ⟨ha' _ mem, by omega, Nat.le_refl _⟩
      have ih := bend_bd hk n (d - 1) (xs[v.toNat]).ub xs[v.toNat] t' h0
      rw [eg, e1]
      have cut : D.ubs (xs.take v.toNat) + ((xs[v.toNat]).ub + 2 + D.ubs (xs.drop (v.toNat + 1))) = D.ubs xs := by
        have := ubs_td xs v.toNat
        rw [List.drop_eq_getElem_cons lt] at this
        simpa only [D.ubs] using this
      refine tup_bd (d := d + 1) ?_ ?_ ?_
      · intro x hx
        simp only [List.mem_append, List.mem_cons, List.not_mem_nil, or_false] at hx
        rcases hx with (hx | rfl) | hx
        · exact asc_mono (by omega) x (ha' x (List.mem_of_mem_take hx))
        · exact ih.a
        · exact asc_mono (by omega) x (ha' x (List.mem_of_mem_drop hx))
      · intro x hx
        simp only [List.mem_append, List.mem_cons, List.not_mem_nil, or_false] at hx
        rcases hx with (hx | rfl) | hx
        · have := dep_of (List.mem_of_mem_take hx); omega
        · have := ih.d; omega
        · have := dep_of (List.mem_of_mem_drop hx); omega
      · have := ih.u
        rw [ubs_app, ubs_app]; simp only [D.ubs]; omega
    · exact flat_bd hk h
end Lf.K04
end

section
set_option maxHeartbeats 4000000
/-! k04: the walk of what bends, what is near, the chain. -/
namespace Lf.K04
open PySem Lf
theorem e6 : b6 = .cons i6 r6 := rfl
theorem idx_tget {xs : List D} {i : Int} (h : 0 ≤ i ∧ i < xs.length) : idxD (.tup xs) (.int i) = some (xs.getD i.toNat .non) := by
  rw [idx_tnn h, List.getElem?_eq_getElem (by omega : i.toNat < xs.length)]
  simp [List.getD_eq_getElem?_getD, List.getElem?_eq_getElem (by omega : i.toNat < xs.length)]
theorem bd_flat {k d u : Nat} {x : D} (h : Bd k d u x) (hk : k ≤ 500) (hu : u ≤ 100000) : (∀ xs, x = .tup xs → xs.length ≤ 100000) ∧ (∀ z, x = .str z → z.length ≤ 100000) ∧ (∀ i, x = .int i → i.natAbs.log2 < 1920) := by
  have h3 := h.u
  refine ⟨?_, ?_, ?_⟩
  · rintro xs rfl
    simp only [D.ub] at h3
    have := ubs_len xs
    omega
  · rintro z rfl
    simp only [D.ub] at h3
    omega
  · rintro i rfl
    have h1 := h.a
    simp only [asc, decide_eq_true_eq] at h1
    have := log_of h1 (by omega)
    omega
local macro_rules | `(tactic| walk_at "lf") => `(tactic| simp -implicitDefEqProofs (disch := (first | with_reducible assumption | omega | decide +kernel | (simp only [List.length_cons, List.length_nil, List.length_map, List.length_append, List.length_take, List.length_drop, List.length_reverse, tap_len]; omega) | exact of_decide_eq_true (id rfl) | fail)) only [↓cE_non, ↓cE_bl, ↓cE_int, ↓cE_str, ↓cE_var0, ↓cE_varS, ↓cE_glb, ↓cE_bin, ↓kBin1_eq, ↓cE_neg, ↓kNeg_int, ↓cE_rev, ↓kRev_tup, ↓kRev_lst, ↓kRev_fl, ↓cE_isi, ↓kIsi_d, ↓kIsi_fl, ↓r_isN, ↓r_isNN, ↓r_lts, ↓r_les, ↓r_gts, ↓r_ges, ↓r_addbi, ↓r_strb, ↓r_strs, ↓kMe1_supp, ↓r_in_sl, ↓r_in_st, ↓r_ni_sl, ↓r_ni_st, ↓r_in_it, ↓r_ni_it, ↓cE_unot, ↓kNot_bl, ↓cE_band, ↓cE_bor, ↓cE_cmp, ↓kCmp1_eq, ↓cE_ife, ↓cE_tup, ↓cE_lst, ↓kTup0, ↓kTup1, ↓kTup2, ↓kTup3, ↓kTup4, ↓kTup5, ↓kLst0, ↓kLst1, ↓kLst2, ↓kLst3, ↓kLst4, ↓kLst5, ↓cE_call, ↓cE_bi, ↓cE_idx, ↓kIdx1_eq, ↓cE_slc, ↓kSlc1_eq, ↓kSlc2_eq, ↓kSlc3_lst, ↓kSlc3_fl, ↓kSlc3_tup, ↓kSlc3_sq, ↓cE_meth, ↓cE_dct, ↓cE_mkd, ↓kMkd_lst, ↓cE_lzip, ↓cL_nil, ↓cL_cons, ↓kRow_eq, ↓kCons_d, ↓kCons_ref, ↓kCons_fl, ↓kCons_sq, ↓cO_nop, ↓cO_sb, ↓kSb_int, ↓cP_nil, ↓cP_cons, ↓kPr1_d, ↓kPr2_d, ↓kPr2_fl, ↓kPr3_s, ↓kPr3_i, ↓cT_nil, ↓cT_cons, ↓cI_rng, ↓cI_rng2, ↓cI_zip, ↓kZip_tt, ↓kZip_ll, ↓cI_it, ↓kIt_lst, ↓kIt_tup, ↓kIt_fl, ↓kIt_str, ↓ckd_none, ↓unl_none, ↓cN_0, ↓cN_S, ↓kEn_eq, ↓cB_nm, ↓cB_tup, ↓cBs_nil, ↓cBs_cons, ↓kBs_eq, ↓cE_lc, ↓kLc_eq, ↓kLt1_eq, ↓kLt3_d, ↓kLt3_fl, ↓cG_d, ↓cG_ref, ↓cG_sq, ↓cG_fl, ↓cG_fd, ↓cA_d, ↓cA_ref, ↓cA_fl, ↓cA_fd, ↓cG_pt, ↓cG_unl, ↓cG_star, ↓cG_ix, ↓cG_ixl, ↓kIx1_eq, ↓cS_asg, ↓kAsg_eq, ↓kNx_eq, ↓cS_par, ↓kPar_eq, ↓cR_nil, ↓cR_cons, ↓kRw_nd, ↓kRw_nf, ↓kRw_nr, ↓kRw_ad, ↓kRw_af, ↓kRw_ar, ↓cW_nil, ↓cW_nd, ↓cW_nr, ↓cW_ad, ↓cW_ar, ↓cW_af, ↓kWs_eq, ↓cS_ret, ↓kRt_eq, ↓cS_ex, ↓kEx_eq, ↓cS_if, ↓cS_cons, ↓cS_nil, ↓cS_brk, ↓cS_cnt, ↓cS_pass, ↓kSeq_nx, ↓kSeq_ret, ↓kSeq_bk, ↓kSeq_ct, ↓cS_for, ↓kFor_eq, ↓kBody_eq, ↓kTurn_nx, ↓kTurn_ct, ↓kTurn_bk, ↓kTurn_ret, ↓cS_whl, ↓kWTurn_nx, ↓kWTurn_ct, ↓kWTurn_bk, ↓kWTurn_ret, ↓kFin_ret, ↓kFin_nx, ↓finish_d, ↓finish_fl, ↓finish_fd, ↓finish_sq, ↓r_add, ↓r_addb, ↓r_sub, ↓r_mul, ↓r_div, ↓r_mod, ↓r_pow, ↓r_shl, ↓r_shr, ↓r_and, ↓r_adds, ↓r_addt, ↓r_addl, ↓r_eqi, ↓r_nei, ↓r_eqs, ↓r_nes, ↓r_eqt0, ↓r_net0, ↓r_eql0, ↓r_nel0, ↓r_lt, ↓r_le, ↓r_gt, ↓r_ge, ↓r_lenl, ↓r_lent, ↓r_lens, ↓r_tupl, ↓r_tupt, ↓r_lisl, ↓r_list, ↓r_inti, ↓r_abs, ↓r_max, ↓r_min, ↓t2_0, ↓t2_1, ↓t2_2, ↓t2_3, ↓t2_4, ↓l2_0, ↓l2_1, ↓l2_2, ↓l2_3, ↓kRng_int, ↓kRng2_int, ↓ckd_some, ↓unl_t, ↓unl_f, ↓oK_some, ↓oC_some, ↓oP_some, ↓oW_some, ↓kRet_ok, ↓kLc2_t, ↓kLc2_f, ↓vIdx_dct, ↓vPt_some, ↓vUn_some, ↓kLc3_d, ↓kLc3_fl, ↓kIf_t, ↓kIf_f, ↓kIf_p, ↓kIf_n, ↓kIte_t, ↓kIte_f, ↓kIte_p, ↓kIte_n, ↓kAnd_t, ↓kAnd_f, ↓kAnd_p, ↓kAnd_n, ↓kOr_t, ↓kOr_f, ↓kOr_p, ↓kOr_n, ↓kTst_t, ↓kTst_f, ↓kTst_p, ↓kTst_n, ↓kWTest_p, ↓kWTest_n, ↓kLt2_t, ↓kLt2_f, ↓kLt2_p, ↓kCall_0, ↓kCall_r0, ↓kCall_r1, ↓kCall_r2, ↓kR0_d, ↓kR0_fl, ↓kR0_fd, ↓kR1_d, ↓kR1_fl, ↓kR1_fd, ↓kR1_ref, ↓m_pop1, ↓m_pop0, ↓m_app, ↓vTy_lst, ↓kMe1_pop, ↓kMe1_app, ↓kMe1_ext, ↓kMe1_idx, ↓m_ext, ↓bin_fl1, ↓bin_fl2, ↓vBin_dd, ↓cmp_fl1, ↓cmp_fl2, ↓vCmp_dd, ↓vBi_1, ↓idx_fl, ↓idx_fd, ↓vIdx_dd, ↓vSlc_d, ↓if_fl, ↓st21, ↓st32, ↓r_intt, ↓r_intf, ↓r_intp, ↓r_zipt, ↓if_pos, ↓if_neg, ↓reduceIte, kSlc3_str, r_stri, m_supp, isD_tup_non, isD_tup_bl, isD_tup_int, isD_tup_str, isD_tup_tup, isD_tup_lst, isD_lst_non, isD_lst_bl, isD_lst_int, isD_lst_str, isD_lst_tup, isD_lst_lst, isD_str_non, isD_str_bl, isD_str_int, isD_str_str, isD_str_tup, isD_str_lst, isD_int_non, isD_int_bl, isD_int_int, isD_int_str, isD_int_tup, isD_int_lst, isD_bl_non, isD_bl_bl, isD_bl_int, isD_bl_str, isD_bl_tup, isD_bl_lst, isD_dct_non, isD_dct_bl, isD_dct_int, isD_dct_str, isD_dct_tup, isD_dct_lst, isN_non, isN_bl, isN_int, isN_str, isN_tup, isN_lst, r_intb, bin_ref1, bin_ref2, cmp_ref1, cmp_ref2, bi_ref, idx_ref, slc_ref, r_eq, r_ne, kAnd_bl, kOr_bl, kIte_bl, kTst_bl, kIf_bl, kWTest_bl, kLt2_eq, kNot_eq, kAnd_eq, kOr_eq, kIte_eq, kTup_eq, kLst_eq, kIdx2_dd, vPop_lst, vPop0_lst, vApp_lst, emp_snoc, vExt_lst, m_tidx, idx_tmap, idx_lmap, kDct_eq, kLzip_eq, kTst_eq, kIt_ref, vWk_lst, vWk_lk, kIf_eq, kWTest_eq, kIx2_d, kRw_eq, kGl_some, finish_old, finish_new, vFin_lst, vFin_dct, cLc_nil, cLc_cons, kLc1_eq, kLc2_eq, cFor_nil, cFor_cons, view_d, view_fl, view_ref, vwC_lst, vwC_lk, vwC_dct, viewD_ref, viewD_d, viewD_fl, viewD_fd, vwD_lst, vwD_lk, vwD_dct, views_nil, views_cons, cnsO_some, frzs_nil, frzs_d, cnsF_some, putIx_ref, pIx_s, pIx_i, pIx_l, dGet_hit, dGet_miss, renW_self, renW_d, renW_sq, truW, tup_ok, lst_ok, List.map_cons, List.map_nil, List.all_cons, List.all_nil, List.contains_cons, List.contains_nil, List.elem_nil, List.getD_cons_zero, List.getD_cons_succ, List.getElem?_cons_zero, List.getElem?_cons_succ, List.getElem?_nil, List.set_cons_zero, List.set_cons_succ, List.length_cons, List.length_nil, List.nil_append, List.cons_append, List.append_nil, List.take_zero, List.take_succ_cons, List.take_nil, Bool.true_and, Bool.and_true, Bool.false_and, Bool.and_false, Bool.not_true, Bool.not_false, Bool.true_or, Bool.or_true, decide_eq_true_eq, Bool.not_eq_true', decide_eq_false_iff_not, reduceCtorEq, if_true, if_false, ite_true, ite_false, Bool.false_eq_true, Option.map_some, List.idxOf_cons, beq_self_eq_true, Nat.zero_add, cond_true, cond_false, D.truO, D.tru, List.isEmpty_cons, List.isEmpty_nil, Int.toNat_zero, List.length_map, clearO_nil, clearO_cons, Option.map_none, star_t, star_l, cut_pre, cut_suf, cut_mid, cut_all, take_map, drop_map, b2i_t, b2i_f, cut_tail, drop_one, toNat_1, toNat_2, toNat_3, List.drop_zero, cE_non, cE_bl, cE_int, cE_str, cE_var0, cE_varS, cE_glb, cE_bin, kBin1_eq, cE_neg, kNeg_int, cE_rev, kRev_tup, kRev_lst, kRev_fl, cE_isi, kIsi_d, kIsi_fl, r_isN, r_isNN, r_lts, r_les, r_gts, r_ges, r_addbi, r_strb, r_strs, kMe1_supp, r_in_sl, r_in_st, r_ni_sl, r_ni_st, r_in_it, r_ni_it, cE_unot, kNot_bl, cE_band, cE_bor, cE_cmp, kCmp1_eq, cE_ife, cE_tup, cE_lst, kTup0, kTup1, kTup2, kTup3, kTup4, kTup5, kLst0, kLst1, kLst2, kLst3, kLst4, kLst5, cE_call, cE_bi, cE_idx, kIdx1_eq, cE_slc, kSlc1_eq, kSlc2_eq, kSlc3_lst, kSlc3_fl, kSlc3_tup, kSlc3_sq, cE_meth, cE_dct, cE_mkd, kMkd_lst, cE_lzip, cL_nil, cL_cons, kRow_eq, kCons_d, kCons_ref, kCons_fl, kCons_sq, cO_nop, cO_sb, kSb_int, cP_nil, cP_cons, kPr1_d, kPr2_d, kPr2_fl, kPr3_s, kPr3_i, cT_nil, cT_cons, cI_rng, cI_rng2, cI_zip, kZip_tt, kZip_ll, cI_it, kIt_lst, kIt_tup, kIt_fl, kIt_str, ckd_none, unl_none, cN_0, cN_S, kEn_eq, cB_nm, cB_tup, cBs_nil, cBs_cons, kBs_eq, cE_lc, kLc_eq, kLt1_eq, kLt3_d, kLt3_fl, cG_d, cG_ref, cG_sq, cG_fl, cG_fd, cA_d, cA_ref, cA_fl, cA_fd, cG_pt, cG_unl, cG_star, cG_ix, cG_ixl, kIx1_eq, cS_asg, kAsg_eq, kNx_eq, cS_par, kPar_eq, cR_nil, cR_cons, kRw_nd, kRw_nf, kRw_nr, kRw_ad, kRw_af, kRw_ar, cW_nil, cW_nd, cW_nr, cW_ad, cW_ar, cW_af, kWs_eq, cS_ret, kRt_eq, cS_ex, kEx_eq, cS_if, cS_cons, cS_nil, cS_brk, cS_cnt, cS_pass, kSeq_nx, kSeq_ret, kSeq_bk, kSeq_ct, cS_for, kFor_eq, kBody_eq, kTurn_nx, kTurn_ct, kTurn_bk, kTurn_ret, cS_whl, kWTurn_nx, kWTurn_ct, kWTurn_bk, kWTurn_ret, kFin_ret, kFin_nx, finish_d, finish_fl, finish_fd, finish_sq, r_add, r_addb, r_sub, r_mul, r_div, r_mod, r_pow, r_shl, r_shr, r_and, r_adds, r_addt, r_addl, r_eqi, r_nei, r_eqs, r_nes, r_eqt0, r_net0, r_eql0, r_nel0, r_lt, r_le, r_gt, r_ge, r_lenl, r_lent, r_lens, r_tupl, r_tupt, r_lisl, r_list, r_inti, r_abs, r_max, r_min, t2_0, t2_1, t2_2, t2_3, t2_4, l2_0, l2_1, l2_2, l2_3, kRng_int, kRng2_int, ckd_some, unl_t, unl_f, oK_some, oC_some, oP_some, oW_some, kRet_ok, kLc2_t, kLc2_f, vIdx_dct, vPt_some, vUn_some, kLc3_d, kLc3_fl, kIf_t, kIf_f, kIf_p, kIf_n, kIte_t, kIte_f, kIte_p, kIte_n, kAnd_t, kAnd_f, kAnd_p, kAnd_n, kOr_t, kOr_f, kOr_p, kOr_n, kTst_t, kTst_f, kTst_p, kTst_n, kWTest_p, kWTest_n, kLt2_t, kLt2_f, kLt2_p, kCall_0, kCall_r0, kCall_r1, kCall_r2, kR0_d, kR0_fl, kR0_fd, kR1_d, kR1_fl, kR1_fd, kR1_ref, m_pop1, m_pop0, m_app, vTy_lst, kMe1_pop, kMe1_app, kMe1_ext, kMe1_idx, m_ext, bin_fl1, bin_fl2, vBin_dd, cmp_fl1, cmp_fl2, vCmp_dd, vBi_1, idx_fl, idx_fd, vIdx_dd, vSlc_d, if_fl, st21, st32, r_intt, r_intf, r_intp, r_zipt, idx_tget])
local macro_rules | `(tactic| walk_at "lfs") => `(tactic| simp -implicitDefEqProofs (disch := (first | with_reducible assumption | omega | decide +kernel | (simp only [List.length_cons, List.length_nil, List.length_map, List.length_append, List.length_take, List.length_drop, List.length_reverse, tap_len]; omega) | exact of_decide_eq_true (id rfl) | fail)) only [↓cE_non, ↓cE_bl, ↓cE_int, ↓cE_str, ↓cE_var0, ↓cE_varS, ↓cE_glb, ↓cE_bin, ↓kBin1_eq, ↓cE_neg, ↓kNeg_int, ↓cE_rev, ↓kRev_tup, ↓kRev_lst, ↓kRev_fl, ↓cE_isi, ↓kIsi_d, ↓kIsi_fl, ↓r_isN, ↓r_isNN, ↓r_lts, ↓r_les, ↓r_gts, ↓r_ges, ↓r_addbi, ↓r_strb, ↓r_strs, ↓kMe1_supp, ↓r_in_sl, ↓r_in_st, ↓r_ni_sl, ↓r_ni_st, ↓r_in_it, ↓r_ni_it, ↓cE_unot, ↓kNot_bl, ↓cE_band, ↓cE_bor, ↓cE_cmp, ↓kCmp1_eq, ↓cE_ife, ↓cE_tup, ↓cE_lst, ↓kTup0, ↓kTup1, ↓kTup2, ↓kTup3, ↓kTup4, ↓kTup5, ↓kLst0, ↓kLst1, ↓kLst2, ↓kLst3, ↓kLst4, ↓kLst5, ↓cE_call, ↓cE_bi, ↓cE_idx, ↓kIdx1_eq, ↓cE_slc, ↓kSlc1_eq, ↓kSlc2_eq, ↓kSlc3_lst, ↓kSlc3_fl, ↓kSlc3_tup, ↓kSlc3_sq, ↓cE_meth, ↓cE_dct, ↓cE_mkd, ↓kMkd_lst, ↓cE_lzip, ↓cL_nil, ↓cL_cons, ↓kRow_eq, ↓kCons_d, ↓kCons_ref, ↓kCons_fl, ↓kCons_sq, ↓cO_nop, ↓cO_sb, ↓kSb_int, ↓cP_nil, ↓cP_cons, ↓kPr1_d, ↓kPr2_d, ↓kPr2_fl, ↓kPr3_s, ↓kPr3_i, ↓cT_nil, ↓cT_cons, ↓cI_rng, ↓cI_rng2, ↓cI_zip, ↓kZip_tt, ↓kZip_ll, ↓cI_it, ↓kIt_lst, ↓kIt_tup, ↓kIt_fl, ↓kIt_str, ↓ckd_none, ↓unl_none, ↓cN_0, ↓cN_S, ↓kEn_eq, ↓cB_nm, ↓cB_tup, ↓cBs_nil, ↓cBs_cons, ↓kBs_eq, ↓cE_lc, ↓kLc_eq, ↓kLt1_eq, ↓kLt3_d, ↓kLt3_fl, ↓cG_d, ↓cG_ref, ↓cG_sq, ↓cG_fl, ↓cG_fd, ↓cA_d, ↓cA_ref, ↓cA_fl, ↓cA_fd, ↓cG_pt, ↓cG_unl, ↓cG_star, ↓cG_ix, ↓cG_ixl, ↓kIx1_eq, ↓cS_asg, ↓kAsg_eq, ↓kNx_eq, ↓cS_par, ↓kPar_eq, ↓cR_nil, ↓cR_cons, ↓kRw_nd, ↓kRw_nf, ↓kRw_nr, ↓kRw_ad, ↓kRw_af, ↓kRw_ar, ↓cW_nil, ↓cW_nd, ↓cW_nr, ↓cW_ad, ↓cW_ar, ↓cW_af, ↓kWs_eq, ↓cS_ret, ↓kRt_eq, ↓cS_ex, ↓kEx_eq, ↓cS_if, ↓cS_cons, ↓cS_nil, ↓cS_brk, ↓cS_cnt, ↓cS_pass, ↓kSeq_nx, ↓kSeq_ret, ↓kSeq_bk, ↓kSeq_ct, ↓cS_for, ↓kFor_eq, ↓kBody_eq, ↓kTurn_nx, ↓kTurn_ct, ↓kTurn_bk, ↓kTurn_ret, ↓cS_whl, ↓kWTurn_nx, ↓kWTurn_ct, ↓kWTurn_bk, ↓kWTurn_ret, ↓kFin_ret, ↓kFin_nx, ↓finish_d, ↓finish_fl, ↓finish_fd, ↓finish_sq, ↓r_add, ↓r_addb, ↓r_sub, ↓r_mul, ↓r_div, ↓r_mod, ↓r_pow, ↓r_shl, ↓r_shr, ↓r_and, ↓r_adds, ↓r_addt, ↓r_addl, ↓r_eqi, ↓r_nei, ↓r_eqs, ↓r_nes, ↓r_eqt0, ↓r_net0, ↓r_eql0, ↓r_nel0, ↓r_lt, ↓r_le, ↓r_gt, ↓r_ge, ↓r_lenl, ↓r_lent, ↓r_lens, ↓r_tupl, ↓r_tupt, ↓r_lisl, ↓r_list, ↓r_inti, ↓r_abs, ↓r_max, ↓r_min, ↓t2_0, ↓t2_1, ↓t2_2, ↓t2_3, ↓t2_4, ↓l2_0, ↓l2_1, ↓l2_2, ↓l2_3, ↓kRng_int, ↓kRng2_int, ↓ckd_some, ↓unl_t, ↓unl_f, ↓oK_some, ↓oC_some, ↓oP_some, ↓oW_some, ↓kRet_ok, ↓kLc2_t, ↓kLc2_f, ↓vIdx_dct, ↓vPt_some, ↓vUn_some, ↓kLc3_d, ↓kLc3_fl, ↓kIf_t, ↓kIf_f, ↓kIf_p, ↓kIf_n, ↓kIte_t, ↓kIte_f, ↓kIte_p, ↓kIte_n, ↓kAnd_t, ↓kAnd_f, ↓kAnd_p, ↓kAnd_n, ↓kOr_t, ↓kOr_f, ↓kOr_p, ↓kOr_n, ↓kTst_t, ↓kTst_f, ↓kTst_p, ↓kTst_n, ↓kWTest_p, ↓kWTest_n, ↓kLt2_t, ↓kLt2_f, ↓kLt2_p, ↓kCall_0, ↓kCall_r0, ↓kCall_r1, ↓kCall_r2, ↓kR0_d, ↓kR0_fl, ↓kR0_fd, ↓kR1_d, ↓kR1_fl, ↓kR1_fd, ↓kR1_ref, ↓m_pop1, ↓m_pop0, ↓m_app, ↓vTy_lst, ↓kMe1_pop, ↓kMe1_app, ↓kMe1_ext, ↓kMe1_idx, ↓m_ext, ↓bin_fl1, ↓bin_fl2, ↓vBin_dd, ↓cmp_fl1, ↓cmp_fl2, ↓vCmp_dd, ↓vBi_1, ↓idx_fl, ↓idx_fd, ↓vIdx_dd, ↓vSlc_d, ↓if_fl, ↓st21, ↓st32, ↓r_intt, ↓r_intf, ↓r_intp, ↓r_zipt, ↓if_pos, ↓if_neg, ↓reduceIte, kSlc3_str, r_stri, m_supp, isD_tup_non, isD_tup_bl, isD_tup_int, isD_tup_str, isD_tup_tup, isD_tup_lst, isD_lst_non, isD_lst_bl, isD_lst_int, isD_lst_str, isD_lst_tup, isD_lst_lst, isD_str_non, isD_str_bl, isD_str_int, isD_str_str, isD_str_tup, isD_str_lst, isD_int_non, isD_int_bl, isD_int_int, isD_int_str, isD_int_tup, isD_int_lst, isD_bl_non, isD_bl_bl, isD_bl_int, isD_bl_str, isD_bl_tup, isD_bl_lst, isD_dct_non, isD_dct_bl, isD_dct_int, isD_dct_str, isD_dct_tup, isD_dct_lst, isN_non, isN_bl, isN_int, isN_str, isN_tup, isN_lst, r_intb, bin_ref1, bin_ref2, cmp_ref1, cmp_ref2, bi_ref, idx_ref, slc_ref, r_eq, r_ne, kAnd_bl, kOr_bl, kIte_bl, kTst_bl, kIf_bl, kWTest_bl, kLt2_eq, kNot_eq, kAnd_eq, kOr_eq, kIte_eq, kTup_eq, kLst_eq, kIdx2_dd, vPop_lst, vPop0_lst, vApp_lst, emp_snoc, vExt_lst, m_tidx, idx_tmap, idx_lmap, kDct_eq, kLzip_eq, kTst_eq, kIt_ref, vWk_lst, vWk_lk, kIf_eq, kWTest_eq, kIx2_d, kRw_eq, kGl_some, finish_old, finish_new, vFin_lst, vFin_dct, cLc_nil, cLc_cons, kLc1_eq, kLc2_eq, cFor_nil, cFor_cons, view_d, view_fl, view_ref, vwC_lst, vwC_lk, vwC_dct, viewD_ref, viewD_d, viewD_fl, viewD_fd, vwD_lst, vwD_lk, vwD_dct, views_nil, views_cons, cnsO_some, frzs_nil, frzs_d, cnsF_some, putIx_ref, pIx_s, pIx_i, pIx_l, dGet_hit, dGet_miss, renW_self, renW_d, renW_sq, truW, tup_ok, lst_ok, List.map_cons, List.map_nil, List.all_cons, List.all_nil, List.contains_cons, List.contains_nil, List.elem_nil, List.getD_cons_zero, List.getD_cons_succ, List.getElem?_cons_zero, List.getElem?_cons_succ, List.getElem?_nil, List.set_cons_zero, List.set_cons_succ, List.length_cons, List.length_nil, List.nil_append, List.cons_append, List.append_nil, List.take_zero, List.take_succ_cons, List.take_nil, Bool.true_and, Bool.and_true, Bool.false_and, Bool.and_false, Bool.not_true, Bool.not_false, Bool.true_or, Bool.or_true, decide_eq_true_eq, Bool.not_eq_true', decide_eq_false_iff_not, reduceCtorEq, if_true, if_false, ite_true, ite_false, Bool.false_eq_true, Option.map_some, List.idxOf_cons, beq_self_eq_true, Nat.zero_add, cond_true, cond_false, D.truO, D.tru, List.isEmpty_cons, List.isEmpty_nil, Int.toNat_zero, List.length_map, clearO_nil, clearO_cons, Option.map_none, star_t, star_l, cut_pre, cut_suf, cut_mid, cut_all, take_map, drop_map, b2i_t, b2i_f, cut_tail, drop_one, toNat_1, toNat_2, toNat_3, List.drop_zero, cE_non, cE_bl, cE_int, cE_str, cE_var0, cE_varS, cE_glb, cE_bin, kBin1_eq, cE_neg, kNeg_int, cE_rev, kRev_tup, kRev_lst, kRev_fl, cE_isi, kIsi_d, kIsi_fl, r_isN, r_isNN, r_lts, r_les, r_gts, r_ges, r_addbi, r_strb, r_strs, kMe1_supp, r_in_sl, r_in_st, r_ni_sl, r_ni_st, r_in_it, r_ni_it, cE_unot, kNot_bl, cE_band, cE_bor, cE_cmp, kCmp1_eq, cE_ife, cE_tup, cE_lst, kTup0, kTup1, kTup2, kTup3, kTup4, kTup5, kLst0, kLst1, kLst2, kLst3, kLst4, kLst5, cE_call, cE_bi, cE_idx, kIdx1_eq, cE_slc, kSlc1_eq, kSlc2_eq, kSlc3_lst, kSlc3_fl, kSlc3_tup, kSlc3_sq, cE_meth, cE_dct, cE_mkd, kMkd_lst, cE_lzip, cL_nil, cL_cons, kRow_eq, kCons_d, kCons_ref, kCons_fl, kCons_sq, cO_nop, cO_sb, kSb_int, cP_nil, cP_cons, kPr1_d, kPr2_d, kPr2_fl, kPr3_s, kPr3_i, cT_nil, cT_cons, cI_rng, cI_rng2, cI_zip, kZip_tt, kZip_ll, cI_it, kIt_lst, kIt_tup, kIt_fl, kIt_str, ckd_none, unl_none, cN_0, cN_S, kEn_eq, cB_nm, cB_tup, cBs_nil, cBs_cons, kBs_eq, cE_lc, kLc_eq, kLt1_eq, kLt3_d, kLt3_fl, cG_d, cG_ref, cG_sq, cG_fl, cG_fd, cA_d, cA_ref, cA_fl, cA_fd, cG_pt, cG_unl, cG_star, cG_ix, cG_ixl, kIx1_eq, cS_asg, kAsg_eq, kNx_eq, cS_par, kPar_eq, cR_nil, cR_cons, kRw_nd, kRw_nf, kRw_nr, kRw_ad, kRw_af, kRw_ar, cW_nil, cW_nd, cW_nr, cW_ad, cW_ar, cW_af, kWs_eq, cS_ret, kRt_eq, cS_ex, kEx_eq, cS_if, cS_cons, cS_nil, cS_brk, cS_cnt, cS_pass, kSeq_nx, kSeq_ret, kSeq_bk, kSeq_ct, cS_for, kFor_eq, kBody_eq, kTurn_nx, kTurn_ct, kTurn_bk, kTurn_ret, cS_whl, kWTurn_nx, kWTurn_ct, kWTurn_bk, kWTurn_ret, kFin_ret, kFin_nx, finish_d, finish_fl, finish_fd, finish_sq, r_add, r_addb, r_sub, r_mul, r_div, r_mod, r_pow, r_shl, r_shr, r_and, r_adds, r_addt, r_addl, r_eqi, r_nei, r_eqs, r_nes, r_eqt0, r_net0, r_eql0, r_nel0, r_lt, r_le, r_gt, r_ge, r_lenl, r_lent, r_lens, r_tupl, r_tupt, r_lisl, r_list, r_inti, r_abs, r_max, r_min, t2_0, t2_1, t2_2, t2_3, t2_4, l2_0, l2_1, l2_2, l2_3, kRng_int, kRng2_int, ckd_some, unl_t, unl_f, oK_some, oC_some, oP_some, oW_some, kRet_ok, kLc2_t, kLc2_f, vIdx_dct, vPt_some, vUn_some, kLc3_d, kLc3_fl, kIf_t, kIf_f, kIf_p, kIf_n, kIte_t, kIte_f, kIte_p, kIte_n, kAnd_t, kAnd_f, kAnd_p, kAnd_n, kOr_t, kOr_f, kOr_p, kOr_n, kTst_t, kTst_f, kTst_p, kTst_n, kWTest_p, kWTest_n, kLt2_t, kLt2_f, kLt2_p, kCall_0, kCall_r0, kCall_r1, kCall_r2, kR0_d, kR0_fl, kR0_fd, kR1_d, kR1_fl, kR1_fd, kR1_ref, m_pop1, m_pop0, m_app, vTy_lst, kMe1_pop, kMe1_app, kMe1_ext, kMe1_idx, m_ext, bin_fl1, bin_fl2, vBin_dd, cmp_fl1, cmp_fl2, vCmp_dd, vBi_1, idx_fl, idx_fd, vIdx_dd, vSlc_d, if_fl, st21, st32, r_intt, r_intf, r_intp, r_zipt, idx_tget, *])
theorem bend_ok {k : Nat} (hk : k ≤ 500) : ∀ (d n dd u : Nat) (x : D) (t : Tap), Bd k dd u x → u ≤ 100000 → 0 ≤ t.calls → t.calls + 2 * d < 30000000 →
    callN U (n + d + 3) 6 [.ref 0, .d x, .d (.int d)] [t.c] = .ok (.d (bend d x t).1, [(bend d x t).2.c]) := by
  intro d
  induction d with
  | zero =>
    intro n dd u x t h hu h0 hc
    obtain ⟨f1, f2, f3⟩ := bd_flat h hk hu
    have fo := fun X => flat_ok (n := n) (t := t) (x := x) (d := 0) (X := X) ⟨h0, by omega⟩ f1 f2 f3
    rw [show n + 0 + 3 = n + 2 + 1 from rfl, run_def rfl ⟨rfl, by decide⟩]
    simp only [f6, List.map, List.replicate, Nat.reduceSub, bend]
    rw [e6]
    simp only [i6, b6]
    clear f1 f2 f3 hc
    have z : ((0 : Nat) : Int) = 0 := rfl
    rw [z]
    clear z
    cases x with
    | tup xs =>
      cases xs with
      | nil => walk_at "lfs"
      | cons a xs => walk_at "lfs"
    | _ => walk_at "lfs"
  | succ d ih =>
    intro n dd u x t h hu h0 hc
    obtain ⟨f1, f2, f3⟩ := bd_flat h hk hu
    have fo : ∀ (X : Xk (W × Cells)) (t' : Tap), (0 ≤ t'.calls ∧ t'.calls < 40000000) → cS (fnsN U (n + d + 3)) X r6 [some (.ref 0), some (.d x), some (.d (.int ((d + 1 : Nat) : Int))), none, none] [t'.c] (kFin 1) = .ok (.d (flat x t').1, [(flat x t').2.c]) := fun X t' h => flat_ok (n := n + d + 1) h f1 f2 f3
    have tk : callN U (n + d + 3) 2 [.ref 0, .d (.int 3)] [t.c] = _ := take_ok (U := U) (n := n + d + 2) (i := 2) (t := t) (m := 3) rfl (by decide) ⟨by omega, by omega⟩
    have b := Tap.val_b (t := t) (m := 3) (by decide)
    have nc := Tap.nxt_calls (t := t) (m := 3)
    have d1 : ((d + 1 : Nat) : Int) - 1 = d := by omega
    have dp : (0 : Int) < ((d + 1 : Nat) : Int) := by omega
    rw [show n + (d + 1) + 3 = n + d + 3 + 1 from by omega, run_def rfl ⟨rfl, by decide⟩]
    simp only [f6, List.map, List.replicate, Nat.reduceSub]
    rw [e6]
    simp only [i6, b6]
    cases x with
    | tup xs =>
      have fo1 := fun X => fo X t ⟨h0, by omega⟩
      have fo2 := fun X => fo X (t.nxt 3) ⟨by omega, by omega⟩
      clear fo
      cases xs with
      | nil => simp only [bend]; clear ih f1 f2 f3; walk_at "lfs"
      | cons y ys =>
        simp only [bend]
        have hl := f1 _ rfl
        have tk2 : callN U (n + d + 3) 2 [.ref 0, .d (.int (((y :: ys).length : Nat) : Int))] [(t.nxt 3).c] = _ := take_ok (U := U) (n := n + d + 2) (i := 2) (t := t.nxt 3) (m := (y :: ys).length) rfl ⟨by simp only [List.length_cons]; omega, by omega⟩ ⟨by omega, by omega⟩
        have b2 := Tap.val_b (t := t.nxt 3) (m := (y :: ys).length) (by simp only [List.length_cons]; omega)
        have nc2 := Tap.nxt_calls (t := t.nxt 3) (m := (y :: ys).length)
        have he : (y :: ys).isEmpty = false := rfl
        have ha := h.a
        have hd := h.d
        have hu' := h.u
        simp only [asc] at ha
        simp only [D.dep] at hd
        simp only [D.ub] at hu'
        have ha' := ascs_iff.mp ha
        clear ha h f2 f3
        revert hl tk2 b2 nc2 he ha' hd hu' fo1 fo2 f1
        generalize y :: ys = xs
        intro f1 fo1 fo2 hl tk2 b2 nc2 he hd hu' ha'
        generalize (t.nxt 3).nxt ((xs.length : Nat) : Int) = t2 at *
        generalize (t.nxt 3).val ((xs.length : Nat) : Int) = v at *
        have lt : v.toNat < xs.length := by omega
        have eg : xs.getD v.toNat .non = xs[v.toNat] := by simp [List.getD_eq_getElem?_getD, List.getElem?_eq_getElem lt]
        have mem : xs[v.toNat] ∈ xs := List.getElem_mem lt
        have ub := ubs_mem mem
        have i1 := ih n xs[v.toNat].dep xs[v.toNat].ub xs[v.toNat] t2 ⟨ha' _ mem, Nat.le_refl _, Nat.le_refl _⟩ (by omega) (by omega) (by omega)
        rw [← eg] at i1
        have lt2 : 0 ≤ v + 1 := by omega
        clear ih f1 ha' hd hu' eg mem ub
        by_cases h3 : 0 < t.val 3
        · rw [if_pos h3]; walk_at "lfs"
        · rw [if_neg h3]; walk_at "lfs"
    | _ =>
      have fo1 := fun X => fo X t ⟨h0, by omega⟩
      clear fo ih f1 f2 f3 h
      simp only [bend]
      walk_at "lfs"
/-! ### what is near -/
def lf : D := .tup [.str "leaf", .bl true]
def nearW (x : D) (m : Str) : List D := [.tup [.str "ask", .str m, lf, .tup [.str "ask", .str m, lf, lf]], .tup [.str "ask", .str m, lf], .tup [.str "ask", .str m, lf, lf, lf], .tup [.str "nor", .str m, lf, lf],
  .tup [.str "ask", .str m, x, lf], .tup [.str "ask", .str m, lf, .lst [lf]], .tup [.str "leaf", .str m, lf, lf], .tup [.str m, lf]]
def near0 (xs : List D) : List D := [.tup xs, .lst xs, .tup (xs ++ [lf]), .tup (cutL xs none (some (-1))), .tup [.str "leaf", .int 1], .tup [.str "leaf", .non], .tup [.str "leaf"], .str "leaf",
  .tup [.str "leaf", .bl true, .bl true], .tup [.str "ask", .str "q", .tup xs, lf], .tup [.str "ask", .str "a", .tup xs, lf], .tup [.str "ask", .str "a", lf, lf], .tup [.str "ask", .non, lf, lf]]
def near (ms : List Str) (xs : List D) : List D := near0 xs ++ (ms.take 2).flatMap (nearW (.tup xs))
theorem cut2 {ms : List Str} : cutL (sD ms) none (some 2) = sD (ms.take 2) := by rw [cut_pre (by decide)]; simp
theorem near_len (ms : List Str) (xs : List D) : (near ms xs).length ≤ 100 := by
  have e : near0 xs = near0 xs := rfl
  simp only [near, near0, List.length_append, List.length_cons, List.length_nil, List.length_flatMap]
  have : ((ms.take 2).map fun a => (nearW (.tup xs) a).length).sum ≤ 16 := by
    match ms with
    | [] => simp
    | [a] => simp [nearW]
    | a :: b :: r => simp [nearW]
  omega
local macro_rules | `(tactic| walk_at "lf") => `(tactic| simp -implicitDefEqProofs (disch := (first | with_reducible assumption | omega | decide +kernel | (simp only [List.length_cons, List.length_nil, List.length_map, List.length_append, List.length_take, List.length_drop, List.length_reverse, tap_len]; omega) | exact of_decide_eq_true (id rfl) | fail)) only [↓cE_non, ↓cE_bl, ↓cE_int, ↓cE_str, ↓cE_var0, ↓cE_varS, ↓cE_glb, ↓cE_bin, ↓kBin1_eq, ↓cE_neg, ↓kNeg_int, ↓cE_rev, ↓kRev_tup, ↓kRev_lst, ↓kRev_fl, ↓cE_isi, ↓kIsi_d, ↓kIsi_fl, ↓r_isN, ↓r_isNN, ↓r_lts, ↓r_les, ↓r_gts, ↓r_ges, ↓r_addbi, ↓r_strb, ↓r_strs, ↓kMe1_supp, ↓r_in_sl, ↓r_in_st, ↓r_ni_sl, ↓r_ni_st, ↓r_in_it, ↓r_ni_it, ↓cE_unot, ↓kNot_bl, ↓cE_band, ↓cE_bor, ↓cE_cmp, ↓kCmp1_eq, ↓cE_ife, ↓cE_tup, ↓cE_lst, ↓kTup0, ↓kTup1, ↓kTup2, ↓kTup3, ↓kTup4, ↓kTup5, ↓kLst0, ↓kLst1, ↓kLst2, ↓kLst3, ↓kLst4, ↓kLst5, ↓cE_call, ↓cE_bi, ↓cE_idx, ↓kIdx1_eq, ↓cE_slc, ↓kSlc1_eq, ↓kSlc2_eq, ↓kSlc3_lst, ↓kSlc3_fl, ↓kSlc3_tup, ↓kSlc3_sq, ↓cE_meth, ↓cE_dct, ↓cE_mkd, ↓kMkd_lst, ↓cE_lzip, ↓cL_nil, ↓cL_cons, ↓kRow_eq, ↓kCons_d, ↓kCons_ref, ↓kCons_fl, ↓kCons_sq, ↓cO_nop, ↓cO_sb, ↓kSb_int, ↓cP_nil, ↓cP_cons, ↓kPr1_d, ↓kPr2_d, ↓kPr2_fl, ↓kPr3_s, ↓kPr3_i, ↓cT_nil, ↓cT_cons, ↓cI_rng, ↓cI_rng2, ↓cI_zip, ↓kZip_tt, ↓kZip_ll, ↓cI_it, ↓kIt_lst, ↓kIt_tup, ↓kIt_fl, ↓kIt_str, ↓ckd_none, ↓unl_none, ↓cN_0, ↓cN_S, ↓kEn_eq, ↓cB_nm, ↓cB_tup, ↓cBs_nil, ↓cBs_cons, ↓kBs_eq, ↓cE_lc, ↓kLc_eq, ↓kLt1_eq, ↓kLt3_d, ↓kLt3_fl, ↓cG_d, ↓cG_ref, ↓cG_sq, ↓cG_fl, ↓cG_fd, ↓cA_d, ↓cA_ref, ↓cA_fl, ↓cA_fd, ↓cG_pt, ↓cG_unl, ↓cG_star, ↓cG_ix, ↓cG_ixl, ↓kIx1_eq, ↓cS_asg, ↓kAsg_eq, ↓kNx_eq, ↓cS_par, ↓kPar_eq, ↓cR_nil, ↓cR_cons, ↓kRw_nd, ↓kRw_nf, ↓kRw_nr, ↓kRw_ad, ↓kRw_af, ↓kRw_ar, ↓cW_nil, ↓cW_nd, ↓cW_nr, ↓cW_ad, ↓cW_ar, ↓cW_af, ↓kWs_eq, ↓cS_ret, ↓kRt_eq, ↓cS_ex, ↓kEx_eq, ↓cS_if, ↓cS_cons, ↓cS_nil, ↓cS_brk, ↓cS_cnt, ↓cS_pass, ↓kSeq_nx, ↓kSeq_ret, ↓kSeq_bk, ↓kSeq_ct, ↓cS_for, ↓kFor_eq, ↓kBody_eq, ↓kTurn_nx, ↓kTurn_ct, ↓kTurn_bk, ↓kTurn_ret, ↓cS_whl, ↓kWTurn_nx, ↓kWTurn_ct, ↓kWTurn_bk, ↓kWTurn_ret, ↓kFin_ret, ↓kFin_nx, ↓finish_d, ↓finish_fl, ↓finish_fd, ↓finish_sq, ↓r_add, ↓r_addb, ↓r_sub, ↓r_mul, ↓r_div, ↓r_mod, ↓r_pow, ↓r_shl, ↓r_shr, ↓r_and, ↓r_adds, ↓r_addt, ↓r_addl, ↓r_eqi, ↓r_nei, ↓r_eqs, ↓r_nes, ↓r_eqt0, ↓r_net0, ↓r_eql0, ↓r_nel0, ↓r_lt, ↓r_le, ↓r_gt, ↓r_ge, ↓r_lenl, ↓r_lent, ↓r_lens, ↓r_tupl, ↓r_tupt, ↓r_lisl, ↓r_list, ↓r_inti, ↓r_abs, ↓r_max, ↓r_min, ↓t2_0, ↓t2_1, ↓t2_2, ↓t2_3, ↓t2_4, ↓l2_0, ↓l2_1, ↓l2_2, ↓l2_3, ↓kRng_int, ↓kRng2_int, ↓ckd_some, ↓unl_t, ↓unl_f, ↓oK_some, ↓oC_some, ↓oP_some, ↓oW_some, ↓kRet_ok, ↓kLc2_t, ↓kLc2_f, ↓vIdx_dct, ↓vPt_some, ↓vUn_some, ↓kLc3_d, ↓kLc3_fl, ↓kIf_t, ↓kIf_f, ↓kIf_p, ↓kIf_n, ↓kIte_t, ↓kIte_f, ↓kIte_p, ↓kIte_n, ↓kAnd_t, ↓kAnd_f, ↓kAnd_p, ↓kAnd_n, ↓kOr_t, ↓kOr_f, ↓kOr_p, ↓kOr_n, ↓kTst_t, ↓kTst_f, ↓kTst_p, ↓kTst_n, ↓kWTest_p, ↓kWTest_n, ↓kLt2_t, ↓kLt2_f, ↓kLt2_p, ↓kCall_0, ↓kCall_r0, ↓kCall_r1, ↓kCall_r2, ↓kR0_d, ↓kR0_fl, ↓kR0_fd, ↓kR1_d, ↓kR1_fl, ↓kR1_fd, ↓kR1_ref, ↓m_pop1, ↓m_pop0, ↓m_app, ↓vTy_lst, ↓kMe1_pop, ↓kMe1_app, ↓kMe1_ext, ↓kMe1_idx, ↓m_ext, ↓bin_fl1, ↓bin_fl2, ↓vBin_dd, ↓cmp_fl1, ↓cmp_fl2, ↓vCmp_dd, ↓vBi_1, ↓idx_fl, ↓idx_fd, ↓vIdx_dd, ↓vSlc_d, ↓if_fl, ↓st21, ↓st32, ↓r_intt, ↓r_intf, ↓r_intp, ↓r_zipt, ↓u_w8a, ↓cut2, ↓if_pos, ↓if_neg, ↓reduceIte, kSlc3_str, r_stri, m_supp, isD_tup_non, isD_tup_bl, isD_tup_int, isD_tup_str, isD_tup_tup, isD_tup_lst, isD_lst_non, isD_lst_bl, isD_lst_int, isD_lst_str, isD_lst_tup, isD_lst_lst, isD_str_non, isD_str_bl, isD_str_int, isD_str_str, isD_str_tup, isD_str_lst, isD_int_non, isD_int_bl, isD_int_int, isD_int_str, isD_int_tup, isD_int_lst, isD_bl_non, isD_bl_bl, isD_bl_int, isD_bl_str, isD_bl_tup, isD_bl_lst, isD_dct_non, isD_dct_bl, isD_dct_int, isD_dct_str, isD_dct_tup, isD_dct_lst, isN_non, isN_bl, isN_int, isN_str, isN_tup, isN_lst, r_intb, bin_ref1, bin_ref2, cmp_ref1, cmp_ref2, bi_ref, idx_ref, slc_ref, r_eq, r_ne, kAnd_bl, kOr_bl, kIte_bl, kTst_bl, kIf_bl, kWTest_bl, kLt2_eq, kNot_eq, kAnd_eq, kOr_eq, kIte_eq, kTup_eq, kLst_eq, kIdx2_dd, vPop_lst, vPop0_lst, vApp_lst, emp_snoc, vExt_lst, m_tidx, idx_tmap, idx_lmap, kDct_eq, kLzip_eq, kTst_eq, kIt_ref, vWk_lst, vWk_lk, kIf_eq, kWTest_eq, kIx2_d, kRw_eq, kGl_some, finish_old, finish_new, vFin_lst, vFin_dct, cLc_nil, cLc_cons, kLc1_eq, kLc2_eq, cFor_nil, cFor_cons, view_d, view_fl, view_ref, vwC_lst, vwC_lk, vwC_dct, viewD_ref, viewD_d, viewD_fl, viewD_fd, vwD_lst, vwD_lk, vwD_dct, views_nil, views_cons, cnsO_some, frzs_nil, frzs_d, cnsF_some, putIx_ref, pIx_s, pIx_i, pIx_l, dGet_hit, dGet_miss, renW_self, renW_d, renW_sq, truW, tup_ok, lst_ok, List.map_cons, List.map_nil, List.all_cons, List.all_nil, List.contains_cons, List.contains_nil, List.elem_nil, List.getD_cons_zero, List.getD_cons_succ, List.getElem?_cons_zero, List.getElem?_cons_succ, List.getElem?_nil, List.set_cons_zero, List.set_cons_succ, List.length_cons, List.length_nil, List.nil_append, List.cons_append, List.append_nil, List.take_zero, List.take_succ_cons, List.take_nil, Bool.true_and, Bool.and_true, Bool.false_and, Bool.and_false, Bool.not_true, Bool.not_false, Bool.true_or, Bool.or_true, decide_eq_true_eq, Bool.not_eq_true', decide_eq_false_iff_not, reduceCtorEq, if_true, if_false, ite_true, ite_false, Bool.false_eq_true, Option.map_some, List.idxOf_cons, beq_self_eq_true, Nat.zero_add, cond_true, cond_false, D.truO, D.tru, List.isEmpty_cons, List.isEmpty_nil, Int.toNat_zero, List.length_map, clearO_nil, clearO_cons, Option.map_none, star_t, star_l, cut_pre, cut_suf, cut_mid, cut_all, take_map, drop_map, b2i_t, b2i_f, cut_tail, drop_one, toNat_1, toNat_2, toNat_3, List.drop_zero, cE_non, cE_bl, cE_int, cE_str, cE_var0, cE_varS, cE_glb, cE_bin, kBin1_eq, cE_neg, kNeg_int, cE_rev, kRev_tup, kRev_lst, kRev_fl, cE_isi, kIsi_d, kIsi_fl, r_isN, r_isNN, r_lts, r_les, r_gts, r_ges, r_addbi, r_strb, r_strs, kMe1_supp, r_in_sl, r_in_st, r_ni_sl, r_ni_st, r_in_it, r_ni_it, cE_unot, kNot_bl, cE_band, cE_bor, cE_cmp, kCmp1_eq, cE_ife, cE_tup, cE_lst, kTup0, kTup1, kTup2, kTup3, kTup4, kTup5, kLst0, kLst1, kLst2, kLst3, kLst4, kLst5, cE_call, cE_bi, cE_idx, kIdx1_eq, cE_slc, kSlc1_eq, kSlc2_eq, kSlc3_lst, kSlc3_fl, kSlc3_tup, kSlc3_sq, cE_meth, cE_dct, cE_mkd, kMkd_lst, cE_lzip, cL_nil, cL_cons, kRow_eq, kCons_d, kCons_ref, kCons_fl, kCons_sq, cO_nop, cO_sb, kSb_int, cP_nil, cP_cons, kPr1_d, kPr2_d, kPr2_fl, kPr3_s, kPr3_i, cT_nil, cT_cons, cI_rng, cI_rng2, cI_zip, kZip_tt, kZip_ll, cI_it, kIt_lst, kIt_tup, kIt_fl, kIt_str, ckd_none, unl_none, cN_0, cN_S, kEn_eq, cB_nm, cB_tup, cBs_nil, cBs_cons, kBs_eq, cE_lc, kLc_eq, kLt1_eq, kLt3_d, kLt3_fl, cG_d, cG_ref, cG_sq, cG_fl, cG_fd, cA_d, cA_ref, cA_fl, cA_fd, cG_pt, cG_unl, cG_star, cG_ix, cG_ixl, kIx1_eq, cS_asg, kAsg_eq, kNx_eq, cS_par, kPar_eq, cR_nil, cR_cons, kRw_nd, kRw_nf, kRw_nr, kRw_ad, kRw_af, kRw_ar, cW_nil, cW_nd, cW_nr, cW_ad, cW_ar, cW_af, kWs_eq, cS_ret, kRt_eq, cS_ex, kEx_eq, cS_if, cS_cons, cS_nil, cS_brk, cS_cnt, cS_pass, kSeq_nx, kSeq_ret, kSeq_bk, kSeq_ct, cS_for, kFor_eq, kBody_eq, kTurn_nx, kTurn_ct, kTurn_bk, kTurn_ret, cS_whl, kWTurn_nx, kWTurn_ct, kWTurn_bk, kWTurn_ret, kFin_ret, kFin_nx, finish_d, finish_fl, finish_fd, finish_sq, r_add, r_addb, r_sub, r_mul, r_div, r_mod, r_pow, r_shl, r_shr, r_and, r_adds, r_addt, r_addl, r_eqi, r_nei, r_eqs, r_nes, r_eqt0, r_net0, r_eql0, r_nel0, r_lt, r_le, r_gt, r_ge, r_lenl, r_lent, r_lens, r_tupl, r_tupt, r_lisl, r_list, r_inti, r_abs, r_max, r_min, t2_0, t2_1, t2_2, t2_3, t2_4, l2_0, l2_1, l2_2, l2_3, kRng_int, kRng2_int, ckd_some, unl_t, unl_f, oK_some, oC_some, oP_some, oW_some, kRet_ok, kLc2_t, kLc2_f, vIdx_dct, vPt_some, vUn_some, kLc3_d, kLc3_fl, kIf_t, kIf_f, kIf_p, kIf_n, kIte_t, kIte_f, kIte_p, kIte_n, kAnd_t, kAnd_f, kAnd_p, kAnd_n, kOr_t, kOr_f, kOr_p, kOr_n, kTst_t, kTst_f, kTst_p, kTst_n, kWTest_p, kWTest_n, kLt2_t, kLt2_f, kLt2_p, kCall_0, kCall_r0, kCall_r1, kCall_r2, kR0_d, kR0_fl, kR0_fd, kR1_d, kR1_fl, kR1_fd, kR1_ref, m_pop1, m_pop0, m_app, vTy_lst, kMe1_pop, kMe1_app, kMe1_ext, kMe1_idx, m_ext, bin_fl1, bin_fl2, vBin_dd, cmp_fl1, cmp_fl2, vCmp_dd, vBi_1, idx_fl, idx_fd, vIdx_dd, vSlc_d, if_fl, st21, st32, r_intt, r_intf, r_intp, r_zipt])
local macro_rules | `(tactic| walk_at "lfs") => `(tactic| simp -implicitDefEqProofs (disch := (first | with_reducible assumption | omega | decide +kernel | (simp only [List.length_cons, List.length_nil, List.length_map, List.length_append, List.length_take, List.length_drop, List.length_reverse, tap_len]; omega) | exact of_decide_eq_true (id rfl) | fail)) only [↓cE_non, ↓cE_bl, ↓cE_int, ↓cE_str, ↓cE_var0, ↓cE_varS, ↓cE_glb, ↓cE_bin, ↓kBin1_eq, ↓cE_neg, ↓kNeg_int, ↓cE_rev, ↓kRev_tup, ↓kRev_lst, ↓kRev_fl, ↓cE_isi, ↓kIsi_d, ↓kIsi_fl, ↓r_isN, ↓r_isNN, ↓r_lts, ↓r_les, ↓r_gts, ↓r_ges, ↓r_addbi, ↓r_strb, ↓r_strs, ↓kMe1_supp, ↓r_in_sl, ↓r_in_st, ↓r_ni_sl, ↓r_ni_st, ↓r_in_it, ↓r_ni_it, ↓cE_unot, ↓kNot_bl, ↓cE_band, ↓cE_bor, ↓cE_cmp, ↓kCmp1_eq, ↓cE_ife, ↓cE_tup, ↓cE_lst, ↓kTup0, ↓kTup1, ↓kTup2, ↓kTup3, ↓kTup4, ↓kTup5, ↓kLst0, ↓kLst1, ↓kLst2, ↓kLst3, ↓kLst4, ↓kLst5, ↓cE_call, ↓cE_bi, ↓cE_idx, ↓kIdx1_eq, ↓cE_slc, ↓kSlc1_eq, ↓kSlc2_eq, ↓kSlc3_lst, ↓kSlc3_fl, ↓kSlc3_tup, ↓kSlc3_sq, ↓cE_meth, ↓cE_dct, ↓cE_mkd, ↓kMkd_lst, ↓cE_lzip, ↓cL_nil, ↓cL_cons, ↓kRow_eq, ↓kCons_d, ↓kCons_ref, ↓kCons_fl, ↓kCons_sq, ↓cO_nop, ↓cO_sb, ↓kSb_int, ↓cP_nil, ↓cP_cons, ↓kPr1_d, ↓kPr2_d, ↓kPr2_fl, ↓kPr3_s, ↓kPr3_i, ↓cT_nil, ↓cT_cons, ↓cI_rng, ↓cI_rng2, ↓cI_zip, ↓kZip_tt, ↓kZip_ll, ↓cI_it, ↓kIt_lst, ↓kIt_tup, ↓kIt_fl, ↓kIt_str, ↓ckd_none, ↓unl_none, ↓cN_0, ↓cN_S, ↓kEn_eq, ↓cB_nm, ↓cB_tup, ↓cBs_nil, ↓cBs_cons, ↓kBs_eq, ↓cE_lc, ↓kLc_eq, ↓kLt1_eq, ↓kLt3_d, ↓kLt3_fl, ↓cG_d, ↓cG_ref, ↓cG_sq, ↓cG_fl, ↓cG_fd, ↓cA_d, ↓cA_ref, ↓cA_fl, ↓cA_fd, ↓cG_pt, ↓cG_unl, ↓cG_star, ↓cG_ix, ↓cG_ixl, ↓kIx1_eq, ↓cS_asg, ↓kAsg_eq, ↓kNx_eq, ↓cS_par, ↓kPar_eq, ↓cR_nil, ↓cR_cons, ↓kRw_nd, ↓kRw_nf, ↓kRw_nr, ↓kRw_ad, ↓kRw_af, ↓kRw_ar, ↓cW_nil, ↓cW_nd, ↓cW_nr, ↓cW_ad, ↓cW_ar, ↓cW_af, ↓kWs_eq, ↓cS_ret, ↓kRt_eq, ↓cS_ex, ↓kEx_eq, ↓cS_if, ↓cS_cons, ↓cS_nil, ↓cS_brk, ↓cS_cnt, ↓cS_pass, ↓kSeq_nx, ↓kSeq_ret, ↓kSeq_bk, ↓kSeq_ct, ↓cS_for, ↓kFor_eq, ↓kBody_eq, ↓kTurn_nx, ↓kTurn_ct, ↓kTurn_bk, ↓kTurn_ret, ↓cS_whl, ↓kWTurn_nx, ↓kWTurn_ct, ↓kWTurn_bk, ↓kWTurn_ret, ↓kFin_ret, ↓kFin_nx, ↓finish_d, ↓finish_fl, ↓finish_fd, ↓finish_sq, ↓r_add, ↓r_addb, ↓r_sub, ↓r_mul, ↓r_div, ↓r_mod, ↓r_pow, ↓r_shl, ↓r_shr, ↓r_and, ↓r_adds, ↓r_addt, ↓r_addl, ↓r_eqi, ↓r_nei, ↓r_eqs, ↓r_nes, ↓r_eqt0, ↓r_net0, ↓r_eql0, ↓r_nel0, ↓r_lt, ↓r_le, ↓r_gt, ↓r_ge, ↓r_lenl, ↓r_lent, ↓r_lens, ↓r_tupl, ↓r_tupt, ↓r_lisl, ↓r_list, ↓r_inti, ↓r_abs, ↓r_max, ↓r_min, ↓t2_0, ↓t2_1, ↓t2_2, ↓t2_3, ↓t2_4, ↓l2_0, ↓l2_1, ↓l2_2, ↓l2_3, ↓kRng_int, ↓kRng2_int, ↓ckd_some, ↓unl_t, ↓unl_f, ↓oK_some, ↓oC_some, ↓oP_some, ↓oW_some, ↓kRet_ok, ↓kLc2_t, ↓kLc2_f, ↓vIdx_dct, ↓vPt_some, ↓vUn_some, ↓kLc3_d, ↓kLc3_fl, ↓kIf_t, ↓kIf_f, ↓kIf_p, ↓kIf_n, ↓kIte_t, ↓kIte_f, ↓kIte_p, ↓kIte_n, ↓kAnd_t, ↓kAnd_f, ↓kAnd_p, ↓kAnd_n, ↓kOr_t, ↓kOr_f, ↓kOr_p, ↓kOr_n, ↓kTst_t, ↓kTst_f, ↓kTst_p, ↓kTst_n, ↓kWTest_p, ↓kWTest_n, ↓kLt2_t, ↓kLt2_f, ↓kLt2_p, ↓kCall_0, ↓kCall_r0, ↓kCall_r1, ↓kCall_r2, ↓kR0_d, ↓kR0_fl, ↓kR0_fd, ↓kR1_d, ↓kR1_fl, ↓kR1_fd, ↓kR1_ref, ↓m_pop1, ↓m_pop0, ↓m_app, ↓vTy_lst, ↓kMe1_pop, ↓kMe1_app, ↓kMe1_ext, ↓kMe1_idx, ↓m_ext, ↓bin_fl1, ↓bin_fl2, ↓vBin_dd, ↓cmp_fl1, ↓cmp_fl2, ↓vCmp_dd, ↓vBi_1, ↓idx_fl, ↓idx_fd, ↓vIdx_dd, ↓vSlc_d, ↓if_fl, ↓st21, ↓st32, ↓r_intt, ↓r_intf, ↓r_intp, ↓r_zipt, ↓u_w8a, ↓cut2, ↓if_pos, ↓if_neg, ↓reduceIte, kSlc3_str, r_stri, m_supp, isD_tup_non, isD_tup_bl, isD_tup_int, isD_tup_str, isD_tup_tup, isD_tup_lst, isD_lst_non, isD_lst_bl, isD_lst_int, isD_lst_str, isD_lst_tup, isD_lst_lst, isD_str_non, isD_str_bl, isD_str_int, isD_str_str, isD_str_tup, isD_str_lst, isD_int_non, isD_int_bl, isD_int_int, isD_int_str, isD_int_tup, isD_int_lst, isD_bl_non, isD_bl_bl, isD_bl_int, isD_bl_str, isD_bl_tup, isD_bl_lst, isD_dct_non, isD_dct_bl, isD_dct_int, isD_dct_str, isD_dct_tup, isD_dct_lst, isN_non, isN_bl, isN_int, isN_str, isN_tup, isN_lst, r_intb, bin_ref1, bin_ref2, cmp_ref1, cmp_ref2, bi_ref, idx_ref, slc_ref, r_eq, r_ne, kAnd_bl, kOr_bl, kIte_bl, kTst_bl, kIf_bl, kWTest_bl, kLt2_eq, kNot_eq, kAnd_eq, kOr_eq, kIte_eq, kTup_eq, kLst_eq, kIdx2_dd, vPop_lst, vPop0_lst, vApp_lst, emp_snoc, vExt_lst, m_tidx, idx_tmap, idx_lmap, kDct_eq, kLzip_eq, kTst_eq, kIt_ref, vWk_lst, vWk_lk, kIf_eq, kWTest_eq, kIx2_d, kRw_eq, kGl_some, finish_old, finish_new, vFin_lst, vFin_dct, cLc_nil, cLc_cons, kLc1_eq, kLc2_eq, cFor_nil, cFor_cons, view_d, view_fl, view_ref, vwC_lst, vwC_lk, vwC_dct, viewD_ref, viewD_d, viewD_fl, viewD_fd, vwD_lst, vwD_lk, vwD_dct, views_nil, views_cons, cnsO_some, frzs_nil, frzs_d, cnsF_some, putIx_ref, pIx_s, pIx_i, pIx_l, dGet_hit, dGet_miss, renW_self, renW_d, renW_sq, truW, tup_ok, lst_ok, List.map_cons, List.map_nil, List.all_cons, List.all_nil, List.contains_cons, List.contains_nil, List.elem_nil, List.getD_cons_zero, List.getD_cons_succ, List.getElem?_cons_zero, List.getElem?_cons_succ, List.getElem?_nil, List.set_cons_zero, List.set_cons_succ, List.length_cons, List.length_nil, List.nil_append, List.cons_append, List.append_nil, List.take_zero, List.take_succ_cons, List.take_nil, Bool.true_and, Bool.and_true, Bool.false_and, Bool.and_false, Bool.not_true, Bool.not_false, Bool.true_or, Bool.or_true, decide_eq_true_eq, Bool.not_eq_true', decide_eq_false_iff_not, reduceCtorEq, if_true, if_false, ite_true, ite_false, Bool.false_eq_true, Option.map_some, List.idxOf_cons, beq_self_eq_true, Nat.zero_add, cond_true, cond_false, D.truO, D.tru, List.isEmpty_cons, List.isEmpty_nil, Int.toNat_zero, List.length_map, clearO_nil, clearO_cons, Option.map_none, star_t, star_l, cut_pre, cut_suf, cut_mid, cut_all, take_map, drop_map, b2i_t, b2i_f, cut_tail, drop_one, toNat_1, toNat_2, toNat_3, List.drop_zero, cE_non, cE_bl, cE_int, cE_str, cE_var0, cE_varS, cE_glb, cE_bin, kBin1_eq, cE_neg, kNeg_int, cE_rev, kRev_tup, kRev_lst, kRev_fl, cE_isi, kIsi_d, kIsi_fl, r_isN, r_isNN, r_lts, r_les, r_gts, r_ges, r_addbi, r_strb, r_strs, kMe1_supp, r_in_sl, r_in_st, r_ni_sl, r_ni_st, r_in_it, r_ni_it, cE_unot, kNot_bl, cE_band, cE_bor, cE_cmp, kCmp1_eq, cE_ife, cE_tup, cE_lst, kTup0, kTup1, kTup2, kTup3, kTup4, kTup5, kLst0, kLst1, kLst2, kLst3, kLst4, kLst5, cE_call, cE_bi, cE_idx, kIdx1_eq, cE_slc, kSlc1_eq, kSlc2_eq, kSlc3_lst, kSlc3_fl, kSlc3_tup, kSlc3_sq, cE_meth, cE_dct, cE_mkd, kMkd_lst, cE_lzip, cL_nil, cL_cons, kRow_eq, kCons_d, kCons_ref, kCons_fl, kCons_sq, cO_nop, cO_sb, kSb_int, cP_nil, cP_cons, kPr1_d, kPr2_d, kPr2_fl, kPr3_s, kPr3_i, cT_nil, cT_cons, cI_rng, cI_rng2, cI_zip, kZip_tt, kZip_ll, cI_it, kIt_lst, kIt_tup, kIt_fl, kIt_str, ckd_none, unl_none, cN_0, cN_S, kEn_eq, cB_nm, cB_tup, cBs_nil, cBs_cons, kBs_eq, cE_lc, kLc_eq, kLt1_eq, kLt3_d, kLt3_fl, cG_d, cG_ref, cG_sq, cG_fl, cG_fd, cA_d, cA_ref, cA_fl, cA_fd, cG_pt, cG_unl, cG_star, cG_ix, cG_ixl, kIx1_eq, cS_asg, kAsg_eq, kNx_eq, cS_par, kPar_eq, cR_nil, cR_cons, kRw_nd, kRw_nf, kRw_nr, kRw_ad, kRw_af, kRw_ar, cW_nil, cW_nd, cW_nr, cW_ad, cW_ar, cW_af, kWs_eq, cS_ret, kRt_eq, cS_ex, kEx_eq, cS_if, cS_cons, cS_nil, cS_brk, cS_cnt, cS_pass, kSeq_nx, kSeq_ret, kSeq_bk, kSeq_ct, cS_for, kFor_eq, kBody_eq, kTurn_nx, kTurn_ct, kTurn_bk, kTurn_ret, cS_whl, kWTurn_nx, kWTurn_ct, kWTurn_bk, kWTurn_ret, kFin_ret, kFin_nx, finish_d, finish_fl, finish_fd, finish_sq, r_add, r_addb, r_sub, r_mul, r_div, r_mod, r_pow, r_shl, r_shr, r_and, r_adds, r_addt, r_addl, r_eqi, r_nei, r_eqs, r_nes, r_eqt0, r_net0, r_eql0, r_nel0, r_lt, r_le, r_gt, r_ge, r_lenl, r_lent, r_lens, r_tupl, r_tupt, r_lisl, r_list, r_inti, r_abs, r_max, r_min, t2_0, t2_1, t2_2, t2_3, t2_4, l2_0, l2_1, l2_2, l2_3, kRng_int, kRng2_int, ckd_some, unl_t, unl_f, oK_some, oC_some, oP_some, oW_some, kRet_ok, kLc2_t, kLc2_f, vIdx_dct, vPt_some, vUn_some, kLc3_d, kLc3_fl, kIf_t, kIf_f, kIf_p, kIf_n, kIte_t, kIte_f, kIte_p, kIte_n, kAnd_t, kAnd_f, kAnd_p, kAnd_n, kOr_t, kOr_f, kOr_p, kOr_n, kTst_t, kTst_f, kTst_p, kTst_n, kWTest_p, kWTest_n, kLt2_t, kLt2_f, kLt2_p, kCall_0, kCall_r0, kCall_r1, kCall_r2, kR0_d, kR0_fl, kR0_fd, kR1_d, kR1_fl, kR1_fd, kR1_ref, m_pop1, m_pop0, m_app, vTy_lst, kMe1_pop, kMe1_app, kMe1_ext, kMe1_idx, m_ext, bin_fl1, bin_fl2, vBin_dd, cmp_fl1, cmp_fl2, vCmp_dd, vBi_1, idx_fl, idx_fd, vIdx_dd, vSlc_d, if_fl, st21, st32, r_intt, r_intf, r_intp, r_zipt, *])
theorem near_ok {n : Nat} {ms : List Str} {xs : List D} (hl : ms.length ≤ 8) (hx : xs.length ≤ 100000) : callN U (n + 1) 8 [.d (.tup (sD ms)), .d (.tup xs)] [] = .ok (.fl (near ms xs), []) := by
  rw [run_def rfl ⟨rfl, by decide⟩]
  simp only [f8, b8, List.map, List.replicate, Nat.reduceSub]
  simp only [near, near0, nearW, lf]
  match ms, hl with
  | [], _ => walk_at "lf"; rfl
  | [a], _ => walk_at "lf"; rfl
  | a :: b :: r, _ =>
    have e : List.take 2 (a :: b :: r) = [a, b] := rfl
    walk_at "lfs"
    simp only [List.flatMap_cons, List.flatMap_nil, List.append_nil]
    rfl
end Lf.K04
end

section
set_option maxHeartbeats 4000000
/-! k04: the law. -/
namespace Lf.K04
open PySem Lf
/-! ### the chain -/
def cw : List Str := (["ka", "kb", "kc", "kd", "ke", "kf", "kg", "kh", "ki", "kj", "kk", "kl", "km", "kn", "ko", "kp", "kq", "kr", "ks", "kt", "ku", "kv", "kw", "kx", "ky", "ma", "mb", "mc", "md", "me", "mf", "mg", "mh", "mi", "mj", "mk", "ml", "mm", "mn", "mo"] : List String).map Str.ofString
def chn : List Str → D → D
  | [], x => x
  | w :: ws, x => chn ws (.tup [.str "ask", .str w, lf, x])
def ch0 : D := chn (cw.take 25) (.tup [.str "leaf", .bl false])
def late : D := .tup [.str "ask", .str "mn", lf, .tup [.str "ask", .str "mo", lf, lf]]
def ct : List D := [ch0, .tup [.str "ask", .str "ka", ch0, ch0], .tup [.str "ask", .str "l", lf, ch0], late, .tup [.str "ask", .str "ka", late, late]]
theorem chain_ok {n : Nat} : callN U (n + 1) 9 [] [] = .ok (.d (.tup [.tup (sD cw), .lst ct]), []) := by kernel_rfl
/-- a thing that is looked at, with its marks -/
structure Ok (p : List Str × D) : Prop where
  s : ∀ m ∈ p.1, okS m = true
  l : p.1.length ≤ 60
  b : Bd 3 60 200000 p.2
def pD (p : List Str × D) : D := .tup [.tup (sD p.1), p.2]
theorem Ok.rep {p : List Str × D} (h : Ok p) : (pD p).repOk = true := by
  have e1 := sD_tame p.1 h.s
  have e2 := asc_tame (by decide) _ h.b.a
  have e3 := sD_ub p.1 h.s
  have e4 := h.b.u
  have e5 := h.b.d
  have e6 := sD_dep p.1
  have e7 := h.l
  refine rep_of ?_ ?_ ?_
  · simp [pD, D.tame, D.tames, e1, e2]
  · simp only [pD, D.dep, D.deps, e6]; omega
  · simp only [pD, D.ub, D.ubs]; omega
theorem ckd_1 {β : Type} {k : Bool} {xs : List D} {c0 : Cell} {c : Cells} {r : Res β} : ckd (some (1, k)) xs (c0 :: .lk xs :: c) r = r := ckd_some rfl
theorem unl_1 {β : Type} {xs : List D} {c0 : Cell} {c : Cells} {K : Cells → Res β} : unl (some (1, true)) xs (c0 :: .lk xs :: c) K = K (c0 :: .lst xs :: c) := unl_t rfl
local macro_rules | `(tactic| walk_at "lf") => `(tactic| simp -implicitDefEqProofs (disch := (first | with_reducible assumption | omega | decide +kernel | (simp only [List.length_cons, List.length_nil, List.length_map, List.length_append, List.length_take, List.length_drop, List.length_reverse, tap_len]; omega) | exact of_decide_eq_true (id rfl) | fail)) only [↓cE_non, ↓cE_bl, ↓cE_int, ↓cE_str, ↓cE_var0, ↓cE_varS, ↓cE_glb, ↓cE_bin, ↓kBin1_eq, ↓cE_neg, ↓kNeg_int, ↓cE_rev, ↓kRev_tup, ↓kRev_lst, ↓kRev_fl, ↓cE_isi, ↓kIsi_d, ↓kIsi_fl, ↓r_isN, ↓r_isNN, ↓r_lts, ↓r_les, ↓r_gts, ↓r_ges, ↓r_addbi, ↓r_strb, ↓r_strs, ↓kMe1_supp, ↓r_in_sl, ↓r_in_st, ↓r_ni_sl, ↓r_ni_st, ↓r_in_it, ↓r_ni_it, ↓cE_unot, ↓kNot_bl, ↓cE_band, ↓cE_bor, ↓cE_cmp, ↓kCmp1_eq, ↓cE_ife, ↓cE_tup, ↓cE_lst, ↓kTup0, ↓kTup1, ↓kTup2, ↓kTup3, ↓kTup4, ↓kTup5, ↓kLst0, ↓kLst1, ↓kLst2, ↓kLst3, ↓kLst4, ↓kLst5, ↓cE_call, ↓cE_bi, ↓cE_idx, ↓kIdx1_eq, ↓cE_slc, ↓kSlc1_eq, ↓kSlc2_eq, ↓kSlc3_lst, ↓kSlc3_fl, ↓kSlc3_tup, ↓kSlc3_sq, ↓cE_meth, ↓cE_dct, ↓cE_mkd, ↓kMkd_lst, ↓cE_lzip, ↓cL_nil, ↓cL_cons, ↓kRow_eq, ↓kCons_d, ↓kCons_ref, ↓kCons_fl, ↓kCons_sq, ↓cO_nop, ↓cO_sb, ↓kSb_int, ↓cP_nil, ↓cP_cons, ↓kPr1_d, ↓kPr2_d, ↓kPr2_fl, ↓kPr3_s, ↓kPr3_i, ↓cT_nil, ↓cT_cons, ↓cI_rng, ↓cI_rng2, ↓cI_zip, ↓kZip_tt, ↓kZip_ll, ↓cI_it, ↓kIt_lst, ↓kIt_tup, ↓kIt_fl, ↓kIt_str, ↓ckd_none, ↓unl_none, ↓cN_0, ↓cN_S, ↓kEn_eq, ↓cB_nm, ↓cB_tup, ↓cBs_nil, ↓cBs_cons, ↓kBs_eq, ↓cE_lc, ↓kLc_eq, ↓kLt1_eq, ↓kLt3_d, ↓kLt3_fl, ↓cG_d, ↓cG_ref, ↓cG_sq, ↓cG_fl, ↓cG_fd, ↓cA_d, ↓cA_ref, ↓cA_fl, ↓cA_fd, ↓cG_pt, ↓cG_unl, ↓cG_star, ↓cG_ix, ↓cG_ixl, ↓kIx1_eq, ↓cS_asg, ↓kAsg_eq, ↓kNx_eq, ↓cS_par, ↓kPar_eq, ↓cR_nil, ↓cR_cons, ↓kRw_nd, ↓kRw_nf, ↓kRw_nr, ↓kRw_ad, ↓kRw_af, ↓kRw_ar, ↓cW_nil, ↓cW_nd, ↓cW_nr, ↓cW_ad, ↓cW_ar, ↓cW_af, ↓kWs_eq, ↓cS_ret, ↓kRt_eq, ↓cS_ex, ↓kEx_eq, ↓cS_if, ↓cS_cons, ↓cS_nil, ↓cS_brk, ↓cS_cnt, ↓cS_pass, ↓kSeq_nx, ↓kSeq_ret, ↓kSeq_bk, ↓kSeq_ct, ↓cS_for, ↓kFor_eq, ↓kBody_eq, ↓kTurn_nx, ↓kTurn_ct, ↓kTurn_bk, ↓kTurn_ret, ↓cS_whl, ↓kWTurn_nx, ↓kWTurn_ct, ↓kWTurn_bk, ↓kWTurn_ret, ↓kFin_ret, ↓kFin_nx, ↓finish_d, ↓finish_fl, ↓finish_fd, ↓finish_sq, ↓r_add, ↓r_addb, ↓r_sub, ↓r_mul, ↓r_div, ↓r_mod, ↓r_pow, ↓r_shl, ↓r_shr, ↓r_and, ↓r_adds, ↓r_addt, ↓r_addl, ↓r_eqi, ↓r_nei, ↓r_eqs, ↓r_nes, ↓r_eqt0, ↓r_net0, ↓r_eql0, ↓r_nel0, ↓r_lt, ↓r_le, ↓r_gt, ↓r_ge, ↓r_lenl, ↓r_lent, ↓r_lens, ↓r_tupl, ↓r_tupt, ↓r_lisl, ↓r_list, ↓r_inti, ↓r_abs, ↓r_max, ↓r_min, ↓t2_0, ↓t2_1, ↓t2_2, ↓t2_3, ↓t2_4, ↓l2_0, ↓l2_1, ↓l2_2, ↓l2_3, ↓kRng_int, ↓kRng2_int, ↓ckd_some, ↓unl_t, ↓unl_f, ↓oK_some, ↓oC_some, ↓oP_some, ↓oW_some, ↓kRet_ok, ↓kLc2_t, ↓kLc2_f, ↓vIdx_dct, ↓vPt_some, ↓vUn_some, ↓kLc3_d, ↓kLc3_fl, ↓kIf_t, ↓kIf_f, ↓kIf_p, ↓kIf_n, ↓kIte_t, ↓kIte_f, ↓kIte_p, ↓kIte_n, ↓kAnd_t, ↓kAnd_f, ↓kAnd_p, ↓kAnd_n, ↓kOr_t, ↓kOr_f, ↓kOr_p, ↓kOr_n, ↓kTst_t, ↓kTst_f, ↓kTst_p, ↓kTst_n, ↓kWTest_p, ↓kWTest_n, ↓kLt2_t, ↓kLt2_f, ↓kLt2_p, ↓kCall_0, ↓kCall_r0, ↓kCall_r1, ↓kCall_r2, ↓kR0_d, ↓kR0_fl, ↓kR0_fd, ↓kR1_d, ↓kR1_fl, ↓kR1_fd, ↓kR1_ref, ↓m_pop1, ↓m_pop0, ↓m_app, ↓vTy_lst, ↓kMe1_pop, ↓kMe1_app, ↓kMe1_ext, ↓kMe1_idx, ↓m_ext, ↓bin_fl1, ↓bin_fl2, ↓vBin_dd, ↓cmp_fl1, ↓cmp_fl2, ↓vCmp_dd, ↓vBi_1, ↓idx_fl, ↓idx_fd, ↓vIdx_dd, ↓vSlc_d, ↓if_fl, ↓st21, ↓st32, ↓r_intt, ↓r_intf, ↓r_intp, ↓r_zipt, ↓u_w10c, ↓r_rep_bl, ↓r_repr, ↓ckd_1, ↓unl_1, ↓if_pos, ↓if_neg, ↓reduceIte, kSlc3_str, r_stri, m_supp, isD_tup_non, isD_tup_bl, isD_tup_int, isD_tup_str, isD_tup_tup, isD_tup_lst, isD_lst_non, isD_lst_bl, isD_lst_int, isD_lst_str, isD_lst_tup, isD_lst_lst, isD_str_non, isD_str_bl, isD_str_int, isD_str_str, isD_str_tup, isD_str_lst, isD_int_non, isD_int_bl, isD_int_int, isD_int_str, isD_int_tup, isD_int_lst, isD_bl_non, isD_bl_bl, isD_bl_int, isD_bl_str, isD_bl_tup, isD_bl_lst, isD_dct_non, isD_dct_bl, isD_dct_int, isD_dct_str, isD_dct_tup, isD_dct_lst, isN_non, isN_bl, isN_int, isN_str, isN_tup, isN_lst, r_intb, bin_ref1, bin_ref2, cmp_ref1, cmp_ref2, bi_ref, idx_ref, slc_ref, r_eq, r_ne, kAnd_bl, kOr_bl, kIte_bl, kTst_bl, kIf_bl, kWTest_bl, kLt2_eq, kNot_eq, kAnd_eq, kOr_eq, kIte_eq, kTup_eq, kLst_eq, kIdx2_dd, vPop_lst, vPop0_lst, vApp_lst, emp_snoc, vExt_lst, m_tidx, idx_tmap, idx_lmap, kDct_eq, kLzip_eq, kTst_eq, kIt_ref, vWk_lst, vWk_lk, kIf_eq, kWTest_eq, kIx2_d, kRw_eq, kGl_some, finish_old, finish_new, vFin_lst, vFin_dct, cLc_nil, cLc_cons, kLc1_eq, kLc2_eq, cFor_nil, cFor_cons, view_d, view_fl, view_ref, vwC_lst, vwC_lk, vwC_dct, viewD_ref, viewD_d, viewD_fl, viewD_fd, vwD_lst, vwD_lk, vwD_dct, views_nil, views_cons, cnsO_some, frzs_nil, frzs_d, cnsF_some, putIx_ref, pIx_s, pIx_i, pIx_l, dGet_hit, dGet_miss, renW_self, renW_d, renW_sq, truW, tup_ok, lst_ok, List.map_cons, List.map_nil, List.all_cons, List.all_nil, List.contains_cons, List.contains_nil, List.elem_nil, List.getD_cons_zero, List.getD_cons_succ, List.getElem?_cons_zero, List.getElem?_cons_succ, List.getElem?_nil, List.set_cons_zero, List.set_cons_succ, List.length_cons, List.length_nil, List.nil_append, List.cons_append, List.append_nil, List.take_zero, List.take_succ_cons, List.take_nil, Bool.true_and, Bool.and_true, Bool.false_and, Bool.and_false, Bool.not_true, Bool.not_false, Bool.true_or, Bool.or_true, decide_eq_true_eq, Bool.not_eq_true', decide_eq_false_iff_not, reduceCtorEq, if_true, if_false, ite_true, ite_false, Bool.false_eq_true, Option.map_some, List.idxOf_cons, beq_self_eq_true, Nat.zero_add, cond_true, cond_false, D.truO, D.tru, List.isEmpty_cons, List.isEmpty_nil, Int.toNat_zero, List.length_map, clearO_nil, clearO_cons, Option.map_none, star_t, star_l, cut_pre, cut_suf, cut_mid, cut_all, take_map, drop_map, b2i_t, b2i_f, cut_tail, drop_one, toNat_1, toNat_2, toNat_3, List.drop_zero, cE_non, cE_bl, cE_int, cE_str, cE_var0, cE_varS, cE_glb, cE_bin, kBin1_eq, cE_neg, kNeg_int, cE_rev, kRev_tup, kRev_lst, kRev_fl, cE_isi, kIsi_d, kIsi_fl, r_isN, r_isNN, r_lts, r_les, r_gts, r_ges, r_addbi, r_strb, r_strs, kMe1_supp, r_in_sl, r_in_st, r_ni_sl, r_ni_st, r_in_it, r_ni_it, cE_unot, kNot_bl, cE_band, cE_bor, cE_cmp, kCmp1_eq, cE_ife, cE_tup, cE_lst, kTup0, kTup1, kTup2, kTup3, kTup4, kTup5, kLst0, kLst1, kLst2, kLst3, kLst4, kLst5, cE_call, cE_bi, cE_idx, kIdx1_eq, cE_slc, kSlc1_eq, kSlc2_eq, kSlc3_lst, kSlc3_fl, kSlc3_tup, kSlc3_sq, cE_meth, cE_dct, cE_mkd, kMkd_lst, cE_lzip, cL_nil, cL_cons, kRow_eq, kCons_d, kCons_ref, kCons_fl, kCons_sq, cO_nop, cO_sb, kSb_int, cP_nil, cP_cons, kPr1_d, kPr2_d, kPr2_fl, kPr3_s, kPr3_i, cT_nil, cT_cons, cI_rng, cI_rng2, cI_zip, kZip_tt, kZip_ll, cI_it, kIt_lst, kIt_tup, kIt_fl, kIt_str, ckd_none, unl_none, cN_0, cN_S, kEn_eq, cB_nm, cB_tup, cBs_nil, cBs_cons, kBs_eq, cE_lc, kLc_eq, kLt1_eq, kLt3_d, kLt3_fl, cG_d, cG_ref, cG_sq, cG_fl, cG_fd, cA_d, cA_ref, cA_fl, cA_fd, cG_pt, cG_unl, cG_star, cG_ix, cG_ixl, kIx1_eq, cS_asg, kAsg_eq, kNx_eq, cS_par, kPar_eq, cR_nil, cR_cons, kRw_nd, kRw_nf, kRw_nr, kRw_ad, kRw_af, kRw_ar, cW_nil, cW_nd, cW_nr, cW_ad, cW_ar, cW_af, kWs_eq, cS_ret, kRt_eq, cS_ex, kEx_eq, cS_if, cS_cons, cS_nil, cS_brk, cS_cnt, cS_pass, kSeq_nx, kSeq_ret, kSeq_bk, kSeq_ct, cS_for, kFor_eq, kBody_eq, kTurn_nx, kTurn_ct, kTurn_bk, kTurn_ret, cS_whl, kWTurn_nx, kWTurn_ct, kWTurn_bk, kWTurn_ret, kFin_ret, kFin_nx, finish_d, finish_fl, finish_fd, finish_sq, r_add, r_addb, r_sub, r_mul, r_div, r_mod, r_pow, r_shl, r_shr, r_and, r_adds, r_addt, r_addl, r_eqi, r_nei, r_eqs, r_nes, r_eqt0, r_net0, r_eql0, r_nel0, r_lt, r_le, r_gt, r_ge, r_lenl, r_lent, r_lens, r_tupl, r_tupt, r_lisl, r_list, r_inti, r_abs, r_max, r_min, t2_0, t2_1, t2_2, t2_3, t2_4, l2_0, l2_1, l2_2, l2_3, kRng_int, kRng2_int, ckd_some, unl_t, unl_f, oK_some, oC_some, oP_some, oW_some, kRet_ok, kLc2_t, kLc2_f, vIdx_dct, vPt_some, vUn_some, kLc3_d, kLc3_fl, kIf_t, kIf_f, kIf_p, kIf_n, kIte_t, kIte_f, kIte_p, kIte_n, kAnd_t, kAnd_f, kAnd_p, kAnd_n, kOr_t, kOr_f, kOr_p, kOr_n, kTst_t, kTst_f, kTst_p, kTst_n, kWTest_p, kWTest_n, kLt2_t, kLt2_f, kLt2_p, kCall_0, kCall_r0, kCall_r1, kCall_r2, kR0_d, kR0_fl, kR0_fd, kR1_d, kR1_fl, kR1_fd, kR1_ref, m_pop1, m_pop0, m_app, vTy_lst, kMe1_pop, kMe1_app, kMe1_ext, kMe1_idx, m_ext, bin_fl1, bin_fl2, vBin_dd, cmp_fl1, cmp_fl2, vCmp_dd, vBi_1, idx_fl, idx_fd, vIdx_dd, vSlc_d, if_fl, st21, st32, r_intt, r_intf, r_intp, r_zipt])
local macro_rules | `(tactic| walk_at "lfs") => `(tactic| simp -implicitDefEqProofs (disch := (first | with_reducible assumption | omega | decide +kernel | (simp only [List.length_cons, List.length_nil, List.length_map, List.length_append, List.length_take, List.length_drop, List.length_reverse, tap_len]; omega) | exact of_decide_eq_true (id rfl) | fail)) only [↓cE_non, ↓cE_bl, ↓cE_int, ↓cE_str, ↓cE_var0, ↓cE_varS, ↓cE_glb, ↓cE_bin, ↓kBin1_eq, ↓cE_neg, ↓kNeg_int, ↓cE_rev, ↓kRev_tup, ↓kRev_lst, ↓kRev_fl, ↓cE_isi, ↓kIsi_d, ↓kIsi_fl, ↓r_isN, ↓r_isNN, ↓r_lts, ↓r_les, ↓r_gts, ↓r_ges, ↓r_addbi, ↓r_strb, ↓r_strs, ↓kMe1_supp, ↓r_in_sl, ↓r_in_st, ↓r_ni_sl, ↓r_ni_st, ↓r_in_it, ↓r_ni_it, ↓cE_unot, ↓kNot_bl, ↓cE_band, ↓cE_bor, ↓cE_cmp, ↓kCmp1_eq, ↓cE_ife, ↓cE_tup, ↓cE_lst, ↓kTup0, ↓kTup1, ↓kTup2, ↓kTup3, ↓kTup4, ↓kTup5, ↓kLst0, ↓kLst1, ↓kLst2, ↓kLst3, ↓kLst4, ↓kLst5, ↓cE_call, ↓cE_bi, ↓cE_idx, ↓kIdx1_eq, ↓cE_slc, ↓kSlc1_eq, ↓kSlc2_eq, ↓kSlc3_lst, ↓kSlc3_fl, ↓kSlc3_tup, ↓kSlc3_sq, ↓cE_meth, ↓cE_dct, ↓cE_mkd, ↓kMkd_lst, ↓cE_lzip, ↓cL_nil, ↓cL_cons, ↓kRow_eq, ↓kCons_d, ↓kCons_ref, ↓kCons_fl, ↓kCons_sq, ↓cO_nop, ↓cO_sb, ↓kSb_int, ↓cP_nil, ↓cP_cons, ↓kPr1_d, ↓kPr2_d, ↓kPr2_fl, ↓kPr3_s, ↓kPr3_i, ↓cT_nil, ↓cT_cons, ↓cI_rng, ↓cI_rng2, ↓cI_zip, ↓kZip_tt, ↓kZip_ll, ↓cI_it, ↓kIt_lst, ↓kIt_tup, ↓kIt_fl, ↓kIt_str, ↓ckd_none, ↓unl_none, ↓cN_0, ↓cN_S, ↓kEn_eq, ↓cB_nm, ↓cB_tup, ↓cBs_nil, ↓cBs_cons, ↓kBs_eq, ↓cE_lc, ↓kLc_eq, ↓kLt1_eq, ↓kLt3_d, ↓kLt3_fl, ↓cG_d, ↓cG_ref, ↓cG_sq, ↓cG_fl, ↓cG_fd, ↓cA_d, ↓cA_ref, ↓cA_fl, ↓cA_fd, ↓cG_pt, ↓cG_unl, ↓cG_star, ↓cG_ix, ↓cG_ixl, ↓kIx1_eq, ↓cS_asg, ↓kAsg_eq, ↓kNx_eq, ↓cS_par, ↓kPar_eq, ↓cR_nil, ↓cR_cons, ↓kRw_nd, ↓kRw_nf, ↓kRw_nr, ↓kRw_ad, ↓kRw_af, ↓kRw_ar, ↓cW_nil, ↓cW_nd, ↓cW_nr, ↓cW_ad, ↓cW_ar, ↓cW_af, ↓kWs_eq, ↓cS_ret, ↓kRt_eq, ↓cS_ex, ↓kEx_eq, ↓cS_if, ↓cS_cons, ↓cS_nil, ↓cS_brk, ↓cS_cnt, ↓cS_pass, ↓kSeq_nx, ↓kSeq_ret, ↓kSeq_bk, ↓kSeq_ct, ↓cS_for, ↓kFor_eq, ↓kBody_eq, ↓kTurn_nx, ↓kTurn_ct, ↓kTurn_bk, ↓kTurn_ret, ↓cS_whl, ↓kWTurn_nx, ↓kWTurn_ct, ↓kWTurn_bk, ↓kWTurn_ret, ↓kFin_ret, ↓kFin_nx, ↓finish_d, ↓finish_fl, ↓finish_fd, ↓finish_sq, ↓r_add, ↓r_addb, ↓r_sub, ↓r_mul, ↓r_div, ↓r_mod, ↓r_pow, ↓r_shl, ↓r_shr, ↓r_and, ↓r_adds, ↓r_addt, ↓r_addl, ↓r_eqi, ↓r_nei, ↓r_eqs, ↓r_nes, ↓r_eqt0, ↓r_net0, ↓r_eql0, ↓r_nel0, ↓r_lt, ↓r_le, ↓r_gt, ↓r_ge, ↓r_lenl, ↓r_lent, ↓r_lens, ↓r_tupl, ↓r_tupt, ↓r_lisl, ↓r_list, ↓r_inti, ↓r_abs, ↓r_max, ↓r_min, ↓t2_0, ↓t2_1, ↓t2_2, ↓t2_3, ↓t2_4, ↓l2_0, ↓l2_1, ↓l2_2, ↓l2_3, ↓kRng_int, ↓kRng2_int, ↓ckd_some, ↓unl_t, ↓unl_f, ↓oK_some, ↓oC_some, ↓oP_some, ↓oW_some, ↓kRet_ok, ↓kLc2_t, ↓kLc2_f, ↓vIdx_dct, ↓vPt_some, ↓vUn_some, ↓kLc3_d, ↓kLc3_fl, ↓kIf_t, ↓kIf_f, ↓kIf_p, ↓kIf_n, ↓kIte_t, ↓kIte_f, ↓kIte_p, ↓kIte_n, ↓kAnd_t, ↓kAnd_f, ↓kAnd_p, ↓kAnd_n, ↓kOr_t, ↓kOr_f, ↓kOr_p, ↓kOr_n, ↓kTst_t, ↓kTst_f, ↓kTst_p, ↓kTst_n, ↓kWTest_p, ↓kWTest_n, ↓kLt2_t, ↓kLt2_f, ↓kLt2_p, ↓kCall_0, ↓kCall_r0, ↓kCall_r1, ↓kCall_r2, ↓kR0_d, ↓kR0_fl, ↓kR0_fd, ↓kR1_d, ↓kR1_fl, ↓kR1_fd, ↓kR1_ref, ↓m_pop1, ↓m_pop0, ↓m_app, ↓vTy_lst, ↓kMe1_pop, ↓kMe1_app, ↓kMe1_ext, ↓kMe1_idx, ↓m_ext, ↓bin_fl1, ↓bin_fl2, ↓vBin_dd, ↓cmp_fl1, ↓cmp_fl2, ↓vCmp_dd, ↓vBi_1, ↓idx_fl, ↓idx_fd, ↓vIdx_dd, ↓vSlc_d, ↓if_fl, ↓st21, ↓st32, ↓r_intt, ↓r_intf, ↓r_intp, ↓r_zipt, ↓u_w10c, ↓r_rep_bl, ↓r_repr, ↓ckd_1, ↓unl_1, ↓if_pos, ↓if_neg, ↓reduceIte, kSlc3_str, r_stri, m_supp, isD_tup_non, isD_tup_bl, isD_tup_int, isD_tup_str, isD_tup_tup, isD_tup_lst, isD_lst_non, isD_lst_bl, isD_lst_int, isD_lst_str, isD_lst_tup, isD_lst_lst, isD_str_non, isD_str_bl, isD_str_int, isD_str_str, isD_str_tup, isD_str_lst, isD_int_non, isD_int_bl, isD_int_int, isD_int_str, isD_int_tup, isD_int_lst, isD_bl_non, isD_bl_bl, isD_bl_int, isD_bl_str, isD_bl_tup, isD_bl_lst, isD_dct_non, isD_dct_bl, isD_dct_int, isD_dct_str, isD_dct_tup, isD_dct_lst, isN_non, isN_bl, isN_int, isN_str, isN_tup, isN_lst, r_intb, bin_ref1, bin_ref2, cmp_ref1, cmp_ref2, bi_ref, idx_ref, slc_ref, r_eq, r_ne, kAnd_bl, kOr_bl, kIte_bl, kTst_bl, kIf_bl, kWTest_bl, kLt2_eq, kNot_eq, kAnd_eq, kOr_eq, kIte_eq, kTup_eq, kLst_eq, kIdx2_dd, vPop_lst, vPop0_lst, vApp_lst, emp_snoc, vExt_lst, m_tidx, idx_tmap, idx_lmap, kDct_eq, kLzip_eq, kTst_eq, kIt_ref, vWk_lst, vWk_lk, kIf_eq, kWTest_eq, kIx2_d, kRw_eq, kGl_some, finish_old, finish_new, vFin_lst, vFin_dct, cLc_nil, cLc_cons, kLc1_eq, kLc2_eq, cFor_nil, cFor_cons, view_d, view_fl, view_ref, vwC_lst, vwC_lk, vwC_dct, viewD_ref, viewD_d, viewD_fl, viewD_fd, vwD_lst, vwD_lk, vwD_dct, views_nil, views_cons, cnsO_some, frzs_nil, frzs_d, cnsF_some, putIx_ref, pIx_s, pIx_i, pIx_l, dGet_hit, dGet_miss, renW_self, renW_d, renW_sq, truW, tup_ok, lst_ok, List.map_cons, List.map_nil, List.all_cons, List.all_nil, List.contains_cons, List.contains_nil, List.elem_nil, List.getD_cons_zero, List.getD_cons_succ, List.getElem?_cons_zero, List.getElem?_cons_succ, List.getElem?_nil, List.set_cons_zero, List.set_cons_succ, List.length_cons, List.length_nil, List.nil_append, List.cons_append, List.append_nil, List.take_zero, List.take_succ_cons, List.take_nil, Bool.true_and, Bool.and_true, Bool.false_and, Bool.and_false, Bool.not_true, Bool.not_false, Bool.true_or, Bool.or_true, decide_eq_true_eq, Bool.not_eq_true', decide_eq_false_iff_not, reduceCtorEq, if_true, if_false, ite_true, ite_false, Bool.false_eq_true, Option.map_some, List.idxOf_cons, beq_self_eq_true, Nat.zero_add, cond_true, cond_false, D.truO, D.tru, List.isEmpty_cons, List.isEmpty_nil, Int.toNat_zero, List.length_map, clearO_nil, clearO_cons, Option.map_none, star_t, star_l, cut_pre, cut_suf, cut_mid, cut_all, take_map, drop_map, b2i_t, b2i_f, cut_tail, drop_one, toNat_1, toNat_2, toNat_3, List.drop_zero, cE_non, cE_bl, cE_int, cE_str, cE_var0, cE_varS, cE_glb, cE_bin, kBin1_eq, cE_neg, kNeg_int, cE_rev, kRev_tup, kRev_lst, kRev_fl, cE_isi, kIsi_d, kIsi_fl, r_isN, r_isNN, r_lts, r_les, r_gts, r_ges, r_addbi, r_strb, r_strs, kMe1_supp, r_in_sl, r_in_st, r_ni_sl, r_ni_st, r_in_it, r_ni_it, cE_unot, kNot_bl, cE_band, cE_bor, cE_cmp, kCmp1_eq, cE_ife, cE_tup, cE_lst, kTup0, kTup1, kTup2, kTup3, kTup4, kTup5, kLst0, kLst1, kLst2, kLst3, kLst4, kLst5, cE_call, cE_bi, cE_idx, kIdx1_eq, cE_slc, kSlc1_eq, kSlc2_eq, kSlc3_lst, kSlc3_fl, kSlc3_tup, kSlc3_sq, cE_meth, cE_dct, cE_mkd, kMkd_lst, cE_lzip, cL_nil, cL_cons, kRow_eq, kCons_d, kCons_ref, kCons_fl, kCons_sq, cO_nop, cO_sb, kSb_int, cP_nil, cP_cons, kPr1_d, kPr2_d, kPr2_fl, kPr3_s, kPr3_i, cT_nil, cT_cons, cI_rng, cI_rng2, cI_zip, kZip_tt, kZip_ll, cI_it, kIt_lst, kIt_tup, kIt_fl, kIt_str, ckd_none, unl_none, cN_0, cN_S, kEn_eq, cB_nm, cB_tup, cBs_nil, cBs_cons, kBs_eq, cE_lc, kLc_eq, kLt1_eq, kLt3_d, kLt3_fl, cG_d, cG_ref, cG_sq, cG_fl, cG_fd, cA_d, cA_ref, cA_fl, cA_fd, cG_pt, cG_unl, cG_star, cG_ix, cG_ixl, kIx1_eq, cS_asg, kAsg_eq, kNx_eq, cS_par, kPar_eq, cR_nil, cR_cons, kRw_nd, kRw_nf, kRw_nr, kRw_ad, kRw_af, kRw_ar, cW_nil, cW_nd, cW_nr, cW_ad, cW_ar, cW_af, kWs_eq, cS_ret, kRt_eq, cS_ex, kEx_eq, cS_if, cS_cons, cS_nil, cS_brk, cS_cnt, cS_pass, kSeq_nx, kSeq_ret, kSeq_bk, kSeq_ct, cS_for, kFor_eq, kBody_eq, kTurn_nx, kTurn_ct, kTurn_bk, kTurn_ret, cS_whl, kWTurn_nx, kWTurn_ct, kWTurn_bk, kWTurn_ret, kFin_ret, kFin_nx, finish_d, finish_fl, finish_fd, finish_sq, r_add, r_addb, r_sub, r_mul, r_div, r_mod, r_pow, r_shl, r_shr, r_and, r_adds, r_addt, r_addl, r_eqi, r_nei, r_eqs, r_nes, r_eqt0, r_net0, r_eql0, r_nel0, r_lt, r_le, r_gt, r_ge, r_lenl, r_lent, r_lens, r_tupl, r_tupt, r_lisl, r_list, r_inti, r_abs, r_max, r_min, t2_0, t2_1, t2_2, t2_3, t2_4, l2_0, l2_1, l2_2, l2_3, kRng_int, kRng2_int, ckd_some, unl_t, unl_f, oK_some, oC_some, oP_some, oW_some, kRet_ok, kLc2_t, kLc2_f, vIdx_dct, vPt_some, vUn_some, kLc3_d, kLc3_fl, kIf_t, kIf_f, kIf_p, kIf_n, kIte_t, kIte_f, kIte_p, kIte_n, kAnd_t, kAnd_f, kAnd_p, kAnd_n, kOr_t, kOr_f, kOr_p, kOr_n, kTst_t, kTst_f, kTst_p, kTst_n, kWTest_p, kWTest_n, kLt2_t, kLt2_f, kLt2_p, kCall_0, kCall_r0, kCall_r1, kCall_r2, kR0_d, kR0_fl, kR0_fd, kR1_d, kR1_fl, kR1_fd, kR1_ref, m_pop1, m_pop0, m_app, vTy_lst, kMe1_pop, kMe1_app, kMe1_ext, kMe1_idx, m_ext, bin_fl1, bin_fl2, vBin_dd, cmp_fl1, cmp_fl2, vCmp_dd, vBi_1, idx_fl, idx_fd, vIdx_dd, vSlc_d, if_fl, st21, st32, r_intt, r_intf, r_intp, r_zipt, *])
theorem fin_loop {n : Nat} {X : Xk (W × Cells)} {K : Fl → En → Cells → Res (W × Cells)} {R : Res (W × Cells)} {w0 w1 w2 w3 w4 w5 w6 w7 w11 : Option W} {c0 : Cell} {its : List D} (hn : 70 ≤ n) : ∀ (ps : List (List Str × D)) (w8 w9 w10 : Option W), (∀ p ∈ ps, Ok p) →
    (∀ w8 w9 w10 : Option W, K .nx [w0, w1, w2, w3, w4, w5, w6, w7, w8, w9, w10, w11] [c0, .lst its] = R) →
    cFor (fnsN U n) X (.tup (.cons (.nm 8) (.cons (.nm 9) .nil))) w10c (some (1, true)) its (ps.map pD) [w0, w1, w2, w3, w4, w5, w6, w7, w8, w9, w10, w11] [c0, .lk its] K = R
  | [], w8, w9, w10, _, h => by
    walk_at "lf"
    exact h ..
  | p :: ps, w8, w9, w10, hp, h => by
    have p0 := hp p List.mem_cons_self
    have ih := fun w8 w9 w10 => fin_loop (X := X) (K := K) (R := R) (w0 := w0) (w1 := w1) (w2 := w2) (w3 := w3) (w4 := w4) (w5 := w5) (w6 := w6) (w7 := w7) (w11 := w11) (c0 := c0) (its := its) hn ps w8 w9 w10 (fun q hq => hp q (List.mem_cons_of_mem _ hq)) h
    obtain ⟨n, rfl⟩ : ∃ m, n = m + 1 := ⟨n - 1, by omega⟩
    have d := p0.b.d
    have l := p0.l
    have it := it_ok n p.2 p.1 (by omega) (by omega)
    have ig := ig_ok n p.2 false p.1 (by omega) (by omega)
    simp only [mkD, Bool.false_eq_true, if_false] at ig
    have rp := p0.rep
    clear h hp p0 d l
    generalize isT (n + 1) p.1 p.2 = v at it ig
    rw [List.map_cons]
    simp only [pD] at rp ⊢
    walk_at "lfs"
end Lf.K04
end

section
set_option maxHeartbeats 4000000
/-! k04: the law's own loops. -/
namespace Lf.K04
open PySem Lf
/-- a thing -/
abbrev Th (x : D) : Prop := Bd 3 60 200000 x
theorem tr_asc : ∀ t : Tr, t.all aok = true → asc 0 t.d = true
  | .leaf b, _ => by cases b <;> decide +kernel
  | .ask m n y, h => by
    simp only [Tr.all, Bool.and_eq_true] at h
    have e : aok "ask" = true := by decide +kernel
    simp only [Tr.d, asc, ascs, e, h.1.1, tr_asc n h.1.2, tr_asc y h.2, Bool.and_self]
theorem pool_aok : ∀ s ∈ pool8, aok s = true := by decide +kernel
theorem marked_aok {t : Tap} {m : Int} : ∀ s ∈ (t.marked m).1, aok s = true := fun s h => pool_aok s ((mkd_sub 8 t pool8 m).mem h)
theorem tr_bd {t : Tr} (h1 : t.all aok = true) (h2 : t.all okS = true) (hd : t.depth ≤ 6) : Bd 0 7 11500 t.d := by
  refine ⟨tr_asc t h1, by rw [tr_dep]; omega, ?_⟩
  have := tr_ub t h2
  have : 2 ^ t.depth ≤ 2 ^ 6 := Nat.pow_le_pow_right (by decide) hd
  omega
theorem lf_bd : Bd 0 1 60 lf := ⟨by decide +kernel, by decide +kernel, by decide +kernel⟩
theorem near_bd {ms : List Str} {xs : List D} (hm : ∀ m ∈ ms, aok m = true ∧ m.length ≤ 8) (hx : Bd 0 7 11500 (.tup xs)) : ∀ x ∈ near ms xs, Th x := by
  have ha := hx.a
  have hd := hx.d
  have hu := hx.u
  simp only [asc] at ha
  simp only [D.dep] at hd
  simp only [D.ub] at hu
  have l1 : asc 0 lf = true := lf_bd.a
  have l2 : lf.dep = 1 := rfl
  have l3 : lf.ub ≤ 60 := lf_bd.u
  have up : ∀ x, Bd 0 12 20000 x → Th x := fun x h => h.mono (by decide) (by decide) (by decide)
  have s1 : aok "ask" = true := by decide +kernel
  have s2 : aok "leaf" = true := by decide +kernel
  have s3 : aok "nor" = true := by decide +kernel
  have s4 : aok "q" = true := by decide +kernel
  have s5 : aok "a" = true := by decide +kernel
  have u1 : ("ask" : Str).length = 3 := rfl
  have u2 : ("leaf" : Str).length = 4 := rfl
  have u3 : ("nor" : Str).length = 3 := rfl
  have u4 : ("q" : Str).length = 1 := rfl
  have u5 : ("a" : Str).length = 1 := rfl
  have z1 : Int.natAbs 1 = 1 := rfl
  have z2 : Nat.log2 1 = 0 := by decide
  intro x hx
  refine up x ?_
  simp only [near, List.mem_append, List.mem_flatMap] at hx
  rcases hx with hx | ⟨m, hm', hx⟩
  · simp only [near0, List.mem_cons, List.not_mem_nil, or_false] at hx
    rcases hx with rfl | rfl | rfl | rfl | rfl | rfl | rfl | rfl | rfl | rfl | rfl | rfl | rfl
    · exact ⟨by simp [asc, ha], by simp only [D.dep]; omega, by simp only [D.ub]; omega⟩
    · exact ⟨by simp [asc, ha], by simp only [D.dep]; omega, by simp only [D.ub]; omega⟩
    · refine tup_bd (d := 11) (fun y hy => ?_) (fun y hy => ?_) ?_
      · simp only [List.mem_append, List.mem_cons, List.not_mem_nil, or_false] at hy
        rcases hy with hy | rfl
        · exact ascs_iff.mp ha y hy
        · exact l1
      · simp only [List.mem_append, List.mem_cons, List.not_mem_nil, or_false] at hy
        rcases hy with hy | rfl
        · have := dep_of hy; omega
        · omega
      · rw [ubs_app]; simp only [D.ubs]; omega
    · have sub : (cutL xs none (some (-1))).Sublist xs := by
        simp only [cutL]
        exact (List.take_sublist _ _).trans (List.drop_sublist _ _)
      refine tup_bd (d := 11) (fun y hy => ascs_iff.mp ha y (sub.mem hy)) (fun y hy => by have := dep_of (sub.mem hy); omega) ?_
      have key : ∀ {a b : List D}, a.Sublist b → D.ubs a ≤ D.ubs b := by
        intro a b h
        induction h with
        | slnil => exact Nat.le_refl _
        | cons a _ ih => simp only [D.ubs]; omega
        | cons_cons a _ ih => simp only [D.ubs]; omega
      have := key sub
      omega
    all_goals refine ⟨?_, ?_, ?_⟩
    all_goals first
      | (simp [asc, ascs, s1, s2, s3, s4, s5, l1, ha]; done)
      | (simp only [D.dep, D.deps]; omega)
      | (simp only [D.ub, D.ubs, u1, u2, u3, u4, u5, z1, z2]; omega)
  · obtain ⟨m1, m2⟩ := hm m (List.mem_of_mem_take hm')
    simp only [nearW, List.mem_cons, List.not_mem_nil, or_false] at hx
    rcases hx with rfl | rfl | rfl | rfl | rfl | rfl | rfl | rfl
    all_goals refine ⟨?_, ?_, ?_⟩
    all_goals first
      | (simp [asc, ascs, s1, s2, s3, s4, s5, l1, ha, m1]; done)
      | (simp only [D.dep, D.deps]; omega)
      | (simp only [D.ub, D.ubs, u1, u2, u3, u4, u5]; omega)
local macro_rules | `(tactic| walk_at "lf") => `(tactic| simp -implicitDefEqProofs (disch := (first | with_reducible assumption | omega | decide +kernel | (simp only [List.length_cons, List.length_nil, List.length_map, List.length_append, List.length_take, List.length_drop, List.length_reverse, tap_len]; omega) | exact of_decide_eq_true (id rfl) | fail)) only [↓cE_non, ↓cE_bl, ↓cE_int, ↓cE_str, ↓cE_var0, ↓cE_varS, ↓cE_glb, ↓cE_bin, ↓kBin1_eq, ↓cE_neg, ↓kNeg_int, ↓cE_rev, ↓kRev_tup, ↓kRev_lst, ↓kRev_fl, ↓cE_isi, ↓kIsi_d, ↓kIsi_fl, ↓r_isN, ↓r_isNN, ↓r_lts, ↓r_les, ↓r_gts, ↓r_ges, ↓r_addbi, ↓r_strb, ↓r_strs, ↓kMe1_supp, ↓r_in_sl, ↓r_in_st, ↓r_ni_sl, ↓r_ni_st, ↓r_in_it, ↓r_ni_it, ↓cE_unot, ↓kNot_bl, ↓cE_band, ↓cE_bor, ↓cE_cmp, ↓kCmp1_eq, ↓cE_ife, ↓cE_tup, ↓cE_lst, ↓kTup0, ↓kTup1, ↓kTup2, ↓kTup3, ↓kTup4, ↓kTup5, ↓kLst0, ↓kLst1, ↓kLst2, ↓kLst3, ↓kLst4, ↓kLst5, ↓cE_call, ↓cE_bi, ↓cE_idx, ↓kIdx1_eq, ↓cE_slc, ↓kSlc1_eq, ↓kSlc2_eq, ↓kSlc3_lst, ↓kSlc3_fl, ↓kSlc3_tup, ↓kSlc3_sq, ↓cE_meth, ↓cE_dct, ↓cE_mkd, ↓kMkd_lst, ↓cE_lzip, ↓cL_nil, ↓cL_cons, ↓kRow_eq, ↓kCons_d, ↓kCons_ref, ↓kCons_fl, ↓kCons_sq, ↓cO_nop, ↓cO_sb, ↓kSb_int, ↓cP_nil, ↓cP_cons, ↓kPr1_d, ↓kPr2_d, ↓kPr2_fl, ↓kPr3_s, ↓kPr3_i, ↓cT_nil, ↓cT_cons, ↓cI_rng, ↓cI_rng2, ↓cI_zip, ↓kZip_tt, ↓kZip_ll, ↓cI_it, ↓kIt_lst, ↓kIt_tup, ↓kIt_fl, ↓kIt_str, ↓ckd_none, ↓unl_none, ↓cN_0, ↓cN_S, ↓kEn_eq, ↓cB_nm, ↓cB_tup, ↓cBs_nil, ↓cBs_cons, ↓kBs_eq, ↓cE_lc, ↓kLc_eq, ↓kLt1_eq, ↓kLt3_d, ↓kLt3_fl, ↓cG_d, ↓cG_ref, ↓cG_sq, ↓cG_fl, ↓cG_fd, ↓cA_d, ↓cA_ref, ↓cA_fl, ↓cA_fd, ↓cG_pt, ↓cG_unl, ↓cG_star, ↓cG_ix, ↓cG_ixl, ↓kIx1_eq, ↓cS_asg, ↓kAsg_eq, ↓kNx_eq, ↓cS_par, ↓kPar_eq, ↓cR_nil, ↓cR_cons, ↓kRw_nd, ↓kRw_nf, ↓kRw_nr, ↓kRw_ad, ↓kRw_af, ↓kRw_ar, ↓cW_nil, ↓cW_nd, ↓cW_nr, ↓cW_ad, ↓cW_ar, ↓cW_af, ↓kWs_eq, ↓cS_ret, ↓kRt_eq, ↓cS_ex, ↓kEx_eq, ↓cS_if, ↓cS_cons, ↓cS_nil, ↓cS_brk, ↓cS_cnt, ↓cS_pass, ↓kSeq_nx, ↓kSeq_ret, ↓kSeq_bk, ↓kSeq_ct, ↓cS_for, ↓kFor_eq, ↓kBody_eq, ↓kTurn_nx, ↓kTurn_ct, ↓kTurn_bk, ↓kTurn_ret, ↓cS_whl, ↓kWTurn_nx, ↓kWTurn_ct, ↓kWTurn_bk, ↓kWTurn_ret, ↓kFin_ret, ↓kFin_nx, ↓finish_d, ↓finish_fl, ↓finish_fd, ↓finish_sq, ↓r_add, ↓r_addb, ↓r_sub, ↓r_mul, ↓r_div, ↓r_mod, ↓r_pow, ↓r_shl, ↓r_shr, ↓r_and, ↓r_adds, ↓r_addt, ↓r_addl, ↓r_eqi, ↓r_nei, ↓r_eqs, ↓r_nes, ↓r_eqt0, ↓r_net0, ↓r_eql0, ↓r_nel0, ↓r_lt, ↓r_le, ↓r_gt, ↓r_ge, ↓r_lenl, ↓r_lent, ↓r_lens, ↓r_tupl, ↓r_tupt, ↓r_lisl, ↓r_list, ↓r_inti, ↓r_abs, ↓r_max, ↓r_min, ↓t2_0, ↓t2_1, ↓t2_2, ↓t2_3, ↓t2_4, ↓l2_0, ↓l2_1, ↓l2_2, ↓l2_3, ↓kRng_int, ↓kRng2_int, ↓ckd_some, ↓unl_t, ↓unl_f, ↓oK_some, ↓oC_some, ↓oP_some, ↓oW_some, ↓kRet_ok, ↓kLc2_t, ↓kLc2_f, ↓vIdx_dct, ↓vPt_some, ↓vUn_some, ↓kLc3_d, ↓kLc3_fl, ↓kIf_t, ↓kIf_f, ↓kIf_p, ↓kIf_n, ↓kIte_t, ↓kIte_f, ↓kIte_p, ↓kIte_n, ↓kAnd_t, ↓kAnd_f, ↓kAnd_p, ↓kAnd_n, ↓kOr_t, ↓kOr_f, ↓kOr_p, ↓kOr_n, ↓kTst_t, ↓kTst_f, ↓kTst_p, ↓kTst_n, ↓kWTest_p, ↓kWTest_n, ↓kLt2_t, ↓kLt2_f, ↓kLt2_p, ↓kCall_0, ↓kCall_r0, ↓kCall_r1, ↓kCall_r2, ↓kR0_d, ↓kR0_fl, ↓kR0_fd, ↓kR1_d, ↓kR1_fl, ↓kR1_fd, ↓kR1_ref, ↓m_pop1, ↓m_pop0, ↓m_app, ↓vTy_lst, ↓kMe1_pop, ↓kMe1_app, ↓kMe1_ext, ↓kMe1_idx, ↓m_ext, ↓bin_fl1, ↓bin_fl2, ↓vBin_dd, ↓cmp_fl1, ↓cmp_fl2, ↓vCmp_dd, ↓vBi_1, ↓idx_fl, ↓idx_fd, ↓vIdx_dd, ↓vSlc_d, ↓if_fl, ↓st21, ↓st32, ↓r_intt, ↓r_intf, ↓r_intp, ↓r_zipt, ↓u_w10b, ↓if_pos, ↓if_neg, ↓reduceIte, kSlc3_str, r_stri, m_supp, isD_tup_non, isD_tup_bl, isD_tup_int, isD_tup_str, isD_tup_tup, isD_tup_lst, isD_lst_non, isD_lst_bl, isD_lst_int, isD_lst_str, isD_lst_tup, isD_lst_lst, isD_str_non, isD_str_bl, isD_str_int, isD_str_str, isD_str_tup, isD_str_lst, isD_int_non, isD_int_bl, isD_int_int, isD_int_str, isD_int_tup, isD_int_lst, isD_bl_non, isD_bl_bl, isD_bl_int, isD_bl_str, isD_bl_tup, isD_bl_lst, isD_dct_non, isD_dct_bl, isD_dct_int, isD_dct_str, isD_dct_tup, isD_dct_lst, isN_non, isN_bl, isN_int, isN_str, isN_tup, isN_lst, r_intb, bin_ref1, bin_ref2, cmp_ref1, cmp_ref2, bi_ref, idx_ref, slc_ref, r_eq, r_ne, kAnd_bl, kOr_bl, kIte_bl, kTst_bl, kIf_bl, kWTest_bl, kLt2_eq, kNot_eq, kAnd_eq, kOr_eq, kIte_eq, kTup_eq, kLst_eq, kIdx2_dd, vPop_lst, vPop0_lst, vApp_lst, emp_snoc, vExt_lst, m_tidx, idx_tmap, idx_lmap, kDct_eq, kLzip_eq, kTst_eq, kIt_ref, vWk_lst, vWk_lk, kIf_eq, kWTest_eq, kIx2_d, kRw_eq, kGl_some, finish_old, finish_new, vFin_lst, vFin_dct, cLc_nil, cLc_cons, kLc1_eq, kLc2_eq, cFor_nil, cFor_cons, view_d, view_fl, view_ref, vwC_lst, vwC_lk, vwC_dct, viewD_ref, viewD_d, viewD_fl, viewD_fd, vwD_lst, vwD_lk, vwD_dct, views_nil, views_cons, cnsO_some, frzs_nil, frzs_d, cnsF_some, putIx_ref, pIx_s, pIx_i, pIx_l, dGet_hit, dGet_miss, renW_self, renW_d, renW_sq, truW, tup_ok, lst_ok, List.map_cons, List.map_nil, List.all_cons, List.all_nil, List.contains_cons, List.contains_nil, List.elem_nil, List.getD_cons_zero, List.getD_cons_succ, List.getElem?_cons_zero, List.getElem?_cons_succ, List.getElem?_nil, List.set_cons_zero, List.set_cons_succ, List.length_cons, List.length_nil, List.nil_append, List.cons_append, List.append_nil, List.take_zero, List.take_succ_cons, List.take_nil, Bool.true_and, Bool.and_true, Bool.false_and, Bool.and_false, Bool.not_true, Bool.not_false, Bool.true_or, Bool.or_true, decide_eq_true_eq, Bool.not_eq_true', decide_eq_false_iff_not, reduceCtorEq, if_true, if_false, ite_true, ite_false, Bool.false_eq_true, Option.map_some, List.idxOf_cons, beq_self_eq_true, Nat.zero_add, cond_true, cond_false, D.truO, D.tru, List.isEmpty_cons, List.isEmpty_nil, Int.toNat_zero, List.length_map, clearO_nil, clearO_cons, Option.map_none, star_t, star_l, cut_pre, cut_suf, cut_mid, cut_all, take_map, drop_map, b2i_t, b2i_f, cut_tail, drop_one, toNat_1, toNat_2, toNat_3, List.drop_zero, cE_non, cE_bl, cE_int, cE_str, cE_var0, cE_varS, cE_glb, cE_bin, kBin1_eq, cE_neg, kNeg_int, cE_rev, kRev_tup, kRev_lst, kRev_fl, cE_isi, kIsi_d, kIsi_fl, r_isN, r_isNN, r_lts, r_les, r_gts, r_ges, r_addbi, r_strb, r_strs, kMe1_supp, r_in_sl, r_in_st, r_ni_sl, r_ni_st, r_in_it, r_ni_it, cE_unot, kNot_bl, cE_band, cE_bor, cE_cmp, kCmp1_eq, cE_ife, cE_tup, cE_lst, kTup0, kTup1, kTup2, kTup3, kTup4, kTup5, kLst0, kLst1, kLst2, kLst3, kLst4, kLst5, cE_call, cE_bi, cE_idx, kIdx1_eq, cE_slc, kSlc1_eq, kSlc2_eq, kSlc3_lst, kSlc3_fl, kSlc3_tup, kSlc3_sq, cE_meth, cE_dct, cE_mkd, kMkd_lst, cE_lzip, cL_nil, cL_cons, kRow_eq, kCons_d, kCons_ref, kCons_fl, kCons_sq, cO_nop, cO_sb, kSb_int, cP_nil, cP_cons, kPr1_d, kPr2_d, kPr2_fl, kPr3_s, kPr3_i, cT_nil, cT_cons, cI_rng, cI_rng2, cI_zip, kZip_tt, kZip_ll, cI_it, kIt_lst, kIt_tup, kIt_fl, kIt_str, ckd_none, unl_none, cN_0, cN_S, kEn_eq, cB_nm, cB_tup, cBs_nil, cBs_cons, kBs_eq, cE_lc, kLc_eq, kLt1_eq, kLt3_d, kLt3_fl, cG_d, cG_ref, cG_sq, cG_fl, cG_fd, cA_d, cA_ref, cA_fl, cA_fd, cG_pt, cG_unl, cG_star, cG_ix, cG_ixl, kIx1_eq, cS_asg, kAsg_eq, kNx_eq, cS_par, kPar_eq, cR_nil, cR_cons, kRw_nd, kRw_nf, kRw_nr, kRw_ad, kRw_af, kRw_ar, cW_nil, cW_nd, cW_nr, cW_ad, cW_ar, cW_af, kWs_eq, cS_ret, kRt_eq, cS_ex, kEx_eq, cS_if, cS_cons, cS_nil, cS_brk, cS_cnt, cS_pass, kSeq_nx, kSeq_ret, kSeq_bk, kSeq_ct, cS_for, kFor_eq, kBody_eq, kTurn_nx, kTurn_ct, kTurn_bk, kTurn_ret, cS_whl, kWTurn_nx, kWTurn_ct, kWTurn_bk, kWTurn_ret, kFin_ret, kFin_nx, finish_d, finish_fl, finish_fd, finish_sq, r_add, r_addb, r_sub, r_mul, r_div, r_mod, r_pow, r_shl, r_shr, r_and, r_adds, r_addt, r_addl, r_eqi, r_nei, r_eqs, r_nes, r_eqt0, r_net0, r_eql0, r_nel0, r_lt, r_le, r_gt, r_ge, r_lenl, r_lent, r_lens, r_tupl, r_tupt, r_lisl, r_list, r_inti, r_abs, r_max, r_min, t2_0, t2_1, t2_2, t2_3, t2_4, l2_0, l2_1, l2_2, l2_3, kRng_int, kRng2_int, ckd_some, unl_t, unl_f, oK_some, oC_some, oP_some, oW_some, kRet_ok, kLc2_t, kLc2_f, vIdx_dct, vPt_some, vUn_some, kLc3_d, kLc3_fl, kIf_t, kIf_f, kIf_p, kIf_n, kIte_t, kIte_f, kIte_p, kIte_n, kAnd_t, kAnd_f, kAnd_p, kAnd_n, kOr_t, kOr_f, kOr_p, kOr_n, kTst_t, kTst_f, kTst_p, kTst_n, kWTest_p, kWTest_n, kLt2_t, kLt2_f, kLt2_p, kCall_0, kCall_r0, kCall_r1, kCall_r2, kR0_d, kR0_fl, kR0_fd, kR1_d, kR1_fl, kR1_fd, kR1_ref, m_pop1, m_pop0, m_app, vTy_lst, kMe1_pop, kMe1_app, kMe1_ext, kMe1_idx, m_ext, bin_fl1, bin_fl2, vBin_dd, cmp_fl1, cmp_fl2, vCmp_dd, vBi_1, idx_fl, idx_fd, vIdx_dd, vSlc_d, if_fl, st21, st32, r_intt, r_intf, r_intp, r_zipt])
local macro_rules | `(tactic| walk_at "lfs") => `(tactic| simp -implicitDefEqProofs (disch := (first | with_reducible assumption | omega | decide +kernel | (simp only [List.length_cons, List.length_nil, List.length_map, List.length_append, List.length_take, List.length_drop, List.length_reverse, tap_len]; omega) | exact of_decide_eq_true (id rfl) | fail)) only [↓cE_non, ↓cE_bl, ↓cE_int, ↓cE_str, ↓cE_var0, ↓cE_varS, ↓cE_glb, ↓cE_bin, ↓kBin1_eq, ↓cE_neg, ↓kNeg_int, ↓cE_rev, ↓kRev_tup, ↓kRev_lst, ↓kRev_fl, ↓cE_isi, ↓kIsi_d, ↓kIsi_fl, ↓r_isN, ↓r_isNN, ↓r_lts, ↓r_les, ↓r_gts, ↓r_ges, ↓r_addbi, ↓r_strb, ↓r_strs, ↓kMe1_supp, ↓r_in_sl, ↓r_in_st, ↓r_ni_sl, ↓r_ni_st, ↓r_in_it, ↓r_ni_it, ↓cE_unot, ↓kNot_bl, ↓cE_band, ↓cE_bor, ↓cE_cmp, ↓kCmp1_eq, ↓cE_ife, ↓cE_tup, ↓cE_lst, ↓kTup0, ↓kTup1, ↓kTup2, ↓kTup3, ↓kTup4, ↓kTup5, ↓kLst0, ↓kLst1, ↓kLst2, ↓kLst3, ↓kLst4, ↓kLst5, ↓cE_call, ↓cE_bi, ↓cE_idx, ↓kIdx1_eq, ↓cE_slc, ↓kSlc1_eq, ↓kSlc2_eq, ↓kSlc3_lst, ↓kSlc3_fl, ↓kSlc3_tup, ↓kSlc3_sq, ↓cE_meth, ↓cE_dct, ↓cE_mkd, ↓kMkd_lst, ↓cE_lzip, ↓cL_nil, ↓cL_cons, ↓kRow_eq, ↓kCons_d, ↓kCons_ref, ↓kCons_fl, ↓kCons_sq, ↓cO_nop, ↓cO_sb, ↓kSb_int, ↓cP_nil, ↓cP_cons, ↓kPr1_d, ↓kPr2_d, ↓kPr2_fl, ↓kPr3_s, ↓kPr3_i, ↓cT_nil, ↓cT_cons, ↓cI_rng, ↓cI_rng2, ↓cI_zip, ↓kZip_tt, ↓kZip_ll, ↓cI_it, ↓kIt_lst, ↓kIt_tup, ↓kIt_fl, ↓kIt_str, ↓ckd_none, ↓unl_none, ↓cN_0, ↓cN_S, ↓kEn_eq, ↓cB_nm, ↓cB_tup, ↓cBs_nil, ↓cBs_cons, ↓kBs_eq, ↓cE_lc, ↓kLc_eq, ↓kLt1_eq, ↓kLt3_d, ↓kLt3_fl, ↓cG_d, ↓cG_ref, ↓cG_sq, ↓cG_fl, ↓cG_fd, ↓cA_d, ↓cA_ref, ↓cA_fl, ↓cA_fd, ↓cG_pt, ↓cG_unl, ↓cG_star, ↓cG_ix, ↓cG_ixl, ↓kIx1_eq, ↓cS_asg, ↓kAsg_eq, ↓kNx_eq, ↓cS_par, ↓kPar_eq, ↓cR_nil, ↓cR_cons, ↓kRw_nd, ↓kRw_nf, ↓kRw_nr, ↓kRw_ad, ↓kRw_af, ↓kRw_ar, ↓cW_nil, ↓cW_nd, ↓cW_nr, ↓cW_ad, ↓cW_ar, ↓cW_af, ↓kWs_eq, ↓cS_ret, ↓kRt_eq, ↓cS_ex, ↓kEx_eq, ↓cS_if, ↓cS_cons, ↓cS_nil, ↓cS_brk, ↓cS_cnt, ↓cS_pass, ↓kSeq_nx, ↓kSeq_ret, ↓kSeq_bk, ↓kSeq_ct, ↓cS_for, ↓kFor_eq, ↓kBody_eq, ↓kTurn_nx, ↓kTurn_ct, ↓kTurn_bk, ↓kTurn_ret, ↓cS_whl, ↓kWTurn_nx, ↓kWTurn_ct, ↓kWTurn_bk, ↓kWTurn_ret, ↓kFin_ret, ↓kFin_nx, ↓finish_d, ↓finish_fl, ↓finish_fd, ↓finish_sq, ↓r_add, ↓r_addb, ↓r_sub, ↓r_mul, ↓r_div, ↓r_mod, ↓r_pow, ↓r_shl, ↓r_shr, ↓r_and, ↓r_adds, ↓r_addt, ↓r_addl, ↓r_eqi, ↓r_nei, ↓r_eqs, ↓r_nes, ↓r_eqt0, ↓r_net0, ↓r_eql0, ↓r_nel0, ↓r_lt, ↓r_le, ↓r_gt, ↓r_ge, ↓r_lenl, ↓r_lent, ↓r_lens, ↓r_tupl, ↓r_tupt, ↓r_lisl, ↓r_list, ↓r_inti, ↓r_abs, ↓r_max, ↓r_min, ↓t2_0, ↓t2_1, ↓t2_2, ↓t2_3, ↓t2_4, ↓l2_0, ↓l2_1, ↓l2_2, ↓l2_3, ↓kRng_int, ↓kRng2_int, ↓ckd_some, ↓unl_t, ↓unl_f, ↓oK_some, ↓oC_some, ↓oP_some, ↓oW_some, ↓kRet_ok, ↓kLc2_t, ↓kLc2_f, ↓vIdx_dct, ↓vPt_some, ↓vUn_some, ↓kLc3_d, ↓kLc3_fl, ↓kIf_t, ↓kIf_f, ↓kIf_p, ↓kIf_n, ↓kIte_t, ↓kIte_f, ↓kIte_p, ↓kIte_n, ↓kAnd_t, ↓kAnd_f, ↓kAnd_p, ↓kAnd_n, ↓kOr_t, ↓kOr_f, ↓kOr_p, ↓kOr_n, ↓kTst_t, ↓kTst_f, ↓kTst_p, ↓kTst_n, ↓kWTest_p, ↓kWTest_n, ↓kLt2_t, ↓kLt2_f, ↓kLt2_p, ↓kCall_0, ↓kCall_r0, ↓kCall_r1, ↓kCall_r2, ↓kR0_d, ↓kR0_fl, ↓kR0_fd, ↓kR1_d, ↓kR1_fl, ↓kR1_fd, ↓kR1_ref, ↓m_pop1, ↓m_pop0, ↓m_app, ↓vTy_lst, ↓kMe1_pop, ↓kMe1_app, ↓kMe1_ext, ↓kMe1_idx, ↓m_ext, ↓bin_fl1, ↓bin_fl2, ↓vBin_dd, ↓cmp_fl1, ↓cmp_fl2, ↓vCmp_dd, ↓vBi_1, ↓idx_fl, ↓idx_fd, ↓vIdx_dd, ↓vSlc_d, ↓if_fl, ↓st21, ↓st32, ↓r_intt, ↓r_intf, ↓r_intp, ↓r_zipt, ↓u_w10b, ↓if_pos, ↓if_neg, ↓reduceIte, kSlc3_str, r_stri, m_supp, isD_tup_non, isD_tup_bl, isD_tup_int, isD_tup_str, isD_tup_tup, isD_tup_lst, isD_lst_non, isD_lst_bl, isD_lst_int, isD_lst_str, isD_lst_tup, isD_lst_lst, isD_str_non, isD_str_bl, isD_str_int, isD_str_str, isD_str_tup, isD_str_lst, isD_int_non, isD_int_bl, isD_int_int, isD_int_str, isD_int_tup, isD_int_lst, isD_bl_non, isD_bl_bl, isD_bl_int, isD_bl_str, isD_bl_tup, isD_bl_lst, isD_dct_non, isD_dct_bl, isD_dct_int, isD_dct_str, isD_dct_tup, isD_dct_lst, isN_non, isN_bl, isN_int, isN_str, isN_tup, isN_lst, r_intb, bin_ref1, bin_ref2, cmp_ref1, cmp_ref2, bi_ref, idx_ref, slc_ref, r_eq, r_ne, kAnd_bl, kOr_bl, kIte_bl, kTst_bl, kIf_bl, kWTest_bl, kLt2_eq, kNot_eq, kAnd_eq, kOr_eq, kIte_eq, kTup_eq, kLst_eq, kIdx2_dd, vPop_lst, vPop0_lst, vApp_lst, emp_snoc, vExt_lst, m_tidx, idx_tmap, idx_lmap, kDct_eq, kLzip_eq, kTst_eq, kIt_ref, vWk_lst, vWk_lk, kIf_eq, kWTest_eq, kIx2_d, kRw_eq, kGl_some, finish_old, finish_new, vFin_lst, vFin_dct, cLc_nil, cLc_cons, kLc1_eq, kLc2_eq, cFor_nil, cFor_cons, view_d, view_fl, view_ref, vwC_lst, vwC_lk, vwC_dct, viewD_ref, viewD_d, viewD_fl, viewD_fd, vwD_lst, vwD_lk, vwD_dct, views_nil, views_cons, cnsO_some, frzs_nil, frzs_d, cnsF_some, putIx_ref, pIx_s, pIx_i, pIx_l, dGet_hit, dGet_miss, renW_self, renW_d, renW_sq, truW, tup_ok, lst_ok, List.map_cons, List.map_nil, List.all_cons, List.all_nil, List.contains_cons, List.contains_nil, List.elem_nil, List.getD_cons_zero, List.getD_cons_succ, List.getElem?_cons_zero, List.getElem?_cons_succ, List.getElem?_nil, List.set_cons_zero, List.set_cons_succ, List.length_cons, List.length_nil, List.nil_append, List.cons_append, List.append_nil, List.take_zero, List.take_succ_cons, List.take_nil, Bool.true_and, Bool.and_true, Bool.false_and, Bool.and_false, Bool.not_true, Bool.not_false, Bool.true_or, Bool.or_true, decide_eq_true_eq, Bool.not_eq_true', decide_eq_false_iff_not, reduceCtorEq, if_true, if_false, ite_true, ite_false, Bool.false_eq_true, Option.map_some, List.idxOf_cons, beq_self_eq_true, Nat.zero_add, cond_true, cond_false, D.truO, D.tru, List.isEmpty_cons, List.isEmpty_nil, Int.toNat_zero, List.length_map, clearO_nil, clearO_cons, Option.map_none, star_t, star_l, cut_pre, cut_suf, cut_mid, cut_all, take_map, drop_map, b2i_t, b2i_f, cut_tail, drop_one, toNat_1, toNat_2, toNat_3, List.drop_zero, cE_non, cE_bl, cE_int, cE_str, cE_var0, cE_varS, cE_glb, cE_bin, kBin1_eq, cE_neg, kNeg_int, cE_rev, kRev_tup, kRev_lst, kRev_fl, cE_isi, kIsi_d, kIsi_fl, r_isN, r_isNN, r_lts, r_les, r_gts, r_ges, r_addbi, r_strb, r_strs, kMe1_supp, r_in_sl, r_in_st, r_ni_sl, r_ni_st, r_in_it, r_ni_it, cE_unot, kNot_bl, cE_band, cE_bor, cE_cmp, kCmp1_eq, cE_ife, cE_tup, cE_lst, kTup0, kTup1, kTup2, kTup3, kTup4, kTup5, kLst0, kLst1, kLst2, kLst3, kLst4, kLst5, cE_call, cE_bi, cE_idx, kIdx1_eq, cE_slc, kSlc1_eq, kSlc2_eq, kSlc3_lst, kSlc3_fl, kSlc3_tup, kSlc3_sq, cE_meth, cE_dct, cE_mkd, kMkd_lst, cE_lzip, cL_nil, cL_cons, kRow_eq, kCons_d, kCons_ref, kCons_fl, kCons_sq, cO_nop, cO_sb, kSb_int, cP_nil, cP_cons, kPr1_d, kPr2_d, kPr2_fl, kPr3_s, kPr3_i, cT_nil, cT_cons, cI_rng, cI_rng2, cI_zip, kZip_tt, kZip_ll, cI_it, kIt_lst, kIt_tup, kIt_fl, kIt_str, ckd_none, unl_none, cN_0, cN_S, kEn_eq, cB_nm, cB_tup, cBs_nil, cBs_cons, kBs_eq, cE_lc, kLc_eq, kLt1_eq, kLt3_d, kLt3_fl, cG_d, cG_ref, cG_sq, cG_fl, cG_fd, cA_d, cA_ref, cA_fl, cA_fd, cG_pt, cG_unl, cG_star, cG_ix, cG_ixl, kIx1_eq, cS_asg, kAsg_eq, kNx_eq, cS_par, kPar_eq, cR_nil, cR_cons, kRw_nd, kRw_nf, kRw_nr, kRw_ad, kRw_af, kRw_ar, cW_nil, cW_nd, cW_nr, cW_ad, cW_ar, cW_af, kWs_eq, cS_ret, kRt_eq, cS_ex, kEx_eq, cS_if, cS_cons, cS_nil, cS_brk, cS_cnt, cS_pass, kSeq_nx, kSeq_ret, kSeq_bk, kSeq_ct, cS_for, kFor_eq, kBody_eq, kTurn_nx, kTurn_ct, kTurn_bk, kTurn_ret, cS_whl, kWTurn_nx, kWTurn_ct, kWTurn_bk, kWTurn_ret, kFin_ret, kFin_nx, finish_d, finish_fl, finish_fd, finish_sq, r_add, r_addb, r_sub, r_mul, r_div, r_mod, r_pow, r_shl, r_shr, r_and, r_adds, r_addt, r_addl, r_eqi, r_nei, r_eqs, r_nes, r_eqt0, r_net0, r_eql0, r_nel0, r_lt, r_le, r_gt, r_ge, r_lenl, r_lent, r_lens, r_tupl, r_tupt, r_lisl, r_list, r_inti, r_abs, r_max, r_min, t2_0, t2_1, t2_2, t2_3, t2_4, l2_0, l2_1, l2_2, l2_3, kRng_int, kRng2_int, ckd_some, unl_t, unl_f, oK_some, oC_some, oP_some, oW_some, kRet_ok, kLc2_t, kLc2_f, vIdx_dct, vPt_some, vUn_some, kLc3_d, kLc3_fl, kIf_t, kIf_f, kIf_p, kIf_n, kIte_t, kIte_f, kIte_p, kIte_n, kAnd_t, kAnd_f, kAnd_p, kAnd_n, kOr_t, kOr_f, kOr_p, kOr_n, kTst_t, kTst_f, kTst_p, kTst_n, kWTest_p, kWTest_n, kLt2_t, kLt2_f, kLt2_p, kCall_0, kCall_r0, kCall_r1, kCall_r2, kR0_d, kR0_fl, kR0_fd, kR1_d, kR1_fl, kR1_fd, kR1_ref, m_pop1, m_pop0, m_app, vTy_lst, kMe1_pop, kMe1_app, kMe1_ext, kMe1_idx, m_ext, bin_fl1, bin_fl2, vBin_dd, cmp_fl1, cmp_fl2, vCmp_dd, vBi_1, idx_fl, idx_fd, vIdx_dd, vSlc_d, if_fl, st21, st32, r_intt, r_intf, r_intp, r_zipt, *])
theorem bend_loop {n : Nat} {X : Xk (W × Cells)} {K : Fl → En → Cells → Res (W × Cells)} {R : Res (W × Cells)} {w0 w2 w3 w4 w8 w9 w10 : Option W} {c1 : Cell} {its : List D} {x : D} (hx : Bd 0 7 11500 x) (hn : 20 ≤ n) : ∀ (ks xs : List D) (t : Tap) (w7 w11 : Option W), (∀ x ∈ xs, Th x) →
    xs.length + 3 * ks.length ≤ 10000 → 0 ≤ t.calls → t.calls + 40 * ks.length < 20000000 →
    (∀ (xs' : List D) (t' : Tap) (w7 w11 : Option W), (∀ x ∈ xs', Th x) → xs'.length ≤ 10000 → t.calls ≤ t'.calls → t'.calls ≤ t.calls + 40 * ks.length → K .nx [w0, some (.ref 0), w2, w3, w4, some (.d x), some (.d (.lst xs')), w7, w8, w9, w10, w11] [t'.c, c1] = R) →
    cFor (fnsN U n) X (.nm 7) w10b none its ks [w0, some (.ref 0), w2, w3, w4, some (.d x), some (.d (.lst xs)), w7, w8, w9, w10, w11] [t.c, c1] K = R
  | [], xs, t, w7, w11, hxs, hl, h0, hc, h => by
    have h := h xs t w7 w11 hxs (by simp at hl; omega) (Int.le_refl _) (by simp)
    walk_at "lfs"
  | k :: ks, xs, t, w7, w11, hxs, hl, h0, hc, h => by
    simp only [List.length_cons] at hl hc h
    obtain ⟨n, rfl⟩ : ∃ m, n = m + 10 := ⟨n - 10, by omega⟩
    have b1 := bend_bd (by decide : 0 ≤ 500) 7 7 11500 x t hx
    have c1 := bend_calls 7 x t
    have k1 := bend_ok (by decide : 0 ≤ 500) 7 n 7 11500 x t hx (by decide) h0 (by omega)
    generalize bend 7 x t = B at *
    obtain ⟨y, t1⟩ := B
    dsimp only at b1 c1 k1
    have b2 := bend_bd (by decide : 1 ≤ 500) 7 9 25500 y t1 b1
    have c2 := bend_calls 7 y t1
    have k2 := bend_ok (by decide : 1 ≤ 500) 7 n 9 25500 y t1 b1 (by decide) (by omega) (by omega)
    generalize bend 7 y t1 = B at *
    obtain ⟨z, t2⟩ := B
    dsimp only at b2 c2 k2
    have b3 := odd_bd (t := t2)
    have c3 := odd_calls (t := t2)
    have k3 := odd_ok (n := n + 8) (t := t2) ⟨by omega, by omega⟩
    generalize Tap.odd t2 = B at *
    obtain ⟨o, t3⟩ := B
    dsimp only at b3 c3 k3
    have ih := fun w7 w11 => bend_loop (X := X) (K := K) (R := R) (w0 := w0) (w2 := w2) (w3 := w3) (w4 := w4) (w8 := w8) (w9 := w9) (w10 := w10) (its := its) hx hn ks (xs ++ [y, z, o]) t3 w7 w11 (by
        intro x hx
        simp only [List.mem_append, List.mem_cons, List.not_mem_nil, or_false] at hx
        rcases hx with hx | rfl | rfl | rfl
        · exact hxs x hx
        · exact b1.mono (by decide) (by decide) (by decide)
        · exact b2.mono (by decide) (by decide) (by decide)
        · exact b3.mono (by decide) (by decide) (by decide)) (by simp; omega) (by omega) (by omega) (fun xs' t' w7 w11 h1 h2 h3 h4 => h xs' t' w7 w11 h1 h2 (by omega) (by push_cast at h4 ⊢; omega))
    clear h hxs b1 b2 b3 c1 c2 c3 hx
    have sv : ((7 : Nat) : Int) = 7 := rfl
    rw [sv] at k1 k2
    walk_at "lfs"
end Lf.K04
end

section
set_option maxHeartbeats 4000000
/-! k04: the law, joined. -/
namespace Lf.K04
open PySem Lf
theorem tr_tup (t : Tr) : ∃ xs, t.d = .tup xs := by cases t <;> exact ⟨_, rfl⟩
local macro_rules | `(tactic| walk_at "lf") => `(tactic| simp -implicitDefEqProofs (disch := (first | with_reducible assumption | omega | decide +kernel | (simp only [List.length_cons, List.length_nil, List.length_map, List.length_append, List.length_take, List.length_drop, List.length_reverse, tap_len]; omega) | exact of_decide_eq_true (id rfl) | fail)) only [↓cE_non, ↓cE_bl, ↓cE_int, ↓cE_str, ↓cE_var0, ↓cE_varS, ↓cE_glb, ↓cE_bin, ↓kBin1_eq, ↓cE_neg, ↓kNeg_int, ↓cE_rev, ↓kRev_tup, ↓kRev_lst, ↓kRev_fl, ↓cE_isi, ↓kIsi_d, ↓kIsi_fl, ↓r_isN, ↓r_isNN, ↓r_lts, ↓r_les, ↓r_gts, ↓r_ges, ↓r_addbi, ↓r_strb, ↓r_strs, ↓kMe1_supp, ↓r_in_sl, ↓r_in_st, ↓r_ni_sl, ↓r_ni_st, ↓r_in_it, ↓r_ni_it, ↓cE_unot, ↓kNot_bl, ↓cE_band, ↓cE_bor, ↓cE_cmp, ↓kCmp1_eq, ↓cE_ife, ↓cE_tup, ↓cE_lst, ↓kTup0, ↓kTup1, ↓kTup2, ↓kTup3, ↓kTup4, ↓kTup5, ↓kLst0, ↓kLst1, ↓kLst2, ↓kLst3, ↓kLst4, ↓kLst5, ↓cE_call, ↓cE_bi, ↓cE_idx, ↓kIdx1_eq, ↓cE_slc, ↓kSlc1_eq, ↓kSlc2_eq, ↓kSlc3_lst, ↓kSlc3_fl, ↓kSlc3_tup, ↓kSlc3_sq, ↓cE_meth, ↓cE_dct, ↓cE_mkd, ↓kMkd_lst, ↓cE_lzip, ↓cL_nil, ↓cL_cons, ↓kRow_eq, ↓kCons_d, ↓kCons_ref, ↓kCons_fl, ↓kCons_sq, ↓cO_nop, ↓cO_sb, ↓kSb_int, ↓cP_nil, ↓cP_cons, ↓kPr1_d, ↓kPr2_d, ↓kPr2_fl, ↓kPr3_s, ↓kPr3_i, ↓cT_nil, ↓cT_cons, ↓cI_rng, ↓cI_rng2, ↓cI_zip, ↓kZip_tt, ↓kZip_ll, ↓cI_it, ↓kIt_lst, ↓kIt_tup, ↓kIt_fl, ↓kIt_str, ↓ckd_none, ↓unl_none, ↓cN_0, ↓cN_S, ↓kEn_eq, ↓cB_nm, ↓cB_tup, ↓cBs_nil, ↓cBs_cons, ↓kBs_eq, ↓cE_lc, ↓kLc_eq, ↓kLt1_eq, ↓kLt3_d, ↓kLt3_fl, ↓cG_d, ↓cG_ref, ↓cG_sq, ↓cG_fl, ↓cG_fd, ↓cA_d, ↓cA_ref, ↓cA_fl, ↓cA_fd, ↓cG_pt, ↓cG_unl, ↓cG_star, ↓cG_ix, ↓cG_ixl, ↓kIx1_eq, ↓cS_asg, ↓kAsg_eq, ↓kNx_eq, ↓cS_par, ↓kPar_eq, ↓cR_nil, ↓cR_cons, ↓kRw_nd, ↓kRw_nf, ↓kRw_nr, ↓kRw_ad, ↓kRw_af, ↓kRw_ar, ↓cW_nil, ↓cW_nd, ↓cW_nr, ↓cW_ad, ↓cW_ar, ↓cW_af, ↓kWs_eq, ↓cS_ret, ↓kRt_eq, ↓cS_ex, ↓kEx_eq, ↓cS_if, ↓cS_cons, ↓cS_nil, ↓cS_brk, ↓cS_cnt, ↓cS_pass, ↓kSeq_nx, ↓kSeq_ret, ↓kSeq_bk, ↓kSeq_ct, ↓cS_for, ↓kFor_eq, ↓kBody_eq, ↓kTurn_nx, ↓kTurn_ct, ↓kTurn_bk, ↓kTurn_ret, ↓cS_whl, ↓kWTurn_nx, ↓kWTurn_ct, ↓kWTurn_bk, ↓kWTurn_ret, ↓kFin_ret, ↓kFin_nx, ↓finish_d, ↓finish_fl, ↓finish_fd, ↓finish_sq, ↓r_add, ↓r_addb, ↓r_sub, ↓r_mul, ↓r_div, ↓r_mod, ↓r_pow, ↓r_shl, ↓r_shr, ↓r_and, ↓r_adds, ↓r_addt, ↓r_addl, ↓r_eqi, ↓r_nei, ↓r_eqs, ↓r_nes, ↓r_eqt0, ↓r_net0, ↓r_eql0, ↓r_nel0, ↓r_lt, ↓r_le, ↓r_gt, ↓r_ge, ↓r_lenl, ↓r_lent, ↓r_lens, ↓r_tupl, ↓r_tupt, ↓r_lisl, ↓r_list, ↓r_inti, ↓r_abs, ↓r_max, ↓r_min, ↓t2_0, ↓t2_1, ↓t2_2, ↓t2_3, ↓t2_4, ↓l2_0, ↓l2_1, ↓l2_2, ↓l2_3, ↓kRng_int, ↓kRng2_int, ↓ckd_some, ↓unl_t, ↓unl_f, ↓oK_some, ↓oC_some, ↓oP_some, ↓oW_some, ↓kRet_ok, ↓kLc2_t, ↓kLc2_f, ↓vIdx_dct, ↓vPt_some, ↓vUn_some, ↓kLc3_d, ↓kLc3_fl, ↓kIf_t, ↓kIf_f, ↓kIf_p, ↓kIf_n, ↓kIte_t, ↓kIte_f, ↓kIte_p, ↓kIte_n, ↓kAnd_t, ↓kAnd_f, ↓kAnd_p, ↓kAnd_n, ↓kOr_t, ↓kOr_f, ↓kOr_p, ↓kOr_n, ↓kTst_t, ↓kTst_f, ↓kTst_p, ↓kTst_n, ↓kWTest_p, ↓kWTest_n, ↓kLt2_t, ↓kLt2_f, ↓kLt2_p, ↓kCall_0, ↓kCall_r0, ↓kCall_r1, ↓kCall_r2, ↓kR0_d, ↓kR0_fl, ↓kR0_fd, ↓kR1_d, ↓kR1_fl, ↓kR1_fd, ↓kR1_ref, ↓m_pop1, ↓m_pop0, ↓m_app, ↓vTy_lst, ↓kMe1_pop, ↓kMe1_app, ↓kMe1_ext, ↓kMe1_idx, ↓m_ext, ↓bin_fl1, ↓bin_fl2, ↓vBin_dd, ↓cmp_fl1, ↓cmp_fl2, ↓vCmp_dd, ↓vBi_1, ↓idx_fl, ↓idx_fd, ↓vIdx_dd, ↓vSlc_d, ↓if_fl, ↓st21, ↓st32, ↓r_intt, ↓r_intf, ↓r_intp, ↓r_zipt, ↓u_w10a, ↓if_pos, ↓if_neg, ↓reduceIte, kSlc3_str, r_stri, m_supp, isD_tup_non, isD_tup_bl, isD_tup_int, isD_tup_str, isD_tup_tup, isD_tup_lst, isD_lst_non, isD_lst_bl, isD_lst_int, isD_lst_str, isD_lst_tup, isD_lst_lst, isD_str_non, isD_str_bl, isD_str_int, isD_str_str, isD_str_tup, isD_str_lst, isD_int_non, isD_int_bl, isD_int_int, isD_int_str, isD_int_tup, isD_int_lst, isD_bl_non, isD_bl_bl, isD_bl_int, isD_bl_str, isD_bl_tup, isD_bl_lst, isD_dct_non, isD_dct_bl, isD_dct_int, isD_dct_str, isD_dct_tup, isD_dct_lst, isN_non, isN_bl, isN_int, isN_str, isN_tup, isN_lst, r_intb, bin_ref1, bin_ref2, cmp_ref1, cmp_ref2, bi_ref, idx_ref, slc_ref, r_eq, r_ne, kAnd_bl, kOr_bl, kIte_bl, kTst_bl, kIf_bl, kWTest_bl, kLt2_eq, kNot_eq, kAnd_eq, kOr_eq, kIte_eq, kTup_eq, kLst_eq, kIdx2_dd, vPop_lst, vPop0_lst, vApp_lst, emp_snoc, vExt_lst, m_tidx, idx_tmap, idx_lmap, kDct_eq, kLzip_eq, kTst_eq, kIt_ref, vWk_lst, vWk_lk, kIf_eq, kWTest_eq, kIx2_d, kRw_eq, kGl_some, finish_old, finish_new, vFin_lst, vFin_dct, cLc_nil, cLc_cons, kLc1_eq, kLc2_eq, cFor_nil, cFor_cons, view_d, view_fl, view_ref, vwC_lst, vwC_lk, vwC_dct, viewD_ref, viewD_d, viewD_fl, viewD_fd, vwD_lst, vwD_lk, vwD_dct, views_nil, views_cons, cnsO_some, frzs_nil, frzs_d, cnsF_some, putIx_ref, pIx_s, pIx_i, pIx_l, dGet_hit, dGet_miss, renW_self, renW_d, renW_sq, truW, tup_ok, lst_ok, List.map_cons, List.map_nil, List.all_cons, List.all_nil, List.contains_cons, List.contains_nil, List.elem_nil, List.getD_cons_zero, List.getD_cons_succ, List.getElem?_cons_zero, List.getElem?_cons_succ, List.getElem?_nil, List.set_cons_zero, List.set_cons_succ, List.length_cons, List.length_nil, List.nil_append, List.cons_append, List.append_nil, List.take_zero, List.take_succ_cons, List.take_nil, Bool.true_and, Bool.and_true, Bool.false_and, Bool.and_false, Bool.not_true, Bool.not_false, Bool.true_or, Bool.or_true, decide_eq_true_eq, Bool.not_eq_true', decide_eq_false_iff_not, reduceCtorEq, if_true, if_false, ite_true, ite_false, Bool.false_eq_true, Option.map_some, List.idxOf_cons, beq_self_eq_true, Nat.zero_add, cond_true, cond_false, D.truO, D.tru, List.isEmpty_cons, List.isEmpty_nil, Int.toNat_zero, List.length_map, clearO_nil, clearO_cons, Option.map_none, star_t, star_l, cut_pre, cut_suf, cut_mid, cut_all, take_map, drop_map, b2i_t, b2i_f, cut_tail, drop_one, toNat_1, toNat_2, toNat_3, List.drop_zero, cE_non, cE_bl, cE_int, cE_str, cE_var0, cE_varS, cE_glb, cE_bin, kBin1_eq, cE_neg, kNeg_int, cE_rev, kRev_tup, kRev_lst, kRev_fl, cE_isi, kIsi_d, kIsi_fl, r_isN, r_isNN, r_lts, r_les, r_gts, r_ges, r_addbi, r_strb, r_strs, kMe1_supp, r_in_sl, r_in_st, r_ni_sl, r_ni_st, r_in_it, r_ni_it, cE_unot, kNot_bl, cE_band, cE_bor, cE_cmp, kCmp1_eq, cE_ife, cE_tup, cE_lst, kTup0, kTup1, kTup2, kTup3, kTup4, kTup5, kLst0, kLst1, kLst2, kLst3, kLst4, kLst5, cE_call, cE_bi, cE_idx, kIdx1_eq, cE_slc, kSlc1_eq, kSlc2_eq, kSlc3_lst, kSlc3_fl, kSlc3_tup, kSlc3_sq, cE_meth, cE_dct, cE_mkd, kMkd_lst, cE_lzip, cL_nil, cL_cons, kRow_eq, kCons_d, kCons_ref, kCons_fl, kCons_sq, cO_nop, cO_sb, kSb_int, cP_nil, cP_cons, kPr1_d, kPr2_d, kPr2_fl, kPr3_s, kPr3_i, cT_nil, cT_cons, cI_rng, cI_rng2, cI_zip, kZip_tt, kZip_ll, cI_it, kIt_lst, kIt_tup, kIt_fl, kIt_str, ckd_none, unl_none, cN_0, cN_S, kEn_eq, cB_nm, cB_tup, cBs_nil, cBs_cons, kBs_eq, cE_lc, kLc_eq, kLt1_eq, kLt3_d, kLt3_fl, cG_d, cG_ref, cG_sq, cG_fl, cG_fd, cA_d, cA_ref, cA_fl, cA_fd, cG_pt, cG_unl, cG_star, cG_ix, cG_ixl, kIx1_eq, cS_asg, kAsg_eq, kNx_eq, cS_par, kPar_eq, cR_nil, cR_cons, kRw_nd, kRw_nf, kRw_nr, kRw_ad, kRw_af, kRw_ar, cW_nil, cW_nd, cW_nr, cW_ad, cW_ar, cW_af, kWs_eq, cS_ret, kRt_eq, cS_ex, kEx_eq, cS_if, cS_cons, cS_nil, cS_brk, cS_cnt, cS_pass, kSeq_nx, kSeq_ret, kSeq_bk, kSeq_ct, cS_for, kFor_eq, kBody_eq, kTurn_nx, kTurn_ct, kTurn_bk, kTurn_ret, cS_whl, kWTurn_nx, kWTurn_ct, kWTurn_bk, kWTurn_ret, kFin_ret, kFin_nx, finish_d, finish_fl, finish_fd, finish_sq, r_add, r_addb, r_sub, r_mul, r_div, r_mod, r_pow, r_shl, r_shr, r_and, r_adds, r_addt, r_addl, r_eqi, r_nei, r_eqs, r_nes, r_eqt0, r_net0, r_eql0, r_nel0, r_lt, r_le, r_gt, r_ge, r_lenl, r_lent, r_lens, r_tupl, r_tupt, r_lisl, r_list, r_inti, r_abs, r_max, r_min, t2_0, t2_1, t2_2, t2_3, t2_4, l2_0, l2_1, l2_2, l2_3, kRng_int, kRng2_int, ckd_some, unl_t, unl_f, oK_some, oC_some, oP_some, oW_some, kRet_ok, kLc2_t, kLc2_f, vIdx_dct, vPt_some, vUn_some, kLc3_d, kLc3_fl, kIf_t, kIf_f, kIf_p, kIf_n, kIte_t, kIte_f, kIte_p, kIte_n, kAnd_t, kAnd_f, kAnd_p, kAnd_n, kOr_t, kOr_f, kOr_p, kOr_n, kTst_t, kTst_f, kTst_p, kTst_n, kWTest_p, kWTest_n, kLt2_t, kLt2_f, kLt2_p, kCall_0, kCall_r0, kCall_r1, kCall_r2, kR0_d, kR0_fl, kR0_fd, kR1_d, kR1_fl, kR1_fd, kR1_ref, m_pop1, m_pop0, m_app, vTy_lst, kMe1_pop, kMe1_app, kMe1_ext, kMe1_idx, m_ext, bin_fl1, bin_fl2, vBin_dd, cmp_fl1, cmp_fl2, vCmp_dd, vBi_1, idx_fl, idx_fd, vIdx_dd, vSlc_d, if_fl, st21, st32, r_intt, r_intf, r_intp, r_zipt])
local macro_rules | `(tactic| walk_at "lfs") => `(tactic| simp -implicitDefEqProofs (disch := (first | with_reducible assumption | omega | decide +kernel | (simp only [List.length_cons, List.length_nil, List.length_map, List.length_append, List.length_take, List.length_drop, List.length_reverse, tap_len]; omega) | exact of_decide_eq_true (id rfl) | fail)) only [↓cE_non, ↓cE_bl, ↓cE_int, ↓cE_str, ↓cE_var0, ↓cE_varS, ↓cE_glb, ↓cE_bin, ↓kBin1_eq, ↓cE_neg, ↓kNeg_int, ↓cE_rev, ↓kRev_tup, ↓kRev_lst, ↓kRev_fl, ↓cE_isi, ↓kIsi_d, ↓kIsi_fl, ↓r_isN, ↓r_isNN, ↓r_lts, ↓r_les, ↓r_gts, ↓r_ges, ↓r_addbi, ↓r_strb, ↓r_strs, ↓kMe1_supp, ↓r_in_sl, ↓r_in_st, ↓r_ni_sl, ↓r_ni_st, ↓r_in_it, ↓r_ni_it, ↓cE_unot, ↓kNot_bl, ↓cE_band, ↓cE_bor, ↓cE_cmp, ↓kCmp1_eq, ↓cE_ife, ↓cE_tup, ↓cE_lst, ↓kTup0, ↓kTup1, ↓kTup2, ↓kTup3, ↓kTup4, ↓kTup5, ↓kLst0, ↓kLst1, ↓kLst2, ↓kLst3, ↓kLst4, ↓kLst5, ↓cE_call, ↓cE_bi, ↓cE_idx, ↓kIdx1_eq, ↓cE_slc, ↓kSlc1_eq, ↓kSlc2_eq, ↓kSlc3_lst, ↓kSlc3_fl, ↓kSlc3_tup, ↓kSlc3_sq, ↓cE_meth, ↓cE_dct, ↓cE_mkd, ↓kMkd_lst, ↓cE_lzip, ↓cL_nil, ↓cL_cons, ↓kRow_eq, ↓kCons_d, ↓kCons_ref, ↓kCons_fl, ↓kCons_sq, ↓cO_nop, ↓cO_sb, ↓kSb_int, ↓cP_nil, ↓cP_cons, ↓kPr1_d, ↓kPr2_d, ↓kPr2_fl, ↓kPr3_s, ↓kPr3_i, ↓cT_nil, ↓cT_cons, ↓cI_rng, ↓cI_rng2, ↓cI_zip, ↓kZip_tt, ↓kZip_ll, ↓cI_it, ↓kIt_lst, ↓kIt_tup, ↓kIt_fl, ↓kIt_str, ↓ckd_none, ↓unl_none, ↓cN_0, ↓cN_S, ↓kEn_eq, ↓cB_nm, ↓cB_tup, ↓cBs_nil, ↓cBs_cons, ↓kBs_eq, ↓cE_lc, ↓kLc_eq, ↓kLt1_eq, ↓kLt3_d, ↓kLt3_fl, ↓cG_d, ↓cG_ref, ↓cG_sq, ↓cG_fl, ↓cG_fd, ↓cA_d, ↓cA_ref, ↓cA_fl, ↓cA_fd, ↓cG_pt, ↓cG_unl, ↓cG_star, ↓cG_ix, ↓cG_ixl, ↓kIx1_eq, ↓cS_asg, ↓kAsg_eq, ↓kNx_eq, ↓cS_par, ↓kPar_eq, ↓cR_nil, ↓cR_cons, ↓kRw_nd, ↓kRw_nf, ↓kRw_nr, ↓kRw_ad, ↓kRw_af, ↓kRw_ar, ↓cW_nil, ↓cW_nd, ↓cW_nr, ↓cW_ad, ↓cW_ar, ↓cW_af, ↓kWs_eq, ↓cS_ret, ↓kRt_eq, ↓cS_ex, ↓kEx_eq, ↓cS_if, ↓cS_cons, ↓cS_nil, ↓cS_brk, ↓cS_cnt, ↓cS_pass, ↓kSeq_nx, ↓kSeq_ret, ↓kSeq_bk, ↓kSeq_ct, ↓cS_for, ↓kFor_eq, ↓kBody_eq, ↓kTurn_nx, ↓kTurn_ct, ↓kTurn_bk, ↓kTurn_ret, ↓cS_whl, ↓kWTurn_nx, ↓kWTurn_ct, ↓kWTurn_bk, ↓kWTurn_ret, ↓kFin_ret, ↓kFin_nx, ↓finish_d, ↓finish_fl, ↓finish_fd, ↓finish_sq, ↓r_add, ↓r_addb, ↓r_sub, ↓r_mul, ↓r_div, ↓r_mod, ↓r_pow, ↓r_shl, ↓r_shr, ↓r_and, ↓r_adds, ↓r_addt, ↓r_addl, ↓r_eqi, ↓r_nei, ↓r_eqs, ↓r_nes, ↓r_eqt0, ↓r_net0, ↓r_eql0, ↓r_nel0, ↓r_lt, ↓r_le, ↓r_gt, ↓r_ge, ↓r_lenl, ↓r_lent, ↓r_lens, ↓r_tupl, ↓r_tupt, ↓r_lisl, ↓r_list, ↓r_inti, ↓r_abs, ↓r_max, ↓r_min, ↓t2_0, ↓t2_1, ↓t2_2, ↓t2_3, ↓t2_4, ↓l2_0, ↓l2_1, ↓l2_2, ↓l2_3, ↓kRng_int, ↓kRng2_int, ↓ckd_some, ↓unl_t, ↓unl_f, ↓oK_some, ↓oC_some, ↓oP_some, ↓oW_some, ↓kRet_ok, ↓kLc2_t, ↓kLc2_f, ↓vIdx_dct, ↓vPt_some, ↓vUn_some, ↓kLc3_d, ↓kLc3_fl, ↓kIf_t, ↓kIf_f, ↓kIf_p, ↓kIf_n, ↓kIte_t, ↓kIte_f, ↓kIte_p, ↓kIte_n, ↓kAnd_t, ↓kAnd_f, ↓kAnd_p, ↓kAnd_n, ↓kOr_t, ↓kOr_f, ↓kOr_p, ↓kOr_n, ↓kTst_t, ↓kTst_f, ↓kTst_p, ↓kTst_n, ↓kWTest_p, ↓kWTest_n, ↓kLt2_t, ↓kLt2_f, ↓kLt2_p, ↓kCall_0, ↓kCall_r0, ↓kCall_r1, ↓kCall_r2, ↓kR0_d, ↓kR0_fl, ↓kR0_fd, ↓kR1_d, ↓kR1_fl, ↓kR1_fd, ↓kR1_ref, ↓m_pop1, ↓m_pop0, ↓m_app, ↓vTy_lst, ↓kMe1_pop, ↓kMe1_app, ↓kMe1_ext, ↓kMe1_idx, ↓m_ext, ↓bin_fl1, ↓bin_fl2, ↓vBin_dd, ↓cmp_fl1, ↓cmp_fl2, ↓vCmp_dd, ↓vBi_1, ↓idx_fl, ↓idx_fd, ↓vIdx_dd, ↓vSlc_d, ↓if_fl, ↓st21, ↓st32, ↓r_intt, ↓r_intf, ↓r_intp, ↓r_zipt, ↓u_w10a, ↓if_pos, ↓if_neg, ↓reduceIte, kSlc3_str, r_stri, m_supp, isD_tup_non, isD_tup_bl, isD_tup_int, isD_tup_str, isD_tup_tup, isD_tup_lst, isD_lst_non, isD_lst_bl, isD_lst_int, isD_lst_str, isD_lst_tup, isD_lst_lst, isD_str_non, isD_str_bl, isD_str_int, isD_str_str, isD_str_tup, isD_str_lst, isD_int_non, isD_int_bl, isD_int_int, isD_int_str, isD_int_tup, isD_int_lst, isD_bl_non, isD_bl_bl, isD_bl_int, isD_bl_str, isD_bl_tup, isD_bl_lst, isD_dct_non, isD_dct_bl, isD_dct_int, isD_dct_str, isD_dct_tup, isD_dct_lst, isN_non, isN_bl, isN_int, isN_str, isN_tup, isN_lst, r_intb, bin_ref1, bin_ref2, cmp_ref1, cmp_ref2, bi_ref, idx_ref, slc_ref, r_eq, r_ne, kAnd_bl, kOr_bl, kIte_bl, kTst_bl, kIf_bl, kWTest_bl, kLt2_eq, kNot_eq, kAnd_eq, kOr_eq, kIte_eq, kTup_eq, kLst_eq, kIdx2_dd, vPop_lst, vPop0_lst, vApp_lst, emp_snoc, vExt_lst, m_tidx, idx_tmap, idx_lmap, kDct_eq, kLzip_eq, kTst_eq, kIt_ref, vWk_lst, vWk_lk, kIf_eq, kWTest_eq, kIx2_d, kRw_eq, kGl_some, finish_old, finish_new, vFin_lst, vFin_dct, cLc_nil, cLc_cons, kLc1_eq, kLc2_eq, cFor_nil, cFor_cons, view_d, view_fl, view_ref, vwC_lst, vwC_lk, vwC_dct, viewD_ref, viewD_d, viewD_fl, viewD_fd, vwD_lst, vwD_lk, vwD_dct, views_nil, views_cons, cnsO_some, frzs_nil, frzs_d, cnsF_some, putIx_ref, pIx_s, pIx_i, pIx_l, dGet_hit, dGet_miss, renW_self, renW_d, renW_sq, truW, tup_ok, lst_ok, List.map_cons, List.map_nil, List.all_cons, List.all_nil, List.contains_cons, List.contains_nil, List.elem_nil, List.getD_cons_zero, List.getD_cons_succ, List.getElem?_cons_zero, List.getElem?_cons_succ, List.getElem?_nil, List.set_cons_zero, List.set_cons_succ, List.length_cons, List.length_nil, List.nil_append, List.cons_append, List.append_nil, List.take_zero, List.take_succ_cons, List.take_nil, Bool.true_and, Bool.and_true, Bool.false_and, Bool.and_false, Bool.not_true, Bool.not_false, Bool.true_or, Bool.or_true, decide_eq_true_eq, Bool.not_eq_true', decide_eq_false_iff_not, reduceCtorEq, if_true, if_false, ite_true, ite_false, Bool.false_eq_true, Option.map_some, List.idxOf_cons, beq_self_eq_true, Nat.zero_add, cond_true, cond_false, D.truO, D.tru, List.isEmpty_cons, List.isEmpty_nil, Int.toNat_zero, List.length_map, clearO_nil, clearO_cons, Option.map_none, star_t, star_l, cut_pre, cut_suf, cut_mid, cut_all, take_map, drop_map, b2i_t, b2i_f, cut_tail, drop_one, toNat_1, toNat_2, toNat_3, List.drop_zero, cE_non, cE_bl, cE_int, cE_str, cE_var0, cE_varS, cE_glb, cE_bin, kBin1_eq, cE_neg, kNeg_int, cE_rev, kRev_tup, kRev_lst, kRev_fl, cE_isi, kIsi_d, kIsi_fl, r_isN, r_isNN, r_lts, r_les, r_gts, r_ges, r_addbi, r_strb, r_strs, kMe1_supp, r_in_sl, r_in_st, r_ni_sl, r_ni_st, r_in_it, r_ni_it, cE_unot, kNot_bl, cE_band, cE_bor, cE_cmp, kCmp1_eq, cE_ife, cE_tup, cE_lst, kTup0, kTup1, kTup2, kTup3, kTup4, kTup5, kLst0, kLst1, kLst2, kLst3, kLst4, kLst5, cE_call, cE_bi, cE_idx, kIdx1_eq, cE_slc, kSlc1_eq, kSlc2_eq, kSlc3_lst, kSlc3_fl, kSlc3_tup, kSlc3_sq, cE_meth, cE_dct, cE_mkd, kMkd_lst, cE_lzip, cL_nil, cL_cons, kRow_eq, kCons_d, kCons_ref, kCons_fl, kCons_sq, cO_nop, cO_sb, kSb_int, cP_nil, cP_cons, kPr1_d, kPr2_d, kPr2_fl, kPr3_s, kPr3_i, cT_nil, cT_cons, cI_rng, cI_rng2, cI_zip, kZip_tt, kZip_ll, cI_it, kIt_lst, kIt_tup, kIt_fl, kIt_str, ckd_none, unl_none, cN_0, cN_S, kEn_eq, cB_nm, cB_tup, cBs_nil, cBs_cons, kBs_eq, cE_lc, kLc_eq, kLt1_eq, kLt3_d, kLt3_fl, cG_d, cG_ref, cG_sq, cG_fl, cG_fd, cA_d, cA_ref, cA_fl, cA_fd, cG_pt, cG_unl, cG_star, cG_ix, cG_ixl, kIx1_eq, cS_asg, kAsg_eq, kNx_eq, cS_par, kPar_eq, cR_nil, cR_cons, kRw_nd, kRw_nf, kRw_nr, kRw_ad, kRw_af, kRw_ar, cW_nil, cW_nd, cW_nr, cW_ad, cW_ar, cW_af, kWs_eq, cS_ret, kRt_eq, cS_ex, kEx_eq, cS_if, cS_cons, cS_nil, cS_brk, cS_cnt, cS_pass, kSeq_nx, kSeq_ret, kSeq_bk, kSeq_ct, cS_for, kFor_eq, kBody_eq, kTurn_nx, kTurn_ct, kTurn_bk, kTurn_ret, cS_whl, kWTurn_nx, kWTurn_ct, kWTurn_bk, kWTurn_ret, kFin_ret, kFin_nx, finish_d, finish_fl, finish_fd, finish_sq, r_add, r_addb, r_sub, r_mul, r_div, r_mod, r_pow, r_shl, r_shr, r_and, r_adds, r_addt, r_addl, r_eqi, r_nei, r_eqs, r_nes, r_eqt0, r_net0, r_eql0, r_nel0, r_lt, r_le, r_gt, r_ge, r_lenl, r_lent, r_lens, r_tupl, r_tupt, r_lisl, r_list, r_inti, r_abs, r_max, r_min, t2_0, t2_1, t2_2, t2_3, t2_4, l2_0, l2_1, l2_2, l2_3, kRng_int, kRng2_int, ckd_some, unl_t, unl_f, oK_some, oC_some, oP_some, oW_some, kRet_ok, kLc2_t, kLc2_f, vIdx_dct, vPt_some, vUn_some, kLc3_d, kLc3_fl, kIf_t, kIf_f, kIf_p, kIf_n, kIte_t, kIte_f, kIte_p, kIte_n, kAnd_t, kAnd_f, kAnd_p, kAnd_n, kOr_t, kOr_f, kOr_p, kOr_n, kTst_t, kTst_f, kTst_p, kTst_n, kWTest_p, kWTest_n, kLt2_t, kLt2_f, kLt2_p, kCall_0, kCall_r0, kCall_r1, kCall_r2, kR0_d, kR0_fl, kR0_fd, kR1_d, kR1_fl, kR1_fd, kR1_ref, m_pop1, m_pop0, m_app, vTy_lst, kMe1_pop, kMe1_app, kMe1_ext, kMe1_idx, m_ext, bin_fl1, bin_fl2, vBin_dd, cmp_fl1, cmp_fl2, vCmp_dd, vBi_1, idx_fl, idx_fd, vIdx_dd, vSlc_d, if_fl, st21, st32, r_intt, r_intf, r_intp, r_zipt, *])
theorem turn {n : Nat} {X : Xk (W × Cells)} {K : Fl → En → Cells → Res (W × Cells)} {R : Res (W × Cells)} {ns : List D} {ms : List Str} {w8 w9 w10 : Option W} (hs : ∀ m ∈ ms, okS m = true) (ha : ∀ m ∈ ms, aok m = true) (hl : ms.length ≤ 8) (hn : 40 ≤ n) {k : Int} {d : Nat} (hd : d ≤ 6)
    (hk : ∀ (K : W → Cells → Res (W × Cells)) (c : Cells), kIdx2 (.d (.lst [.int 6, .int 3, .int 2])) K (.d (.int k)) c = K (.d (.int d)) c)
    (ws : List (List Str × D)) (t : Tap) (w5 w6 w7 w11 : Option W) (hw : ∀ p ∈ ws, Ok p) (hwl : ws.length ≤ 100000) (h0 : 0 ≤ t.calls) (hc : t.calls < 10000000)
    (h : ∀ (ws' : List (List Str × D)) (t' : Tap) (w5 w6 w7 w11 : Option W), (∀ p ∈ ws', Ok p) → ws'.length ≤ ws.length + 20003 → t.calls ≤ t'.calls → t'.calls ≤ t.calls + 500 →
      K .nx [some (.sq ns), some (.ref 0), some (.d (.tup (sD ms))), some (.ref 1), some (.d (.int k)), w5, w6, w7, w8, w9, w10, w11] [t'.c, .lst (ws'.map pD)] = R) :
    cS (fnsN U n) X w10a [some (.sq ns), some (.ref 0), some (.d (.tup (sD ms))), some (.ref 1), some (.d (.int k)), w5, w6, w7, w8, w9, w10, w11] [t.c, .lst (ws.map pD)] K = R := by
  obtain ⟨n, rfl⟩ : ∃ m, n = m + 1 := ⟨n - 1, by omega⟩
  have p2 : (2 : Int) ^ d ≤ 64 := by
    have : 2 ^ d ≤ 2 ^ 6 := Nat.pow_le_pow_right (by decide) hd
    exact_mod_cast this
  have on := tree_on d t ms
  have dep := tree_depth d t ms
  have cal := tree_calls d t ms
  have tr := tree_ok (U := U) (i := 4) (f := 2) rfl rfl d n t ms (by omega) (by omega) (by omega) h0 (by omega)
  generalize Tap.tree d t ms = T at *
  obtain ⟨tt, t1⟩ := T
  dsimp only at on dep cal tr
  have bd := tr_bd (on_all (p := aok) _ ms on ha) (on_all (p := okS) _ ms on hs) (by omega)
  obtain ⟨xs, hx⟩ := tr_tup tt
  rw [hx] at tr bd
  have nr := near_ok (n := n) (ms := ms) (xs := xs) hl (by have := bd.u; simp only [D.ub] at this; have := ubs_len xs; omega)
  have nb := near_bd (ms := ms) (fun m hm => ⟨ha m hm, by have := hs m hm; simp only [okS, Bool.and_eq_true, decide_eq_true_eq] at this; exact this.1⟩) bd
  have nl := near_len ms xs
  clear on dep hx
  walk_at "lfs"
  refine bend_loop bd (by omega) (rngL 0 5) (near ms xs) t1 w7 w11 nb (by rw [rngL_len]; omega) (by omega) (by rw [rngL_len]; omega) fun xs' t' w7 w11 hx' hl' c1 c2 => ?_
  rw [rngL_len] at c2
  have c2 : t'.calls ≤ t1.calls + 40 * 5 := c2
  have fin := h (ws ++ xs'.map (fun x => (ms, x)) ++ (xs'.take 3).map (fun x => (ms.drop 1, x))) t' (some (.d (.tup xs))) (some (.d (.lst xs'))) w7 w11 (by
    intro p hp
    simp only [List.mem_append, List.mem_map] at hp
    rcases hp with (hp | ⟨x, hx, rfl⟩) | ⟨x, hx, rfl⟩
    · exact hw p hp
    · exact ⟨hs, by show ms.length ≤ 60; omega, hx' x hx⟩
    · exact ⟨fun m hm => hs m (List.mem_of_mem_drop hm), by show (ms.drop 1).length ≤ 60; simp; omega, hx' x (List.mem_of_mem_take hx)⟩) (by simp; omega) (by omega) (by omega)
  have e1 : ws.map pD ++ xs'.map (fun x => D.tup [.tup (sD ms), x]) = (ws ++ xs'.map (fun x => (ms, x))).map pD := by simp [pD]
  have e2 : (ws ++ xs'.map (fun x => (ms, x))).map pD ++ (xs'.take 3).map (fun x => D.tup [.tup (sD (ms.drop 1)), x]) = (ws ++ xs'.map (fun x => (ms, x)) ++ (xs'.take 3).map (fun x => (ms.drop 1, x))).map pD := by simp only [List.map_append, List.map_map]; rfl
  have l1 : (ws ++ xs'.map (fun x => (ms, x))).length ≤ 200000 := by simp; omega
  clear h hx' hw bd nb nr hs ha tr hk
  walk_at "lf"
  refine lc_map (fun x => D.tup [.tup (sD ms), x]) (by omega) (fun x _ K => by walk_at "lf") ?_
  walk_at "lfs"
  refine lc_map (fun x => D.tup [.tup (sD (ms.drop 1)), x]) (by simp; omega) (fun x _ K => by walk_at "lf") ?_
  walk_at "lfs"
theorem cw_okS : ∀ m ∈ cw, okS m = true := by decide +kernel
theorem ct_bd : ∀ x ∈ ct, Th x := by
  have key : ∀ x ∈ ct, asc 3 x = true ∧ x.dep ≤ 60 ∧ x.ub ≤ 200000 := by decide +kernel
  exact fun x hx => ⟨(key x hx).1, (key x hx).2.1, (key x hx).2.2⟩
local macro_rules | `(tactic| walk_at "lf") => `(tactic| simp -implicitDefEqProofs (disch := (first | with_reducible assumption | omega | decide +kernel | (simp only [List.length_cons, List.length_nil, List.length_map, List.length_append, List.length_take, List.length_drop, List.length_reverse, tap_len]; omega) | exact of_decide_eq_true (id rfl) | fail)) only [↓cE_non, ↓cE_bl, ↓cE_int, ↓cE_str, ↓cE_var0, ↓cE_varS, ↓cE_glb, ↓cE_bin, ↓kBin1_eq, ↓cE_neg, ↓kNeg_int, ↓cE_rev, ↓kRev_tup, ↓kRev_lst, ↓kRev_fl, ↓cE_isi, ↓kIsi_d, ↓kIsi_fl, ↓r_isN, ↓r_isNN, ↓r_lts, ↓r_les, ↓r_gts, ↓r_ges, ↓r_addbi, ↓r_strb, ↓r_strs, ↓kMe1_supp, ↓r_in_sl, ↓r_in_st, ↓r_ni_sl, ↓r_ni_st, ↓r_in_it, ↓r_ni_it, ↓cE_unot, ↓kNot_bl, ↓cE_band, ↓cE_bor, ↓cE_cmp, ↓kCmp1_eq, ↓cE_ife, ↓cE_tup, ↓cE_lst, ↓kTup0, ↓kTup1, ↓kTup2, ↓kTup3, ↓kTup4, ↓kTup5, ↓kLst0, ↓kLst1, ↓kLst2, ↓kLst3, ↓kLst4, ↓kLst5, ↓cE_call, ↓cE_bi, ↓cE_idx, ↓kIdx1_eq, ↓cE_slc, ↓kSlc1_eq, ↓kSlc2_eq, ↓kSlc3_lst, ↓kSlc3_fl, ↓kSlc3_tup, ↓kSlc3_sq, ↓cE_meth, ↓cE_dct, ↓cE_mkd, ↓kMkd_lst, ↓cE_lzip, ↓cL_nil, ↓cL_cons, ↓kRow_eq, ↓kCons_d, ↓kCons_ref, ↓kCons_fl, ↓kCons_sq, ↓cO_nop, ↓cO_sb, ↓kSb_int, ↓cP_nil, ↓cP_cons, ↓kPr1_d, ↓kPr2_d, ↓kPr2_fl, ↓kPr3_s, ↓kPr3_i, ↓cT_nil, ↓cT_cons, ↓cI_rng, ↓cI_rng2, ↓cI_zip, ↓kZip_tt, ↓kZip_ll, ↓cI_it, ↓kIt_lst, ↓kIt_tup, ↓kIt_fl, ↓kIt_str, ↓ckd_none, ↓unl_none, ↓cN_0, ↓cN_S, ↓kEn_eq, ↓cB_nm, ↓cB_tup, ↓cBs_nil, ↓cBs_cons, ↓kBs_eq, ↓cE_lc, ↓kLc_eq, ↓kLt1_eq, ↓kLt3_d, ↓kLt3_fl, ↓cG_d, ↓cG_ref, ↓cG_sq, ↓cG_fl, ↓cG_fd, ↓cA_d, ↓cA_ref, ↓cA_fl, ↓cA_fd, ↓cG_pt, ↓cG_unl, ↓cG_star, ↓cG_ix, ↓cG_ixl, ↓kIx1_eq, ↓cS_asg, ↓kAsg_eq, ↓kNx_eq, ↓cS_par, ↓kPar_eq, ↓cR_nil, ↓cR_cons, ↓kRw_nd, ↓kRw_nf, ↓kRw_nr, ↓kRw_ad, ↓kRw_af, ↓kRw_ar, ↓cW_nil, ↓cW_nd, ↓cW_nr, ↓cW_ad, ↓cW_ar, ↓cW_af, ↓kWs_eq, ↓cS_ret, ↓kRt_eq, ↓cS_ex, ↓kEx_eq, ↓cS_if, ↓cS_cons, ↓cS_nil, ↓cS_brk, ↓cS_cnt, ↓cS_pass, ↓kSeq_nx, ↓kSeq_ret, ↓kSeq_bk, ↓kSeq_ct, ↓cS_for, ↓kFor_eq, ↓kBody_eq, ↓kTurn_nx, ↓kTurn_ct, ↓kTurn_bk, ↓kTurn_ret, ↓cS_whl, ↓kWTurn_nx, ↓kWTurn_ct, ↓kWTurn_bk, ↓kWTurn_ret, ↓kFin_ret, ↓kFin_nx, ↓finish_d, ↓finish_fl, ↓finish_fd, ↓finish_sq, ↓r_add, ↓r_addb, ↓r_sub, ↓r_mul, ↓r_div, ↓r_mod, ↓r_pow, ↓r_shl, ↓r_shr, ↓r_and, ↓r_adds, ↓r_addt, ↓r_addl, ↓r_eqi, ↓r_nei, ↓r_eqs, ↓r_nes, ↓r_eqt0, ↓r_net0, ↓r_eql0, ↓r_nel0, ↓r_lt, ↓r_le, ↓r_gt, ↓r_ge, ↓r_lenl, ↓r_lent, ↓r_lens, ↓r_tupl, ↓r_tupt, ↓r_lisl, ↓r_list, ↓r_inti, ↓r_abs, ↓r_max, ↓r_min, ↓t2_0, ↓t2_1, ↓t2_2, ↓t2_3, ↓t2_4, ↓l2_0, ↓l2_1, ↓l2_2, ↓l2_3, ↓kRng_int, ↓kRng2_int, ↓ckd_some, ↓unl_t, ↓unl_f, ↓oK_some, ↓oC_some, ↓oP_some, ↓oW_some, ↓kRet_ok, ↓kLc2_t, ↓kLc2_f, ↓vIdx_dct, ↓vPt_some, ↓vUn_some, ↓kLc3_d, ↓kLc3_fl, ↓kIf_t, ↓kIf_f, ↓kIf_p, ↓kIf_n, ↓kIte_t, ↓kIte_f, ↓kIte_p, ↓kIte_n, ↓kAnd_t, ↓kAnd_f, ↓kAnd_p, ↓kAnd_n, ↓kOr_t, ↓kOr_f, ↓kOr_p, ↓kOr_n, ↓kTst_t, ↓kTst_f, ↓kTst_p, ↓kTst_n, ↓kWTest_p, ↓kWTest_n, ↓kLt2_t, ↓kLt2_f, ↓kLt2_p, ↓kCall_0, ↓kCall_r0, ↓kCall_r1, ↓kCall_r2, ↓kR0_d, ↓kR0_fl, ↓kR0_fd, ↓kR1_d, ↓kR1_fl, ↓kR1_fd, ↓kR1_ref, ↓m_pop1, ↓m_pop0, ↓m_app, ↓vTy_lst, ↓kMe1_pop, ↓kMe1_app, ↓kMe1_ext, ↓kMe1_idx, ↓m_ext, ↓bin_fl1, ↓bin_fl2, ↓vBin_dd, ↓cmp_fl1, ↓cmp_fl2, ↓vCmp_dd, ↓vBi_1, ↓idx_fl, ↓idx_fd, ↓vIdx_dd, ↓vSlc_d, ↓if_fl, ↓st21, ↓st32, ↓r_intt, ↓r_intf, ↓r_intp, ↓r_zipt, ↓if_pos, ↓if_neg, ↓reduceIte, kSlc3_str, r_stri, m_supp, isD_tup_non, isD_tup_bl, isD_tup_int, isD_tup_str, isD_tup_tup, isD_tup_lst, isD_lst_non, isD_lst_bl, isD_lst_int, isD_lst_str, isD_lst_tup, isD_lst_lst, isD_str_non, isD_str_bl, isD_str_int, isD_str_str, isD_str_tup, isD_str_lst, isD_int_non, isD_int_bl, isD_int_int, isD_int_str, isD_int_tup, isD_int_lst, isD_bl_non, isD_bl_bl, isD_bl_int, isD_bl_str, isD_bl_tup, isD_bl_lst, isD_dct_non, isD_dct_bl, isD_dct_int, isD_dct_str, isD_dct_tup, isD_dct_lst, isN_non, isN_bl, isN_int, isN_str, isN_tup, isN_lst, r_intb, bin_ref1, bin_ref2, cmp_ref1, cmp_ref2, bi_ref, idx_ref, slc_ref, r_eq, r_ne, kAnd_bl, kOr_bl, kIte_bl, kTst_bl, kIf_bl, kWTest_bl, kLt2_eq, kNot_eq, kAnd_eq, kOr_eq, kIte_eq, kTup_eq, kLst_eq, kIdx2_dd, vPop_lst, vPop0_lst, vApp_lst, emp_snoc, vExt_lst, m_tidx, idx_tmap, idx_lmap, kDct_eq, kLzip_eq, kTst_eq, kIt_ref, vWk_lst, vWk_lk, kIf_eq, kWTest_eq, kIx2_d, kRw_eq, kGl_some, finish_old, finish_new, vFin_lst, vFin_dct, cLc_nil, cLc_cons, kLc1_eq, kLc2_eq, cFor_nil, cFor_cons, view_d, view_fl, view_ref, vwC_lst, vwC_lk, vwC_dct, viewD_ref, viewD_d, viewD_fl, viewD_fd, vwD_lst, vwD_lk, vwD_dct, views_nil, views_cons, cnsO_some, frzs_nil, frzs_d, cnsF_some, putIx_ref, pIx_s, pIx_i, pIx_l, dGet_hit, dGet_miss, renW_self, renW_d, renW_sq, truW, tup_ok, lst_ok, List.map_cons, List.map_nil, List.all_cons, List.all_nil, List.contains_cons, List.contains_nil, List.elem_nil, List.getD_cons_zero, List.getD_cons_succ, List.getElem?_cons_zero, List.getElem?_cons_succ, List.getElem?_nil, List.set_cons_zero, List.set_cons_succ, List.length_cons, List.length_nil, List.nil_append, List.cons_append, List.append_nil, List.take_zero, List.take_succ_cons, List.take_nil, Bool.true_and, Bool.and_true, Bool.false_and, Bool.and_false, Bool.not_true, Bool.not_false, Bool.true_or, Bool.or_true, decide_eq_true_eq, Bool.not_eq_true', decide_eq_false_iff_not, reduceCtorEq, if_true, if_false, ite_true, ite_false, Bool.false_eq_true, Option.map_some, List.idxOf_cons, beq_self_eq_true, Nat.zero_add, cond_true, cond_false, D.truO, D.tru, List.isEmpty_cons, List.isEmpty_nil, Int.toNat_zero, List.length_map, clearO_nil, clearO_cons, Option.map_none, star_t, star_l, cut_pre, cut_suf, cut_mid, cut_all, take_map, drop_map, b2i_t, b2i_f, cut_tail, drop_one, toNat_1, toNat_2, toNat_3, List.drop_zero, cE_non, cE_bl, cE_int, cE_str, cE_var0, cE_varS, cE_glb, cE_bin, kBin1_eq, cE_neg, kNeg_int, cE_rev, kRev_tup, kRev_lst, kRev_fl, cE_isi, kIsi_d, kIsi_fl, r_isN, r_isNN, r_lts, r_les, r_gts, r_ges, r_addbi, r_strb, r_strs, kMe1_supp, r_in_sl, r_in_st, r_ni_sl, r_ni_st, r_in_it, r_ni_it, cE_unot, kNot_bl, cE_band, cE_bor, cE_cmp, kCmp1_eq, cE_ife, cE_tup, cE_lst, kTup0, kTup1, kTup2, kTup3, kTup4, kTup5, kLst0, kLst1, kLst2, kLst3, kLst4, kLst5, cE_call, cE_bi, cE_idx, kIdx1_eq, cE_slc, kSlc1_eq, kSlc2_eq, kSlc3_lst, kSlc3_fl, kSlc3_tup, kSlc3_sq, cE_meth, cE_dct, cE_mkd, kMkd_lst, cE_lzip, cL_nil, cL_cons, kRow_eq, kCons_d, kCons_ref, kCons_fl, kCons_sq, cO_nop, cO_sb, kSb_int, cP_nil, cP_cons, kPr1_d, kPr2_d, kPr2_fl, kPr3_s, kPr3_i, cT_nil, cT_cons, cI_rng, cI_rng2, cI_zip, kZip_tt, kZip_ll, cI_it, kIt_lst, kIt_tup, kIt_fl, kIt_str, ckd_none, unl_none, cN_0, cN_S, kEn_eq, cB_nm, cB_tup, cBs_nil, cBs_cons, kBs_eq, cE_lc, kLc_eq, kLt1_eq, kLt3_d, kLt3_fl, cG_d, cG_ref, cG_sq, cG_fl, cG_fd, cA_d, cA_ref, cA_fl, cA_fd, cG_pt, cG_unl, cG_star, cG_ix, cG_ixl, kIx1_eq, cS_asg, kAsg_eq, kNx_eq, cS_par, kPar_eq, cR_nil, cR_cons, kRw_nd, kRw_nf, kRw_nr, kRw_ad, kRw_af, kRw_ar, cW_nil, cW_nd, cW_nr, cW_ad, cW_ar, cW_af, kWs_eq, cS_ret, kRt_eq, cS_ex, kEx_eq, cS_if, cS_cons, cS_nil, cS_brk, cS_cnt, cS_pass, kSeq_nx, kSeq_ret, kSeq_bk, kSeq_ct, cS_for, kFor_eq, kBody_eq, kTurn_nx, kTurn_ct, kTurn_bk, kTurn_ret, cS_whl, kWTurn_nx, kWTurn_ct, kWTurn_bk, kWTurn_ret, kFin_ret, kFin_nx, finish_d, finish_fl, finish_fd, finish_sq, r_add, r_addb, r_sub, r_mul, r_div, r_mod, r_pow, r_shl, r_shr, r_and, r_adds, r_addt, r_addl, r_eqi, r_nei, r_eqs, r_nes, r_eqt0, r_net0, r_eql0, r_nel0, r_lt, r_le, r_gt, r_ge, r_lenl, r_lent, r_lens, r_tupl, r_tupt, r_lisl, r_list, r_inti, r_abs, r_max, r_min, t2_0, t2_1, t2_2, t2_3, t2_4, l2_0, l2_1, l2_2, l2_3, kRng_int, kRng2_int, ckd_some, unl_t, unl_f, oK_some, oC_some, oP_some, oW_some, kRet_ok, kLc2_t, kLc2_f, vIdx_dct, vPt_some, vUn_some, kLc3_d, kLc3_fl, kIf_t, kIf_f, kIf_p, kIf_n, kIte_t, kIte_f, kIte_p, kIte_n, kAnd_t, kAnd_f, kAnd_p, kAnd_n, kOr_t, kOr_f, kOr_p, kOr_n, kTst_t, kTst_f, kTst_p, kTst_n, kWTest_p, kWTest_n, kLt2_t, kLt2_f, kLt2_p, kCall_0, kCall_r0, kCall_r1, kCall_r2, kR0_d, kR0_fl, kR0_fd, kR1_d, kR1_fl, kR1_fd, kR1_ref, m_pop1, m_pop0, m_app, vTy_lst, kMe1_pop, kMe1_app, kMe1_ext, kMe1_idx, m_ext, bin_fl1, bin_fl2, vBin_dd, cmp_fl1, cmp_fl2, vCmp_dd, vBi_1, idx_fl, idx_fd, vIdx_dd, vSlc_d, if_fl, st21, st32, r_intt, r_intf, r_intp, r_zipt])
local macro_rules | `(tactic| walk_at "lfs") => `(tactic| simp -implicitDefEqProofs (disch := (first | with_reducible assumption | omega | decide +kernel | (simp only [List.length_cons, List.length_nil, List.length_map, List.length_append, List.length_take, List.length_drop, List.length_reverse, tap_len]; omega) | exact of_decide_eq_true (id rfl) | fail)) only [↓cE_non, ↓cE_bl, ↓cE_int, ↓cE_str, ↓cE_var0, ↓cE_varS, ↓cE_glb, ↓cE_bin, ↓kBin1_eq, ↓cE_neg, ↓kNeg_int, ↓cE_rev, ↓kRev_tup, ↓kRev_lst, ↓kRev_fl, ↓cE_isi, ↓kIsi_d, ↓kIsi_fl, ↓r_isN, ↓r_isNN, ↓r_lts, ↓r_les, ↓r_gts, ↓r_ges, ↓r_addbi, ↓r_strb, ↓r_strs, ↓kMe1_supp, ↓r_in_sl, ↓r_in_st, ↓r_ni_sl, ↓r_ni_st, ↓r_in_it, ↓r_ni_it, ↓cE_unot, ↓kNot_bl, ↓cE_band, ↓cE_bor, ↓cE_cmp, ↓kCmp1_eq, ↓cE_ife, ↓cE_tup, ↓cE_lst, ↓kTup0, ↓kTup1, ↓kTup2, ↓kTup3, ↓kTup4, ↓kTup5, ↓kLst0, ↓kLst1, ↓kLst2, ↓kLst3, ↓kLst4, ↓kLst5, ↓cE_call, ↓cE_bi, ↓cE_idx, ↓kIdx1_eq, ↓cE_slc, ↓kSlc1_eq, ↓kSlc2_eq, ↓kSlc3_lst, ↓kSlc3_fl, ↓kSlc3_tup, ↓kSlc3_sq, ↓cE_meth, ↓cE_dct, ↓cE_mkd, ↓kMkd_lst, ↓cE_lzip, ↓cL_nil, ↓cL_cons, ↓kRow_eq, ↓kCons_d, ↓kCons_ref, ↓kCons_fl, ↓kCons_sq, ↓cO_nop, ↓cO_sb, ↓kSb_int, ↓cP_nil, ↓cP_cons, ↓kPr1_d, ↓kPr2_d, ↓kPr2_fl, ↓kPr3_s, ↓kPr3_i, ↓cT_nil, ↓cT_cons, ↓cI_rng, ↓cI_rng2, ↓cI_zip, ↓kZip_tt, ↓kZip_ll, ↓cI_it, ↓kIt_lst, ↓kIt_tup, ↓kIt_fl, ↓kIt_str, ↓ckd_none, ↓unl_none, ↓cN_0, ↓cN_S, ↓kEn_eq, ↓cB_nm, ↓cB_tup, ↓cBs_nil, ↓cBs_cons, ↓kBs_eq, ↓cE_lc, ↓kLc_eq, ↓kLt1_eq, ↓kLt3_d, ↓kLt3_fl, ↓cG_d, ↓cG_ref, ↓cG_sq, ↓cG_fl, ↓cG_fd, ↓cA_d, ↓cA_ref, ↓cA_fl, ↓cA_fd, ↓cG_pt, ↓cG_unl, ↓cG_star, ↓cG_ix, ↓cG_ixl, ↓kIx1_eq, ↓cS_asg, ↓kAsg_eq, ↓kNx_eq, ↓cS_par, ↓kPar_eq, ↓cR_nil, ↓cR_cons, ↓kRw_nd, ↓kRw_nf, ↓kRw_nr, ↓kRw_ad, ↓kRw_af, ↓kRw_ar, ↓cW_nil, ↓cW_nd, ↓cW_nr, ↓cW_ad, ↓cW_ar, ↓cW_af, ↓kWs_eq, ↓cS_ret, ↓kRt_eq, ↓cS_ex, ↓kEx_eq, ↓cS_if, ↓cS_cons, ↓cS_nil, ↓cS_brk, ↓cS_cnt, ↓cS_pass, ↓kSeq_nx, ↓kSeq_ret, ↓kSeq_bk, ↓kSeq_ct, ↓cS_for, ↓kFor_eq, ↓kBody_eq, ↓kTurn_nx, ↓kTurn_ct, ↓kTurn_bk, ↓kTurn_ret, ↓cS_whl, ↓kWTurn_nx, ↓kWTurn_ct, ↓kWTurn_bk, ↓kWTurn_ret, ↓kFin_ret, ↓kFin_nx, ↓finish_d, ↓finish_fl, ↓finish_fd, ↓finish_sq, ↓r_add, ↓r_addb, ↓r_sub, ↓r_mul, ↓r_div, ↓r_mod, ↓r_pow, ↓r_shl, ↓r_shr, ↓r_and, ↓r_adds, ↓r_addt, ↓r_addl, ↓r_eqi, ↓r_nei, ↓r_eqs, ↓r_nes, ↓r_eqt0, ↓r_net0, ↓r_eql0, ↓r_nel0, ↓r_lt, ↓r_le, ↓r_gt, ↓r_ge, ↓r_lenl, ↓r_lent, ↓r_lens, ↓r_tupl, ↓r_tupt, ↓r_lisl, ↓r_list, ↓r_inti, ↓r_abs, ↓r_max, ↓r_min, ↓t2_0, ↓t2_1, ↓t2_2, ↓t2_3, ↓t2_4, ↓l2_0, ↓l2_1, ↓l2_2, ↓l2_3, ↓kRng_int, ↓kRng2_int, ↓ckd_some, ↓unl_t, ↓unl_f, ↓oK_some, ↓oC_some, ↓oP_some, ↓oW_some, ↓kRet_ok, ↓kLc2_t, ↓kLc2_f, ↓vIdx_dct, ↓vPt_some, ↓vUn_some, ↓kLc3_d, ↓kLc3_fl, ↓kIf_t, ↓kIf_f, ↓kIf_p, ↓kIf_n, ↓kIte_t, ↓kIte_f, ↓kIte_p, ↓kIte_n, ↓kAnd_t, ↓kAnd_f, ↓kAnd_p, ↓kAnd_n, ↓kOr_t, ↓kOr_f, ↓kOr_p, ↓kOr_n, ↓kTst_t, ↓kTst_f, ↓kTst_p, ↓kTst_n, ↓kWTest_p, ↓kWTest_n, ↓kLt2_t, ↓kLt2_f, ↓kLt2_p, ↓kCall_0, ↓kCall_r0, ↓kCall_r1, ↓kCall_r2, ↓kR0_d, ↓kR0_fl, ↓kR0_fd, ↓kR1_d, ↓kR1_fl, ↓kR1_fd, ↓kR1_ref, ↓m_pop1, ↓m_pop0, ↓m_app, ↓vTy_lst, ↓kMe1_pop, ↓kMe1_app, ↓kMe1_ext, ↓kMe1_idx, ↓m_ext, ↓bin_fl1, ↓bin_fl2, ↓vBin_dd, ↓cmp_fl1, ↓cmp_fl2, ↓vCmp_dd, ↓vBi_1, ↓idx_fl, ↓idx_fd, ↓vIdx_dd, ↓vSlc_d, ↓if_fl, ↓st21, ↓st32, ↓r_intt, ↓r_intf, ↓r_intp, ↓r_zipt, ↓if_pos, ↓if_neg, ↓reduceIte, kSlc3_str, r_stri, m_supp, isD_tup_non, isD_tup_bl, isD_tup_int, isD_tup_str, isD_tup_tup, isD_tup_lst, isD_lst_non, isD_lst_bl, isD_lst_int, isD_lst_str, isD_lst_tup, isD_lst_lst, isD_str_non, isD_str_bl, isD_str_int, isD_str_str, isD_str_tup, isD_str_lst, isD_int_non, isD_int_bl, isD_int_int, isD_int_str, isD_int_tup, isD_int_lst, isD_bl_non, isD_bl_bl, isD_bl_int, isD_bl_str, isD_bl_tup, isD_bl_lst, isD_dct_non, isD_dct_bl, isD_dct_int, isD_dct_str, isD_dct_tup, isD_dct_lst, isN_non, isN_bl, isN_int, isN_str, isN_tup, isN_lst, r_intb, bin_ref1, bin_ref2, cmp_ref1, cmp_ref2, bi_ref, idx_ref, slc_ref, r_eq, r_ne, kAnd_bl, kOr_bl, kIte_bl, kTst_bl, kIf_bl, kWTest_bl, kLt2_eq, kNot_eq, kAnd_eq, kOr_eq, kIte_eq, kTup_eq, kLst_eq, kIdx2_dd, vPop_lst, vPop0_lst, vApp_lst, emp_snoc, vExt_lst, m_tidx, idx_tmap, idx_lmap, kDct_eq, kLzip_eq, kTst_eq, kIt_ref, vWk_lst, vWk_lk, kIf_eq, kWTest_eq, kIx2_d, kRw_eq, kGl_some, finish_old, finish_new, vFin_lst, vFin_dct, cLc_nil, cLc_cons, kLc1_eq, kLc2_eq, cFor_nil, cFor_cons, view_d, view_fl, view_ref, vwC_lst, vwC_lk, vwC_dct, viewD_ref, viewD_d, viewD_fl, viewD_fd, vwD_lst, vwD_lk, vwD_dct, views_nil, views_cons, cnsO_some, frzs_nil, frzs_d, cnsF_some, putIx_ref, pIx_s, pIx_i, pIx_l, dGet_hit, dGet_miss, renW_self, renW_d, renW_sq, truW, tup_ok, lst_ok, List.map_cons, List.map_nil, List.all_cons, List.all_nil, List.contains_cons, List.contains_nil, List.elem_nil, List.getD_cons_zero, List.getD_cons_succ, List.getElem?_cons_zero, List.getElem?_cons_succ, List.getElem?_nil, List.set_cons_zero, List.set_cons_succ, List.length_cons, List.length_nil, List.nil_append, List.cons_append, List.append_nil, List.take_zero, List.take_succ_cons, List.take_nil, Bool.true_and, Bool.and_true, Bool.false_and, Bool.and_false, Bool.not_true, Bool.not_false, Bool.true_or, Bool.or_true, decide_eq_true_eq, Bool.not_eq_true', decide_eq_false_iff_not, reduceCtorEq, if_true, if_false, ite_true, ite_false, Bool.false_eq_true, Option.map_some, List.idxOf_cons, beq_self_eq_true, Nat.zero_add, cond_true, cond_false, D.truO, D.tru, List.isEmpty_cons, List.isEmpty_nil, Int.toNat_zero, List.length_map, clearO_nil, clearO_cons, Option.map_none, star_t, star_l, cut_pre, cut_suf, cut_mid, cut_all, take_map, drop_map, b2i_t, b2i_f, cut_tail, drop_one, toNat_1, toNat_2, toNat_3, List.drop_zero, cE_non, cE_bl, cE_int, cE_str, cE_var0, cE_varS, cE_glb, cE_bin, kBin1_eq, cE_neg, kNeg_int, cE_rev, kRev_tup, kRev_lst, kRev_fl, cE_isi, kIsi_d, kIsi_fl, r_isN, r_isNN, r_lts, r_les, r_gts, r_ges, r_addbi, r_strb, r_strs, kMe1_supp, r_in_sl, r_in_st, r_ni_sl, r_ni_st, r_in_it, r_ni_it, cE_unot, kNot_bl, cE_band, cE_bor, cE_cmp, kCmp1_eq, cE_ife, cE_tup, cE_lst, kTup0, kTup1, kTup2, kTup3, kTup4, kTup5, kLst0, kLst1, kLst2, kLst3, kLst4, kLst5, cE_call, cE_bi, cE_idx, kIdx1_eq, cE_slc, kSlc1_eq, kSlc2_eq, kSlc3_lst, kSlc3_fl, kSlc3_tup, kSlc3_sq, cE_meth, cE_dct, cE_mkd, kMkd_lst, cE_lzip, cL_nil, cL_cons, kRow_eq, kCons_d, kCons_ref, kCons_fl, kCons_sq, cO_nop, cO_sb, kSb_int, cP_nil, cP_cons, kPr1_d, kPr2_d, kPr2_fl, kPr3_s, kPr3_i, cT_nil, cT_cons, cI_rng, cI_rng2, cI_zip, kZip_tt, kZip_ll, cI_it, kIt_lst, kIt_tup, kIt_fl, kIt_str, ckd_none, unl_none, cN_0, cN_S, kEn_eq, cB_nm, cB_tup, cBs_nil, cBs_cons, kBs_eq, cE_lc, kLc_eq, kLt1_eq, kLt3_d, kLt3_fl, cG_d, cG_ref, cG_sq, cG_fl, cG_fd, cA_d, cA_ref, cA_fl, cA_fd, cG_pt, cG_unl, cG_star, cG_ix, cG_ixl, kIx1_eq, cS_asg, kAsg_eq, kNx_eq, cS_par, kPar_eq, cR_nil, cR_cons, kRw_nd, kRw_nf, kRw_nr, kRw_ad, kRw_af, kRw_ar, cW_nil, cW_nd, cW_nr, cW_ad, cW_ar, cW_af, kWs_eq, cS_ret, kRt_eq, cS_ex, kEx_eq, cS_if, cS_cons, cS_nil, cS_brk, cS_cnt, cS_pass, kSeq_nx, kSeq_ret, kSeq_bk, kSeq_ct, cS_for, kFor_eq, kBody_eq, kTurn_nx, kTurn_ct, kTurn_bk, kTurn_ret, cS_whl, kWTurn_nx, kWTurn_ct, kWTurn_bk, kWTurn_ret, kFin_ret, kFin_nx, finish_d, finish_fl, finish_fd, finish_sq, r_add, r_addb, r_sub, r_mul, r_div, r_mod, r_pow, r_shl, r_shr, r_and, r_adds, r_addt, r_addl, r_eqi, r_nei, r_eqs, r_nes, r_eqt0, r_net0, r_eql0, r_nel0, r_lt, r_le, r_gt, r_ge, r_lenl, r_lent, r_lens, r_tupl, r_tupt, r_lisl, r_list, r_inti, r_abs, r_max, r_min, t2_0, t2_1, t2_2, t2_3, t2_4, l2_0, l2_1, l2_2, l2_3, kRng_int, kRng2_int, ckd_some, unl_t, unl_f, oK_some, oC_some, oP_some, oW_some, kRet_ok, kLc2_t, kLc2_f, vIdx_dct, vPt_some, vUn_some, kLc3_d, kLc3_fl, kIf_t, kIf_f, kIf_p, kIf_n, kIte_t, kIte_f, kIte_p, kIte_n, kAnd_t, kAnd_f, kAnd_p, kAnd_n, kOr_t, kOr_f, kOr_p, kOr_n, kTst_t, kTst_f, kTst_p, kTst_n, kWTest_p, kWTest_n, kLt2_t, kLt2_f, kLt2_p, kCall_0, kCall_r0, kCall_r1, kCall_r2, kR0_d, kR0_fl, kR0_fd, kR1_d, kR1_fl, kR1_fd, kR1_ref, m_pop1, m_pop0, m_app, vTy_lst, kMe1_pop, kMe1_app, kMe1_ext, kMe1_idx, m_ext, bin_fl1, bin_fl2, vBin_dd, cmp_fl1, cmp_fl2, vCmp_dd, vBi_1, idx_fl, idx_fd, vIdx_dd, vSlc_d, if_fl, st21, st32, r_intt, r_intf, r_intp, r_zipt, *])
theorem law_ok {n : Nat} {ns : List Int} (hn : 90 ≤ n ∧ n < 140) (hl : ns.length ≤ 63) : ∃ c, callN U (n + 1) 10 [.sq (ns.map .int)] [] = .ok (.d (.bl true), c) := by
  refine ⟨[], ?_⟩
  obtain ⟨n, rfl⟩ : ∃ k, n = k + 2 := ⟨n - 2, by omega⟩
  have h1 := tap_ok (U := U) (n := n + 1) (i := 1) rfl hl
  have h2 := take_ok (U := U) (n := n + 1) (i := 2) (t := ⟨ns, 0, 0, 0⟩) (m := 7) rfl (by decide) ⟨Int.le_refl 0, by show (0 : Int) < 60000000; decide⟩
  have h3 := marked_ok (U := U) (n := n) (i := 3) (f := 2) (t := Tap.nxt ⟨ns, 0, 0, 0⟩ 7) (m := Tap.val ⟨ns, 0, 0, 0⟩ 7) rfl rfl rfl (Tap.val_lo (by decide)) (by rw [Tap.nxt_calls]; exact ⟨by show (0 : Int) ≤ 0 + 1; decide, by show (0 : Int) + 1 < 50000000; decide⟩)
  have ch := chain_ok (n := n + 1)
  have mc := mkd_calls 8 (Tap.nxt ⟨ns, 0, 0, 0⟩ 7) pool8 (Tap.val ⟨ns, 0, 0, 0⟩ 7)
  rw [Tap.nxt_calls] at mc
  have mc : 0 + 1 ≤ ((Tap.nxt ⟨ns, 0, 0, 0⟩ 7).marked (Tap.val ⟨ns, 0, 0, 0⟩ 7)).2.calls ∧ ((Tap.nxt ⟨ns, 0, 0, 0⟩ 7).marked (Tap.val ⟨ns, 0, 0, 0⟩ 7)).2.calls ≤ 0 + 1 + 8 := mc
  have ml := marked_len (t := Tap.nxt ⟨ns, 0, 0, 0⟩ 7) (m := Tap.val ⟨ns, 0, 0, 0⟩ 7)
  have hs := marked_okS (t := Tap.nxt ⟨ns, 0, 0, 0⟩ 7) (m := Tap.val ⟨ns, 0, 0, 0⟩ 7)
  have ha := marked_aok (t := Tap.nxt ⟨ns, 0, 0, 0⟩ 7) (m := Tap.val ⟨ns, 0, 0, 0⟩ 7)
  have hc : Cell.dct (Tap.k ⟨ns, 0, 0, 0⟩) = Tap.c ⟨ns, 0, 0, 0⟩ := rfl
  generalize (Tap.nxt ⟨ns, 0, 0, 0⟩ 7).marked (Tap.val ⟨ns, 0, 0, 0⟩ 7) = M at *
  obtain ⟨ms, t⟩ := M
  dsimp only at mc ml hs ha h3
  rw [run_def rfl ⟨rfl, by decide⟩]
  simp only [f10, b10, List.map, List.replicate, Nat.reduceSub]
  have e0 : ct.map (fun x => D.tup [.tup (sD cw), x]) = (ct.map (fun x => (cw, x))).map pD := by simp [pD]
  have o0 : ∀ p ∈ ct.map (fun x => (cw, x)), Ok p := by
    intro p hp
    obtain ⟨x, hx, rfl⟩ := List.mem_map.mp hp
    exact ⟨cw_okS, by show cw.length ≤ 60; decide, ct_bd x hx⟩
  have r3 : rngL 0 3 = [.int 0, .int 1, .int 2] := rfl
  walk_at "lfs"
  refine lc_map (fun x => D.tup [.tup (sD cw), x]) (by decide) (fun x _ K => by walk_at "lfs") ?_
  walk_at "lfs"
  refine turn (n := n + 2) (ns := ns.map .int) hs ha ml (by omega) (k := 0) (d := 6) (by decide) (fun K c => l2_0) _ t _ _ _ _ o0 (by decide) (by omega) (by omega) fun ws1 t1 w5 w6 w7 w11 o1 l1 c1 c1' => ?_
  have lc : (List.map (fun x => (cw, x)) ct).length = 5 := rfl
  have l1 : ws1.length ≤ 20010 := by omega
  walk_at "lf"
  refine turn (n := n + 2) (ns := ns.map .int) hs ha ml (by omega) (k := 1) (d := 3) (by decide) (fun K c => l2_1) _ t1 _ _ _ _ o1 (by omega) (by omega) (by omega) fun ws2 t2 w5 w6 w7 w11 o2 l2 c2 c2' => ?_
  walk_at "lf"
  refine turn (n := n + 2) (ns := ns.map .int) hs ha ml (by omega) (k := 2) (d := 2) (by decide) (fun K c => l2_2) _ t2 _ _ _ _ o2 (by omega) (by omega) (by omega) fun ws3 t3 w5 w6 w7 w11 o3 l3 c3 c3' => ?_
  walk_at "lf"
  refine fin_loop (n := n + 2) (by omega) ws3 _ _ _ o3 fun w8 w9 w10 => ?_
  walk_at "lf"
end Lf.K04
end
section
namespace Lf.K04
open PySem Lf
theorem chk : ∀ (i : Nat) (d : Df), ds[i]? = some d → ∃ f, U.fns[i]? = some f ∧ dfB tb f d = true
  | 0, _, h => by cases h; exact ⟨f0, rfl, k0⟩
  | 1, _, h => by cases h; exact ⟨f1, rfl, k1⟩
  | 2, _, h => by cases h; exact ⟨f2, rfl, k2⟩
  | 3, _, h => by cases h; exact ⟨f3, rfl, k3⟩
  | 4, _, h => by cases h; exact ⟨f4, rfl, k4⟩
  | 5, _, h => by cases h; exact ⟨f5, rfl, k5⟩
  | 6, _, h => by cases h; exact ⟨f6, rfl, k6⟩
  | 7, _, h => by cases h; exact ⟨f7, rfl, k7⟩
  | 8, _, h => by cases h; exact ⟨f8, rfl, k8⟩
  | 9, _, h => by cases h; exact ⟨f9, rfl, k9⟩
  | 10, _, h => by cases h; exact ⟨f10, rfl, k10⟩
  | i + 11, _, h => by simp [ds] at h
theorem bds : Each Lf.Bd ds := (.cons a0 (.cons a1 (.cons a2 (.cons a3 (.cons a4 (.cons a5 (.cons a6 (.cons a7 (.cons a8 (.cons a9 (.cons a10 .nil)))))))))))
end Lf.K04
open PySem PySem.W PyProof.Rows
set_option maxRecDepth 100000 in
set_option maxHeartbeats 0 in
theorem PySem.Challenge.cw_leastfaults_k04_trees_by_kind_holds : PySem.Challenge.rw_leastfaults_k04_trees_by_kind.Holds := by
  w_on; o_law; k_head; (case hw => w_witness2)
  k_fill
  refine Lf.walkL (l := PySem.Challenge.rw_leastfaults_k04_trees_by_kind) (x := "_law_script") (U := Lf.K04.U) (k := 101) (i := 10) rfl rfl ?room (fun w h Y => PySem.W.kIn_of Y) ?F ?law
  case room => exact ⟨rfl, by decide, by decide⟩
  case law => exact fun ns hl => Lf.K04.law_ok (n := 100) (by omega) hl
  case F =>
    intro w mg fa h KX G hmg
    refine Lf.law_mk (tb := Lf.K04.tb) (ds := Lf.K04.ds) (cs := Lf.K04.cs) (d := Lf.K04.d10) KX G rfl rfl rfl Lf.K04.chk Lf.K04.bds ?fc ?cc ?bl rfl hmg rfl
    case fc =>
      refine' (.cons (Lf.fct_mk ?a0 ?l0 ?c0 ?k0) (.cons (Lf.fct_mk ?a1 ?l1 ?c1 ?k1) (.cons (Lf.fct_mk ?a2 ?l2 ?c2 ?k2) (.cons (Lf.fct_mk ?a3 ?l3 ?c3 ?k3) (.cons (Lf.fct_mk ?a4 ?l4 ?c4 ?k4) (.cons (Lf.fct_mk ?a5 ?l5 ?c5 ?k5) (.cons (Lf.fct_mk ?a6 ?l6 ?c6 ?k6) (.cons (Lf.fct_mk ?a7 ?l7 ?c7 ?k7) (.cons (Lf.fct_mk ?a8 ?l8 ?c8 ?k8) (.cons (Lf.fct_mk ?a9 ?l9 ?c9 ?k9) (.cons (Lf.fct_mk ?a10 ?l10 ?c10 ?k10) .nil)))))))))))
      (case a0 => k_is); (case l0 => k_is); (case c0 => k_is); (case k0 => k_is); (case a1 => k_is); (case l1 => k_is); (case c1 => k_is); (case k1 => k_is); (case a2 => k_is); (case l2 => k_is); (case c2 => k_is); (case k2 => k_is); (case a3 => k_is); (case l3 => k_is); (case c3 => k_is); (case k3 => k_is); (case a4 => k_is); (case l4 => k_is); (case c4 => k_is); (case k4 => k_is); (case a5 => k_is); (case l5 => k_is); (case c5 => k_is); (case k5 => k_is); (case a6 => k_is); (case l6 => k_is); (case c6 => k_is); (case k6 => k_is); (case a7 => k_is); (case l7 => k_is); (case c7 => k_is); (case k7 => k_is); (case a8 => k_is); (case l8 => k_is); (case c8 => k_is); (case k8 => k_is); (case a9 => k_is); (case l9 => k_is); (case c9 => k_is); (case k9 => k_is); (case a10 => k_is); (case l10 => k_is); (case c10 => k_is); (case k10 => k_is)
    case cc =>
      exact .nil
    case bl =>
      refine' (.cons ?b0 (.cons ?b1 (.cons ?b2 (.cons ?b3 (.cons ?b4 (.cons ?b5 (.cons ?b6 (.cons ?b7 (.cons ?b8 .nil)))))))))
      (case b0 => k_is); (case b1 => k_is); (case b2 => k_is); (case b3 => k_is); (case b4 => k_is); (case b5 => k_is); (case b6 => k_is); (case b7 => k_is); (case b8 => k_is)
end

import PyProof.Rows.All
import Wide.All
import OpenK.AllK
import Wide.FinOn
import HandS.ForMost
import HandS.ForExc
import HandS.Wide
import HandS.TupAny
import HandS.TupLe
import HandS.Deep
import HandS.Style
import HandS.IsInst
import HandS.RaiseMore
import HandS.Flow
import HandS.Steps
import HandS.Defaults
import HandS.Head0
import HandS.Head1
import HandS.Head2
import HandS.HeadEnd
import HandS.HeadHook1
import HandS.HeadHook2
import HandS.Ends
import PySem.Challenge.RW_heldlive_k01_numbers
set_option Elab.async false
set_option linter.all false
set_option maxRecDepth 100000
set_option maxHeartbeats 0
/-! A small deterministic reading of the part of Python that the texts use: data by value, changing objects in a store. -/
namespace Dt
open PySem

abbrev LN : Nat := 16777216
theorem LN_eq : sizeLine = LN := PySem.sizeLine_eq

/-- values: data, or the place of a changing object in the store; rol: a list that is read alone -/
inductive D where
  | non | bl (b : Bool) | int (i : Int) | str (x : Str) | tup (xs : List D) | ref (l : Nat) | rol (xs : List D)
  deriving Inhabited

/-- what stands in the store -/
inductive OB where
  | lst (xs : List D)
  | dic (t : Bool) (kvs : List (List L2.Key × D))
  | ins (C : Nat) (fs : List (Nat × D))
  deriving Inhabited

abbrev ST := List OB
abbrev EV := List (Option D)

inductive R (α : Type) where
  | ok (a : α) (s : ST) | exc (c : Nat) (fs : List (Nat × D)) (s : ST) | bad
abbrev M (α : Type) := ST → R α
def R.bind {α β : Type} (r : R α) (f : α → ST → R β) : R β := match r with
  | .ok a s => f a s
  | .exc c fs s => .exc c fs s
  | .bad => .bad
@[simp] theorem bind_ok {α β : Type} (a : α) (s : ST) (f : α → ST → R β) : (R.ok a s).bind f = f a s := rfl
@[simp] theorem bind_exc {α β : Type} (c : Nat) (fs : List (Nat × D)) (s : ST) (f : α → ST → R β) : (R.exc c fs s).bind f = .exc c fs s := rfl
@[simp] theorem bind_bad {α β : Type} (f : α → ST → R β) : (R.bad).bind f = .bad := rfl
def lift {α : Type} (o : Option α) : M α := fun s => match o with
  | some a => .ok a s
  | none => .bad
@[simp] theorem lift_some {α : Type} (a : α) (s : ST) : lift (some a) s = .ok a s := rfl
@[simp] theorem lift_none {α : Type} (s : ST) : lift (none : Option α) s = .bad := rfl

/-! ### the syntax -/
inductive BT where | none | bool | int | str | tuple | list | dict
  deriving DecidableEq
/-- operators by two values -/
inductive Bop where | add | sub | mul | fdiv | mod | pow | band | shr
  deriving DecidableEq
inductive Cop where | eq | ne | lt | le | gt | ge | isN | notN | isB | notB | isin | notin
  deriving DecidableEq
/-- built-in functions -/
inductive Bf where | len | int | max | min | tuple | list | all | any | sum | abs | str | repr | sorted
  deriving DecidableEq
/-- methods of built-in types -/
inductive Bm where | append | pop | extend | index | get | split | join | count
  deriving DecidableEq

mutual
inductive E where
  | var (i : Nat) | con (d : D)
  | bop (o : Bop) (a b : E) | neg (a : E)
  | cmp (o : Cop) (a b : E) | chain (o p : Cop) (a b c : E)
  | and (a b : E) | or (a b : E) | not (a : E) | ife (c a b : E)
  | tup (es : List E) | lst (es : List E) | dic0 (t : Bool)
  | idx (a b : E) | slc (a : E) (lo hi : Option E)
  | call (f : Nat) (es : List E) | new (C : Nat) (es : List E)
  | fld (o : E) (f : Nat) | meth (o : E) (m : Nat) (es : List E)
  | bf (b : Bf) (es : List E) | bm (m : Bm) (o : E) (es : List E)
  | isi (e : E) (ts : List BT) (cs : List Nat)
  | lc (own : List Nat) (t : Tg) (it : It) (c : Option E) (e : E)
  | dc (own : List Nat) (t : Tg) (it : It) (c : Option E) (k v : E)
inductive It where
  | seq (e : E) | rng (a : Option E) (b : E) (c : Option Int) | enum (e : E) | zip (a b : E)
inductive Tg where
  | name (i : Nat) | tup (ts : List Tg) | sub (o i : E) | fld (o : E) (f : Nat)
end
inductive Sm where
  | asg (t : Tg) (e : E) | aug (i : Nat) (o : Bop) (e : E) | augF (o : E) (f : Nat) (p : Bop) (e : E) | augI (o i : E) (p : Bop) (e : E)
  | ex (e : E) | ret (e : E) | retN
  | ifs (c : E) (a b : List Sm) | whl (c : E) (b : List Sm) | fr (t : Tg) (it : It) (b : List Sm)
  | brk | cnt | pss
  | rse (C : Nat) (es : List E)
  | tr (b : List Sm) (hs : List (List Nat × Option Nat × List Sm))

/-! ### the program -/
structure Df where
  np : Nat
  ns : Nat
  body : List Sm
structure Cl where
  init : Option Nat
  meths : List (Nat × Nat)
  /-- an exception's class: the fields that its __init__ stores, by parameter -/
  exc : Option (List (Nat × Nat) × Nat)
  /-- the fields -/
  flds : List Nat
structure Pg where
  defs : List Df
  cls : List Cl
/-! ### values and the store -/
def getE (env : EV) (i : Nat) : Option D := match env[i]? with
  | some (some d) => some d
  | _ => none
def getA : List (Nat × D) → Nat → Option D
  | [], _ => none
  | (k, v) :: r, j => if j = k then some v else getA r j
def putA : List (Nat × D) → Nat → D → List (Nat × D)
  | [], j, d => [(j, d)]
  | (k, v) :: r, j, d => if j = k then (k, d) :: r else (k, v) :: putA r j d
def alloc (o : OB) : M D := fun s => .ok (.ref s.length) (s ++ [o])

/-- a list's, a tuple's items -/
def itemsOf (s : ST) : D → Option (List D)
  | .tup xs => some xs
  | .rol xs => some xs
  | .ref l => match s[l]? with
    | some (.lst xs) => some xs
    | _ => none
  | _ => none
/-- the data that a value is -/
def toP (s : ST) : Nat → D → Option PyData
  | 0, _ => none
  | _ + 1, .non => some .none
  | _ + 1, .bl b => some (.bool b)
  | _ + 1, .int i => some (.int i)
  | _ + 1, .str x => if PyData.strOk x = true then some (.str x) else none
  | n + 1, .tup xs => (xs.mapM (toP s n)).map .tuple
  | n + 1, .rol xs => (xs.mapM (toP s n)).map .list
  | n + 1, .ref l => match s[l]? with
    | some (.lst xs) => (xs.mapM (toP s n)).map .list
    | _ => none
def eqD (s : ST) (x y : D) : Option Bool := match x, y with
  | .int i, .int j => some (decide (i = j))
  | .str a, .str b => some (decide (a = b))
  | .non, .non => some true
  | x, y => match toP s 60 x, toP s 60 y with
    | some p, some q => some (PyData.eqv p q)
    | _, _ => none
def truth (s : ST) : D → Option Bool
  | .non => some false
  | .bl b => some b
  | .int i => some (i != 0)
  | .str x => if x.length ≤ LN then some ((x.length : Int) != 0) else none
  | .tup xs => some (!xs.isEmpty)
  | .rol xs => some (!xs.isEmpty)
  | .ref l => match s[l]? with
    | some (.lst xs) => some (!xs.isEmpty)
    | _ => none
def typB (s : ST) : D → Option (BT ⊕ Nat)
  | .non => some (.inl .none)
  | .bl _ => some (.inl .bool)
  | .int _ => some (.inl .int)
  | .str _ => some (.inl .str)
  | .tup _ => some (.inl .tuple)
  | .rol _ => some (.inl .list)
  | .ref l => match s[l]? with
    | some (.lst _) => some (.inl .list)
    | some (.dic _ _) => some (.inl .dict)
    | some (.ins C _) => some (.inr C)
    | none => none
def subT (a b : BT) : Bool := a == b || (a == .bool && b == .int)

def isLt64 (i : Int) : Bool := decide (-(2 ^ 64) < i) && decide (i < 2 ^ 64)
def bits (i : Int) : Nat := i.natAbs.log2

/-- a op b -/
def bopV (o : Bop) (x y : D) : M D := fun s => match o, x, y with
  | .add, .int i, .int j => .ok (.int (i + j)) s
  | .sub, .int i, .int j => .ok (.int (i - j)) s
  | .mul, .int i, .int j => if (isLt64 i || isLt64 j) = true then .ok (.int (i * j)) s else .bad
  | .fdiv, .int i, .int j => if 0 < j ∧ j < 1073741824 then .ok (.int (i / j)) s else .bad
  | .mod, .int i, .int j => if 0 < j then .ok (.int (i % j)) s else .bad
  | .pow, .int i, .int j => if 0 ≤ j ∧ j ≤ 1000000 ∧ i.natAbs < 2 ^ 64 then .ok (.int (i ^ j.toNat)) s else .bad
  | .band, .int i, .int j => .ok (.int (Builtin.bitAnd i j)) s
  | .shr, .int i, .int j => if 0 ≤ j then .ok (.int (i / 2 ^ j.toNat)) s else .bad
  | .add, .str a, .str b => if a.length + b.length ≤ LN then .ok (.str (a ++ b)) s else .bad
  | .add, .tup a, .tup b => if a.length + b.length ≤ LN then .ok (.tup (a ++ b)) s else .bad
  | .add, .ref a, .ref b => match s[a]?, s[b]? with
    | some (.lst xs), some (.lst ys) => if xs.length + ys.length ≤ LN then alloc (.lst (xs ++ ys)) s else .bad
    | _, _ => .bad
  | .mul, .ref a, .int k => match s[a]? with
    | some (.lst xs) => if -(2 ^ 63) ≤ k ∧ k < 2 ^ 63 ∧ xs.length * k.toNat ≤ LN then alloc (.lst (List.replicate k.toNat xs).flatten) s else .bad
    | _ => .bad
  | _, _, _ => .bad
def inD (s : ST) (x : D) : D → Option Bool
  | .str z => match x with
    | .str a => match a.cps.toList with
      | [c] => some (decide (c ∈ z.cps.toList))
      | _ => none
    | _ => none
  | y => match itemsOf s y with
    | some ys => match toP s 60 x, ys.mapM (toP s 59) with
      | some p, some qs => some (qs.any fun q => PyData.eqv q p)
      | _, _ => none
    | none => none
def cmpV (o : Cop) (x y : D) : M D := fun s => match o with
  | .eq => match eqD s x y with
    | some b => .ok (.bl b) s
    | none => .bad
  | .ne => match eqD s x y with
    | some b => .ok (.bl (!b)) s
    | none => .bad
  | .lt => match x, y with
    | .int i, .int j => .ok (.bl (decide (i < j))) s
    | _, _ => .bad
  | .le => match x, y with
    | .int i, .int j => .ok (.bl (decide (i ≤ j))) s
    | _, _ => .bad
  | .gt => match x, y with
    | .int i, .int j => .ok (.bl (decide (j < i))) s
    | _, _ => .bad
  | .ge => match x, y with
    | .int i, .int j => .ok (.bl (decide (j ≤ i))) s
    | _, _ => .bad
  | .isN => match x, y with
    | .non, .non => .ok (.bl true) s
    | _, .non => .ok (.bl false) s
    | _, _ => .bad
  | .notN => match x, y with
    | .non, .non => .ok (.bl false) s
    | _, .non => .ok (.bl true) s
    | _, _ => .bad
  | .isB => match x, y with
    | .bl a, .bl b => .ok (.bl (decide (a = b))) s
    | _, _ => .bad
  | .notB => match x, y with
    | .bl a, .bl b => .ok (.bl (!decide (a = b))) s
    | _, _ => .bad
  | .isin => match inD s x y with
    | some b => .ok (.bl b) s
    | none => .bad
  | .notin => match inD s x y with
    | some b => .ok (.bl (!b)) s
    | none => .bad

/-! ### subscripts -/
def idxV (x y : D) : M D := fun s => match x, y with
  | .str z, .int i => match L2.atI z.cps.toList i with
    | some c => if z.length ≤ LN then .ok (.str ⟨#[c]⟩) s else .bad
    | none => .bad
  | x, .int i => match itemsOf s x with
    | some xs => lift (L2.atI xs i) s
    | none => .bad
  | _, _ => .bad
def cutD (xs : List D) (lo hi : Option Int) : List D := (xs.drop (HT.sIx xs.length 0 lo)).take (HT.sIx xs.length xs.length hi - HT.sIx xs.length 0 lo)
def slcV (x : D) (lo hi : Option Int) : M D := fun s => match x with
  | .str z => if z.length ≤ LN then .ok (.str (L2.cutS z lo hi)) s else .bad
  | .tup xs => .ok (.tup (cutD xs lo hi)) s
  | .rol xs => alloc (.lst (cutD xs lo hi)) s
  | .ref l => match s[l]? with
    | some (.lst xs) => alloc (.lst (cutD xs lo hi)) s
    | _ => .bad
  | _ => .bad
/-- x[i] = v -/
def setV (x y v : D) : M Unit := fun s => match x, y with
  | .ref l, .int i => match s[l]? with
    | some (.lst xs) => match L2.ixN xs.length i with
      | some j => .ok () (s.set l (.lst (xs.set j v)))
      | none => .bad
    | _ => .bad
  | _, _ => .bad
def fldV (x : D) (f : Nat) : M D := fun s => match x with
  | .ref l => match s[l]? with
    | some (.ins _ fs) => lift (getA fs f) s
    | _ => .bad
  | _ => .bad
def setF (p : Pg) (x : D) (f : Nat) (v : D) : M Unit := fun s => match x with
  | .ref l => match s[l]? with
    | some (.ins C fs) => match p.cls[C]? with
      | some c => if (c.flds.contains f && decide (fs.length < 900)) = true then .ok () (s.set l (.ins C (putA fs f v))) else .bad
      | none => .bad
    | _ => .bad
  | _ => .bad

/-! ### built-in functions and methods -/
def isLst (s : ST) (l : Nat) : Bool := match s[l]? with
  | some (.lst _) => true
  | _ => false
def intsOf : List D → Option (List Int)
  | [] => some []
  | .int i :: r => (intsOf r).map (i :: ·)
  | _ => none
def boolsOf : List D → Option (List Bool)
  | [] => some []
  | .bl i :: r => (boolsOf r).map (i :: ·)
  | _ => none
def strsOf : List D → Option (List Str)
  | [] => some []
  | .str i :: r => (strsOf r).map (i :: ·)
  | _ => none
def bfV (b : Bf) (as : List D) : M D := fun s => match b, as with
  | .len, [.str z] => if z.length ≤ LN then .ok (.int z.length) s else .bad
  | .len, [x] => match itemsOf s x with
    | some xs => .ok (.int xs.length) s
    | none => .bad
  | .int, [.int i] => .ok (.int i) s
  | .int, [.bl i] => .ok (.int (if i then 1 else 0)) s
  | .int, [.str z] => match PySem.intText? z with
    | some n => if z.length ≤ 640 then .ok (.int n) s else .bad
    | none => .bad
  | .max, [.int i, .int j] => .ok (.int (if j > i then j else i)) s
  | .min, [.int i, .int j] => .ok (.int (if j < i then j else i)) s
  | .tuple, [.tup xs] => .ok (.tup xs) s
  | .tuple, [.ref l] => match s[l]? with
    | some (.lst xs) => .ok (.tup xs) s
    | _ => .bad
  | .list, [x] => match itemsOf s x with
    | some xs => alloc (.lst xs) s
    | none => .bad
  | .all, [.ref l] => match s[l]? with
    | some (.lst xs) => match boolsOf xs with
      | some bs => .ok (.bl (bs.all id)) s
      | none => .bad
    | _ => .bad
  | .any, [.ref l] => match s[l]? with
    | some (.lst xs) => match boolsOf xs with
      | some bs => .ok (.bl (bs.any id)) s
      | none => .bad
    | _ => .bad
  | .sum, [.ref l] => match s[l]? with
    | some (.lst xs) => match intsOf xs with
      | some bs => .ok (.int bs.sum) s
      | none => .bad
    | _ => .bad
  | .abs, [.int i] => .ok (.int (if i < 0 then -i else i)) s
  | .str, [.int i] => if i.natAbs.log2 < 1920 then .ok (.str (toString i)) s else .bad
  | .str, [.str z] => .ok (.str z) s
  | .repr, [.int i] => if i.natAbs.log2 < 1920 then .ok (.str (toString i)) s else .bad
  | .repr, [.bl b] => .ok (.str (if b then "True" else "False")) s
  | _, _ => .bad
/-- the receiver is of the method's type -/
def bmT (m : Bm) (s : ST) (x : D) : Bool := match m, x with
  | .split, .str _ => true
  | .join, .str _ => true
  | .count, .str _ => true
  | .append, .ref l => isLst s l
  | .pop, .ref l => isLst s l
  | .extend, .ref l => isLst s l
  | _, _ => false
def bmV (m : Bm) (x : D) (as : List D) : M D := fun s => match m, x, as with
  | .append, .ref l, [v] => match s[l]? with
    | some (.lst xs) => if xs.length < LN then .ok .non (s.set l (.lst (xs ++ [v]))) else .bad
    | _ => .bad
  | .pop, .ref l, [] => match s[l]? with
    | some (.lst xs) => match xs[xs.length - 1]? with
      | some v => .ok v (s.set l (.lst xs.dropLast))
      | none => .bad
    | _ => .bad
  | .extend, .ref l, [.ref k] => match s[l]?, s[k]? with
    | some (.lst xs), some (.lst ys) => if xs.length + ys.length ≤ LN then .ok .non (s.set l (.lst (xs ++ ys))) else .bad
    | _, _ => .bad
  | .split, .str a, [.str b] => if b.length ≠ 0 ∧ a.length + 2 ≤ LN then alloc (.lst ((Txt.split a b).map .str)) s else .bad
  | .count, .str a, [.str b] => .ok (.int (Txt.count a b)) s
  | .join, .str a, [x] => match itemsOf s x with
    | some xs => match strsOf xs with
      | some ys => if (ys.map (·.length)).sum + ys.length * a.length ≤ 16777216 then .ok (.str (Txt.join a ys)) s else .bad
      | none => .bad
    | none => .bad
  | _, _, _ => .bad

/-! ### what a loop walks -/
inductive Src where
  | fix (xs : List D) | list (l : Nat) | enum (l : Nat) | zip (a b : Nat)
def Src.at_ (g : Src) (i : Nat) (s : ST) : Option D := match g with
  | .fix xs => xs[i]?
  | .list l => (itemsOf s (.ref l)).bind fun xs => xs[i]?
  | .enum l => (itemsOf s (.ref l)).bind fun xs => xs[i]?.map fun x => .tup [.int i, x]
  | .zip a b => (itemsOf s (.ref a)).bind fun xs => (itemsOf s (.ref b)).bind fun ys => xs[i]?.bind fun x => ys[i]?.map fun y => .tup [x, y]
def Src.size (g : Src) (s : ST) : Option Nat := match g with
  | .fix xs => some xs.length
  | .list l => (itemsOf s (.ref l)).map (·.length)
  | .enum l => (itemsOf s (.ref l)).map (·.length)
  | .zip a b => (itemsOf s (.ref a)).bind fun xs => (itemsOf s (.ref b)).map fun ys => min xs.length ys.length
def rgOk (i : Int) : Bool := decide (-(2 ^ 62) ≤ i) && decide (i < 2 ^ 62)
/-- range(a, b) -/
def rangeU (a b : Int) : List D := (List.range (b - a).toNat).map fun (k : Nat) => D.int (a + (k : Nat))
/-- range(a, b, -1) -/
def rangeN (a b : Int) : List D := (List.range (a - b).toNat).map fun (k : Nat) => D.int (a + (k : Nat) * -1)

inductive Rs where
  | nx (v : EV) (s : ST) | rt (d : D) (s : ST) | bk (v : EV) (s : ST) | ct (v : EV) (s : ST) | xc (c : Nat) (fs : List (Nat × D)) (v : EV) (s : ST) | bad
def Rs.seq (r : Rs) (f : EV → ST → Rs) : Rs := match r with
  | .nx v s => f v s
  | r => r
@[simp] theorem seq_nx (v : EV) (s : ST) (f : EV → ST → Rs) : (Rs.nx v s).seq f = f v s := rfl
@[simp] theorem seq_rt (d : D) (s : ST) (f : EV → ST → Rs) : (Rs.rt d s).seq f = .rt d s := rfl
@[simp] theorem seq_bk (v : EV) (s : ST) (f : EV → ST → Rs) : (Rs.bk v s).seq f = .bk v s := rfl
@[simp] theorem seq_ct (v : EV) (s : ST) (f : EV → ST → Rs) : (Rs.ct v s).seq f = .ct v s := rfl
@[simp] theorem seq_xc (c : Nat) (fs : List (Nat × D)) (v : EV) (s : ST) (f : EV → ST → Rs) : (Rs.xc c fs v s).seq f = .xc c fs v s := rfl
@[simp] theorem seq_bad (f : EV → ST → Rs) : (Rs.bad).seq f = .bad := rfl
/-- an expression's end, for a statement -/
def R.st {α : Type} (r : R α) (v : EV) (f : α → ST → Rs) : Rs := match r with
  | .ok a s => f a s
  | .exc c fs s => .xc c fs v s
  | .bad => .bad
@[simp] theorem st_ok {α : Type} (a : α) (s : ST) (v : EV) (f : α → ST → Rs) : (R.ok a s).st v f = f a s := rfl
@[simp] theorem st_exc {α : Type} (c : Nat) (fs : List (Nat × D)) (s : ST) (v : EV) (f : α → ST → Rs) : (R.exc c fs s).st v f = .xc c fs v s := rfl
@[simp] theorem st_bad {α : Type} (v : EV) (f : α → ST → Rs) : (R.bad : R α).st v f = .bad := rfl

/-- the rest of a for: r turns are left, i have been -/
def forR (g : Src) (turn : D → EV → ST → Rs) : Nat → Nat → EV → ST → Rs
  | 0, i, v, s => if g.size s = some i then .nx v s else .bad
  | r + 1, i, v, s => match g.at_ i s with
    | none => .bad
    | some x => match turn x v s with
      | .nx v' s' => forR g turn r (i + 1) v' s'
      | .ct v' s' => forR g turn r (i + 1) v' s'
      | .bk v' s' => .nx v' s'
      | q => q
/-- the rest of a while, at most n turns -/
def whlR (c : EV → ST → R Bool) (b : EV → ST → Rs) : Nat → EV → ST → Rs
  | 0, _, _ => .bad
  | n + 1, v, s => (c v s).st v fun k s => if k = true then match b v s with
      | .nx v' s' => whlR c b n v' s'
      | .ct v' s' => whlR c b n v' s'
      | .bk v' s' => .nx v' s'
      | q => q
    else .nx v s
/-- the rest of a comprehension: acc so far -/
def lcR (g : Src) (turn : D → ST → R (Option D)) : Nat → Nat → List D → M (List D)
  | 0, i, acc, s => if g.size s = some i then .ok acc s else .bad
  | r + 1, i, acc, s => match g.at_ i s with
    | none => .bad
    | some x => match turn x s with
      | .ok (some y) s' => if acc.length < LN then lcR g turn r (i + 1) (acc ++ [y]) s' else .bad
      | .ok none s' => lcR g turn r (i + 1) acc s'
      | _ => .bad
def wipeE (v : EV) : List Nat → EV
  | [] => v
  | i :: r => (wipeE v r).set i none

abbrev CF := Nat → List D → M D

section
variable (p : Pg) (w : Nat) (cf : CF)
mutual
def evE : E → EV → ST → R D
  | .var i, v, s => lift (getE v i) s
  | .con d, _, s => .ok d s
  | .bop o a b, v, s => (evE a v s).bind fun x s => (evE b v s).bind fun y s => bopV o x y s
  | .neg a, v, s => (evE a v s).bind fun x s => match x with
    | .int i => .ok (.int (-i)) s
    | _ => .bad
  | .cmp o a b, v, s => (evE a v s).bind fun x s => (evE b v s).bind fun y s => cmpV o x y s
  | .chain o q a b c, v, s => (evE a v s).bind fun x s => (evE b v s).bind fun y s => (cmpV o x y s).bind fun k s => match k with
    | .bl true => (evE c v s).bind fun z s => cmpV q y z s
    | .bl false => .ok (.bl false) s
    | _ => .bad
  | .and a b, v, s => (evE a v s).bind fun x s => (lift (truth s x) s).bind fun k s => if k = true then evE b v s else .ok x s
  | .or a b, v, s => (evE a v s).bind fun x s => (lift (truth s x) s).bind fun k s => if k = true then .ok x s else evE b v s
  | .not a, v, s => (evE a v s).bind fun x s => (lift (truth s x) s).bind fun k s => .ok (.bl (!k)) s
  | .ife c a b, v, s => (evE c v s).bind fun x s => (lift (truth s x) s).bind fun k s => if k = true then evE a v s else evE b v s
  | .tup es, v, s => (evL es v s).bind fun xs s => if xs.length ≤ LN then .ok (.tup xs) s else .bad
  | .lst es, v, s => (evL es v s).bind fun xs s => if xs.length ≤ LN then alloc (.lst xs) s else .bad
  | .dic0 t, _, s => alloc (.dic t []) s
  | .idx a b, v, s => (evE a v s).bind fun x s => (evE b v s).bind fun y s => idxV x y s
  | .slc a lo hi, v, s => (evE a v s).bind fun x s => (evO lo v s).bind fun i s => (evO hi v s).bind fun j s => slcV x i j s
  | .call f es, v, s => (evL es v s).bind fun xs s => cf f xs s
  | .new C es, v, s => (evL es v s).bind fun xs s => match p.cls[C]? with
    | some ⟨some f, _, none, _⟩ => (alloc (.ins C []) s).bind fun r s => (cf f (r :: xs) s).bind fun u s => match u with
      | .non => .ok r s
      | _ => .bad
    | _ => .bad
  | .fld o f, v, s => (evE o v s).bind fun x s => fldV x f s
  | .meth o m es, v, s => (evE o v s).bind fun x s => match x with
    | .ref l => match s[l]? with
      | some (.ins C fs) => match p.cls[C]? with
        | some c => match c.meths.lookup m with
          | some f => (evL es v s).bind fun xs s => cf f (x :: xs) s
          | none => .bad
        | none => .bad
      | _ => .bad
    | _ => .bad
  | .bf b es, v, s => (evL es v s).bind fun xs s => bfV b xs s
  | .bm m o es, v, s => (evE o v s).bind fun x s => if bmT m s x = true then (evL es v s).bind fun xs s => bmV m x xs s else .bad
  | .isi e ts cs, v, s => (evE e v s).bind fun x s => match typB s x with
    | some (.inl t) => .ok (.bl (ts.any (subT t))) s
    | _ => .bad
  | .lc own t it c e, v, s => (evI it v s).bind fun g s => match g.size s with
    | some n => (lcR g (fun x s => (evG t x (wipeE v own) s).bind fun v s => match c with
        | some c => (evE c v s).bind fun x s => (lift (truth s x) s).bind fun k s => if k = true then (evE e v s).bind fun y s => .ok (some y) s else .ok none s
        | none => (evE e v s).bind fun y s => .ok (some y) s) n 0 [] s).bind fun ys s => alloc (.lst ys) s
    | none => .bad
  | .dc _ _ _ _ _ _, _, _ => .bad
def evL : List E → EV → ST → R (List D)
  | [], _, s => .ok [] s
  | e :: es, v, s => (evE e v s).bind fun x s => (evL es v s).bind fun xs s => .ok (x :: xs) s
def evO : Option E → EV → ST → R (Option Int)
  | none, _, s => .ok none s
  | some e, v, s => (evE e v s).bind fun x s => match x with
    | .int i => .ok (some i) s
    | _ => .bad
def evI : It → EV → ST → R Src
  | .seq e, v, s => (evE e v s).bind fun x s => match x with
    | .tup xs => .ok (.fix xs) s
    | .rol xs => .ok (.fix xs) s
    | .ref l => if isLst s l = true then .ok (.list l) s else .bad
    | .str z => .ok (.fix (z.cps.toList.map fun c => .str ⟨#[c]⟩)) s
    | _ => .bad
  | .rng none b none, v, s => (evE b v s).bind fun y s => match y with
    | .int j => if rgOk j = true then .ok (.fix (rangeU 0 j)) s else .bad
    | _ => .bad
  | .rng (some a) b none, v, s => (evE a v s).bind fun x s => (evE b v s).bind fun y s => match x, y with
    | .int i, .int j => if (rgOk i && rgOk j) = true then .ok (.fix (rangeU i j)) s else .bad
    | _, _ => .bad
  | .rng (some a) b (some _), v, s => (evE a v s).bind fun x s => (evE b v s).bind fun y s => match x, y with
    | .int i, .int j => if (rgOk i && rgOk j) = true then .ok (.fix (rangeN i j)) s else .bad
    | _, _ => .bad
  | .rng none _ (some _), _, _ => .bad
  | .enum e, v, s => (evE e v s).bind fun x s => match x with
    | .ref l => if isLst s l = true then .ok (.enum l) s else .bad
    | _ => .bad
  | .zip a b, v, s => (evE a v s).bind fun x s => (evE b v s).bind fun y s => match x, y with
    | .ref l, .ref k => if (isLst s l && isLst s k) = true then .ok (.zip l k) s else .bad
    | _, _ => .bad
/-- a target takes a value -/
def evG : Tg → D → EV → ST → R EV
  | .name i, x, v, s => if i < v.length then .ok (v.set i (some x)) s else .bad
  | .tup ts, x, v, s => match x with
    | .tup xs => if xs.length = ts.length then evGs ts xs v s else .bad
    | _ => .bad
  | .sub o i, x, v, s => (evE o v s).bind fun y s => (evE i v s).bind fun z s => (setV y z x s).bind fun _ s => .ok v s
  | .fld o f, x, v, s => (evE o v s).bind fun y s => (setF p y f x s).bind fun _ s => .ok v s
def evGs : List Tg → List D → EV → ST → R EV
  | t :: ts, x :: xs, v, s => (evG t x v s).bind fun v s => evGs ts xs v s
  | [], [], v, s => .ok v s
  | _, _, _, _ => .bad
end
/-- a test -/
def evT (c : E) (v : EV) (s : ST) : R Bool := (evE p cf c v s).bind fun x s => lift (truth s x) s
end
end Dt
namespace Dt
open PySem
section
variable (p : Pg) (w : Nat) (cf : CF)
/-- the fields of an exception that is made -/
def excV (C : Nat) (xs : List D) : Option (List (Nat × D)) := match p.cls[C]? with
  | some ⟨_, _, some (fs, n), _⟩ => if xs.length = n then fs.mapM fun q => xs[q.2]?.map fun x => (q.1, x) else none
  | _ => none
/-- x op= y -/
def augV (o : Bop) (x y : D) : M D := fun s => match o, x, y with
  | .add, .int i, .int j => .ok (.int (i + j)) s
  | .sub, .int i, .int j => .ok (.int (i - j)) s
  | .add, .str a, .str b => if a.length + b.length ≤ LN then .ok (.str (a ++ b)) s else .bad
  | _, _, _ => .bad
def clsOf (s : ST) (x : D) : Option Nat := match x with
  | .ref l => match s[l]? with
    | some (.ins C _) => some C
    | _ => none
  | _ => none
mutual
def evS : Sm → EV → ST → Rs
  | .asg t e, v, s => (evE p cf e v s).st v fun x s => (evG p cf t x v s).st v fun v s => .nx v s
  | .aug i o e, v, s => match getE v i with
    | some x => (evE p cf e v s).st v fun y s => (augV o x y s).st v fun z s => .nx (v.set i (some z)) s
    | none => .bad
  | .augF o f q e, v, s => (evE p cf o v s).st v fun x s0 => (fldV x f s0).st v fun a s1 => (evE p cf e v s1).st v fun y s => (augV q a y s).st v fun z s => if clsOf s0 x = clsOf s x then (setF p x f z s).st v fun _ s => .nx v s else .bad
  | .augI o i q e, v, s => (evE p cf o v s).st v fun x s => (evE p cf i v s).st v fun j s => (idxV x j s).st v fun a s => (evE p cf e v s).st v fun y s => (augV q a y s).st v fun z s => (setV x j z s).st v fun _ s => .nx v s
  | .ex e, v, s => (evE p cf e v s).st v fun _ s => .nx v s
  | .ret e, v, s => (evE p cf e v s).st v fun x s => .rt x s
  | .retN, _, s => .rt .non s
  | .ifs c a b, v, s => (evT p cf c v s).st v fun k s => if k = true then evB a v s else evB b v s
  | .whl c b, v, s => whlR (evT p cf c) (evB b) w v s
  | .fr t it b, v, s => (evI p cf it v s).st v fun g s => match g.size s with
    | some n => forR g (fun x v s => (evG p cf t x v s).st v fun v s => evB b v s) n 0 v s
    | none => .bad
  | .brk, v, s => .bk v s
  | .cnt, v, s => .ct v s
  | .pss, v, s => .nx v s
  | .rse C es, v, s => (evL p cf es v s).st v fun xs s => match excV p C xs with
    | some fs => .xc C fs v s
    | none => .bad
  | .tr b hs, v, s => match evB b v s with
    | .xc c fs v s => evH hs c fs v s
    | q => q
def evB : List Sm → EV → ST → Rs
  | [], v, s => .nx v s
  | m :: ms, v, s => (evS m v s).seq fun v s => evB ms v s
/-- the except clauses: which classes, the name's slot, the suite -/
def evH : List (List Nat × Option Nat × List Sm) → Nat → List (Nat × D) → EV → ST → Rs
  | [], c, fs, v, s => .xc c fs v s
  | h :: hs, c, fs, v, s => if h.1.contains c = true then evX h.2.1 h.2.2 fs v s else evH hs c fs v s
/-- a suite: no more than a few forms -/
def evX : Option Nat → List Sm → List (Nat × D) → EV → ST → Rs
  | none, [.ret (.con d)], _, _, s => .rt d s
  | none, [.cnt], _, v, s => .ct v s
  | some i, [.ret (.fld (.var j) f)], fs, v, s => if i = j then match getA fs f with
      | some d => .rt d s
      | none => .bad
    else .bad
  | _, _, _, _, _ => .bad
end
end
/-- a def's body -/
def runF (p : Pg) (w : Nat) (cf : CF) (f : Nat) (as : List D) : M D := fun s => match p.defs[f]? with
  | some d => if as.length = d.np then match evB p w cf d.body (as.map some ++ List.replicate (d.ns - d.np) none) s with
      | .nx _ s => .ok .non s
      | .rt x s => .ok x s
      | .xc c fs _ s => .exc c fs s
      | _ => .bad
    else .bad
  | none => .bad
/-- a call, at most k deep -/
def callF (p : Pg) (w : Nat) : Nat → CF
  | 0 => fun _ _ _ => .bad
  | k + 1 => runF p w (callF p w k)
end Dt
namespace Dt
open PySem L2

/-- where the program's classes stand, what its fields are called -/
structure Lk where
  cA : Nat → Addr
  fN : Nat → Str
  cF : Nat → List Nat
  inj : ∀ i j, fN i = fN j → i = j

def StatL (K : PySem.W.Frag) (a : Addr) (xs : List V) : Prop := ∃ (o : Obj) (its : Array Value) (n : Nat), K.lookup a = some o ∧ o.cls = .type "list" ∧ o.dict = none ∧ o.data = .seq its n ∧ its.size ≤ sizeLine ∧ Vals xs its.toList
def StatT (K : PySem.W.Frag) (a : Addr) (xs : List V) : Prop := ∃ (o : Obj) (its : Array Value) (n : Nat), K.lookup a = some o ∧ o.cls = .type "tuple" ∧ o.data = .seq its n ∧ its.size ≤ sizeLine ∧ Vals xs its.toList
def TupAt (K : PySem.W.Frag) (m : List Addr) (H : Hp) (a : Addr) (xs : List V) : Prop := (Rd H a (.tup xs) ∧ a ∉ m) ∨ StatT K a xs
def RolAt (K : PySem.W.Frag) (m : List Addr) (H : Hp) (a : Addr) (xs : List V) : Prop := ((∃ o, H a = some (.frz o (.lst xs))) ∧ a ∉ m) ∨ StatL K a xs
theorem TupAt.sq {K : PySem.W.Frag} {m : List Addr} {H : Hp} {a : Addr} {xs : List V} (h : TupAt K m H a xs) : SqT K H a xs := h.elim (fun z => .inl z.1) .inr
theorem RolAt.sq {K : PySem.W.Frag} {m : List Addr} {H : Hp} {a : Addr} {xs : List V} (h : RolAt K m H a xs) : SqL K H a xs := h.elim (fun z => .inl (.inr z.1)) .inr

mutual
inductive IsD (K : PySem.W.Frag) (m : List Addr) (H : Hp) : V → D → Prop
  | non : IsD K m H .non .non
  | bl (b : Bool) : IsD K m H (.bl b) (.bl b)
  | int (i : Int) : IsD K m H (.int i) (.int i)
  | str (x : Str) : IsD K m H (.str x) (.str x)
  | tup {a : Addr} {vs : List V} {ds : List D} : TupAt K m H a vs → IsDs K m H vs ds → IsD K m H (.ref a) (.tup ds)
  | rol {a : Addr} {vs : List V} {ds : List D} : RolAt K m H a vs → IsDs K m H vs ds → IsD K m H (.ref a) (.rol ds)
  | ref {a : Addr} {l : Nat} : m[l]? = some a → IsD K m H (.ref a) (.ref l)
inductive IsDs (K : PySem.W.Frag) (m : List Addr) (H : Hp) : List V → List D → Prop
  | nil : IsDs K m H [] []
  | cons {v : V} {d : D} {vs : List V} {ds : List D} : IsD K m H v d → IsDs K m H vs ds → IsDs K m H (v :: vs) (d :: ds)
end

/-- from m, H to m', H': new objects, and what is not in m stands -/
structure Ext (m : List Addr) (H : Hp) (m' : List Addr) (H' : Hp) : Prop where
  pre : ∃ t, m' = m ++ t ∧ ∀ a ∈ t, H a = none
  keep : ∀ a ho, H a = some ho → a ∉ m → H' a = some ho
  there : ∀ a, H a ≠ none → H' a ≠ none
theorem Ext.refl (m : List Addr) (H : Hp) : Ext m H m H := ⟨⟨[], by simp, by simp⟩, fun _ _ h _ => h, fun _ h => h⟩
theorem Ext.notin {m m' : List Addr} {H H' : Hp} (e : Ext m H m' H') {a : Addr} {ho : HO} (h : H a = some ho) (n : a ∉ m) : a ∉ m' := by
  obtain ⟨t, rfl, ht⟩ := e.pre
  intro z
  rcases List.mem_append.mp z with z | z
  · exact n z
  · rw [ht a z] at h; cases h
theorem Ext.trans {m m1 m2 : List Addr} {H H1 H2 : Hp} (a : Ext m H m1 H1) (b : Ext m1 H1 m2 H2) : Ext m H m2 H2 := by
  refine ⟨?_, fun x ho h n => b.keep x ho (a.keep x ho h n) (a.notin h n), fun x h => b.there x (a.there x h)⟩
  obtain ⟨t, e1, ht⟩ := a.pre
  obtain ⟨u, rfl, hu⟩ := b.pre
  refine ⟨t ++ u, by rw [e1, List.append_assoc], fun x hx => ?_⟩
  rcases List.mem_append.mp hx with z | z
  · exact ht x z
  · cases q : H x with
    | none => rfl
    | some ho => exact absurd (hu x z) (a.there x (by rw [q]; simp))
theorem Ext.at {m m' : List Addr} {H H' : Hp} (e : Ext m H m' H') {l : Nat} {a : Addr} (h : m[l]? = some a) : m'[l]? = some a := by
  obtain ⟨t, rfl, _⟩ := e.pre
  obtain ⟨hl, rfl⟩ := List.getElem?_eq_some_iff.mp h
  rw [List.getElem?_append_left hl]
  exact h
section
variable {K : PySem.W.Frag} {m m' : List Addr} {H H' : Hp}
theorem Ext.rd (e : Ext m H m' H') {a : Addr} {u : HO} (h : Rd H a u) (n : a ∉ m) : Rd H' a u ∧ a ∉ m' := by
  rcases h with h | ⟨o, h⟩
  · exact ⟨.inl (e.keep a _ h n), e.notin h n⟩
  · exact ⟨.inr ⟨o, e.keep a _ h n⟩, e.notin h n⟩
mutual
theorem IsD.mono (e : Ext m H m' H') : ∀ {v : V} {d : D}, IsD K m H v d → IsD K m' H' v d
  | _, _, .non => .non
  | _, _, .bl b => .bl b
  | _, _, .int i => .int i
  | _, _, .str x => .str x
  | _, _, .tup h r => .tup (h.elim (fun z => .inl (e.rd z.1 z.2)) .inr) (IsDs.mono e r)
  | _, _, .rol h r => .rol (h.elim (fun z => .inl ⟨z.1.elim fun o q => ⟨o, e.keep _ _ q z.2⟩, z.1.elim fun o q => e.notin q z.2⟩) .inr) (IsDs.mono e r)
  | _, _, .ref h => .ref (e.at h)
theorem IsDs.mono (e : Ext m H m' H') : ∀ {v : List V} {d : List D}, IsDs K m H v d → IsDs K m' H' v d
  | _, _, .nil => .nil
  | _, _, .cons h r => .cons (IsD.mono e h) (IsDs.mono e r)
end
theorem IsDs.len {vs : List V} {ds : List D} (h : IsDs K m H vs ds) : vs.length = ds.length := by
  induction ds generalizing vs with
  | nil => cases h; rfl
  | cons d r ih => cases h with
    | cons a b => simp [ih b]
theorem IsDs.get {vs : List V} {ds : List D} (h : IsDs K m H vs ds) {i : Nat} {d : D} (e : ds[i]? = some d) : ∃ v, vs[i]? = some v ∧ IsD K m H v d := by
  induction ds generalizing vs i with
  | nil => simp at e
  | cons x r ih => cases h with
    | cons a b =>
      cases i with
      | zero => simp at e; subst e; exact ⟨_, by simp, a⟩
      | succ i => simpa using ih b (by simpa using e)
theorem IsDs.app {vs us : List V} {ds es : List D} (h : IsDs K m H vs ds) (g : IsDs K m H us es) : IsDs K m H (vs ++ us) (ds ++ es) := by
  induction ds generalizing vs with
  | nil => cases h; exact g
  | cons d r ih => cases h with
    | cons a b => exact .cons a (ih b)
theorem IsDs.set {vs : List V} {ds : List D} (h : IsDs K m H vs ds) {v : V} {d : D} (g : IsD K m H v d) (i : Nat) : IsDs K m H (vs.set i v) (ds.set i d) := by
  induction ds generalizing vs i with
  | nil => cases h; exact .nil
  | cons x r ih => cases h with
    | cons a b =>
      cases i with
      | zero => exact .cons g b
      | succ i => exact .cons a (ih b i)
theorem IsDs.drop {vs : List V} {ds : List D} (h : IsDs K m H vs ds) (i : Nat) : IsDs K m H (vs.drop i) (ds.drop i) := by
  induction ds generalizing vs i with
  | nil => cases h; simp; exact .nil
  | cons x r ih => cases h with
    | cons a b =>
      cases i with
      | zero => exact .cons a b
      | succ i => simpa using ih b i
theorem IsDs.take {vs : List V} {ds : List D} (h : IsDs K m H vs ds) (i : Nat) : IsDs K m H (vs.take i) (ds.take i) := by
  induction ds generalizing vs i with
  | nil => cases h; simp; exact .nil
  | cons x r ih => cases h with
    | cons a b =>
      cases i with
      | zero => simp; exact .nil
      | succ i => simpa using IsDs.cons a (ih b i)
theorem IsDs.dropLast {vs : List V} {ds : List D} (h : IsDs K m H vs ds) : IsDs K m H vs.dropLast ds.dropLast := by
  rw [List.dropLast_eq_take, List.dropLast_eq_take, h.len]
  exact h.take _
theorem IsDs.rep {vs : List V} {ds : List D} (h : IsDs K m H vs ds) : ∀ n, IsDs K m H (List.replicate n vs).flatten (List.replicate n ds).flatten
  | 0 => .nil
  | n + 1 => by
    rw [List.replicate_succ, List.replicate_succ, List.flatten_cons, List.flatten_cons]
    exact h.app (IsDs.rep h n)
end

/-! ### the store -/
inductive FsR (L : Lk) (K : PySem.W.Frag) (m : List Addr) (H : Hp) : List (Str × V) → List (Nat × D) → Prop
  | nil : FsR L K m H [] []
  | cons {x : Str} {v : V} {f : Nat} {d : D} {r : List (Str × V)} {q : List (Nat × D)} : x = L.fN f → IsD K m H v d → FsR L K m H r q → FsR L K m H ((x, v) :: r) ((f, d) :: q)
def ObR (L : Lk) (K : PySem.W.Frag) (m : List Addr) (H : Hp) (a : Addr) : OB → Prop
  | .lst xs => ∃ vs, H a = some (.lst vs) ∧ IsDs K m H vs xs
  | .dic false kvs => ∃ ks : List (Key × V), H a = some (.dK ks) ∧ ks.map (·.1) = kvs.flatMap (·.1) ∧ (∀ q ∈ kvs, q.1.length = 1) ∧ IsDs K m H (ks.map (·.2)) (kvs.map (·.2))
  | .dic true kvs => ∃ ks : List (List Key × V), H a = some (.dT ks) ∧ ks.map (·.1) = kvs.map (·.1) ∧ IsDs K m H (ks.map (·.2)) (kvs.map (·.2))
  | .ins C fs => ∃ dx fs', H a = some (.ins (L.cA C) dx fs') ∧ FsR L K m H fs' fs ∧ ∀ q ∈ fs, q.1 ∈ L.cF C
structure Rel (L : Lk) (K : PySem.W.Frag) (m : List Addr) (H : Hp) (s : ST) : Prop where
  nd : m.Nodup
  len : m.length = s.length
  at_ : ∀ (l : Nat) (o : OB) (a : Addr), s[l]? = some o → m[l]? = some a → ObR L K m H a o
section
variable {L : Lk} {K : PySem.W.Frag} {m m' : List Addr} {H H' : Hp} {s : ST}
theorem FsR.mono (e : Ext m H m' H') {r : List (Str × V)} {q : List (Nat × D)} (h : FsR L K m H r q) : FsR L K m' H' r q := by
  induction h with
  | nil => exact .nil
  | cons a b _ ih => exact .cons a (b.mono e) ih
theorem Rel.get (R : Rel L K m H s) {l : Nat} {o : OB} (h : s[l]? = some o) : ∃ a, m[l]? = some a ∧ ObR L K m H a o := by
  have hl : l < m.length := by rw [R.len]; exact (List.getElem?_eq_some_iff.mp h).1
  exact ⟨m[l], by simp [hl], R.at_ l o _ h (by simp [hl])⟩
theorem ObR.there {a : Addr} {o : OB} (h : ObR L K m H a o) : H a ≠ none := by
  cases o with
  | lst xs => obtain ⟨vs, e, _⟩ := h; rw [e]; simp
  | dic t kvs => cases t with
    | false => obtain ⟨vs, e, _⟩ := h; rw [e]; simp
    | true => obtain ⟨vs, e, _⟩ := h; rw [e]; simp
  | ins C fs => obtain ⟨dx, vs, e, _⟩ := h; rw [e]; simp
theorem Rel.there (R : Rel L K m H s) {a : Addr} (h : a ∈ m) : H a ≠ none := by
  obtain ⟨l, hl, rfl⟩ := List.getElem_of_mem h
  have : l < s.length := by rw [← R.len]; exact hl
  exact (R.at_ l s[l] _ (by simp [this]) (by simp [hl])).there
theorem ObR.mono (e : Ext m H m' H') {a : Addr} {o : OB} (hk : H' a = H a) (h : ObR L K m H a o) : ObR L K m' H' a o := by
  cases o with
  | lst xs => obtain ⟨vs, e1, g⟩ := h; exact ⟨vs, by rw [hk, e1], g.mono e⟩
  | dic t kvs => cases t with
    | false => obtain ⟨vs, e1, g1, g2, g3⟩ := h; exact ⟨vs, by rw [hk, e1], g1, g2, g3.mono e⟩
    | true => obtain ⟨vs, e1, g1, g3⟩ := h; exact ⟨vs, by rw [hk, e1], g1, g3.mono e⟩
  | ins C fs => obtain ⟨dx, vs, e1, g, g2⟩ := h; exact ⟨dx, vs, by rw [hk, e1], g.mono e, g2⟩
/-- a new object of no place in the store (a tuple) -/
theorem Ext.laid {p : Addr} {ho : HO} (hp : H p = none) : Ext m H m (upd H p ho) :=
  ⟨⟨[], by simp, by simp⟩, fun a h e n => by rw [upd_ne (ne_of_none e hp)]; exact e, fun a h => by
    by_cases q : a = p
    · subst q; rw [upd_same]; simp
    · rw [upd_ne q]; exact h⟩
theorem Rel.laid (R : Rel L K m H s) {p : Addr} {ho : HO} (hp : H p = none) : Rel L K m (upd H p ho) s :=
  ⟨R.nd, R.len, fun l o a h1 h2 => (R.at_ l o a h1 h2).mono (Ext.laid hp) (by rw [upd_ne]; rintro rfl; exact R.there (List.mem_of_getElem? h2) hp)⟩
/-- a new object of the store -/
theorem Ext.push {p : Addr} {ho : HO} (hp : H p = none) : Ext m H (m ++ [p]) (upd H p ho) :=
  ⟨⟨[p], rfl, by simp [hp]⟩, (Ext.laid (m := m) (ho := ho) hp).keep, (Ext.laid (m := m) (ho := ho) hp).there⟩
theorem Rel.push (R : Rel L K m H s) {p : Addr} {ho : HO} {o : OB} (hp : H p = none) (h : ObR L K (m ++ [p]) (upd H p ho) p o) : Rel L K (m ++ [p]) (upd H p ho) (s ++ [o]) := by
  have np : p ∉ m := fun z => R.there z hp
  refine ⟨?_, by simp [R.len], fun l o' a h1 h2 => ?_⟩
  · rw [List.nodup_append]
    refine ⟨R.nd, by simp, fun a ha b hb => ?_⟩
    simp at hb; subst hb
    rintro rfl; exact np ha
  · by_cases hl : l < s.length
    · rw [List.getElem?_append_left hl] at h1
      rw [List.getElem?_append_left (by rw [R.len]; exact hl)] at h2
      exact (R.at_ l o' a h1 h2).mono (Ext.push hp) (by rw [upd_ne]; rintro rfl; exact np (List.mem_of_getElem? h2))
    · rw [List.getElem?_append_right (by omega)] at h1
      rw [List.getElem?_append_right (by rw [R.len]; omega)] at h2
      rw [R.len] at h2
      have e : l - s.length = 0 := by
        cases q : l - s.length with
        | zero => rfl
        | succ n => rw [q] at h1; simp at h1
      rw [e] at h1 h2
      simp at h1 h2
      subst h1; subst h2
      exact h
/-- an object of the store is changed -/
theorem Ext.write {a : Addr} {ho : HO} (ha : a ∈ m) : Ext m H m (upd H a ho) :=
  ⟨⟨[], by simp, by simp⟩, fun b h e n => by rw [upd_ne (by rintro rfl; exact n ha)]; exact e, fun b h => by
    by_cases q : b = a
    · subst q; rw [upd_same]; simp
    · rw [upd_ne q]; exact h⟩
theorem Rel.write (R : Rel L K m H s) {l : Nat} {a : Addr} {ho : HO} {o : OB} (ha : m[l]? = some a) (h : ObR L K m (upd H a ho) a o) : Rel L K m (upd H a ho) (s.set l o) := by
  refine ⟨R.nd, by simp [R.len], fun l' o' a' h1 h2 => ?_⟩
  by_cases hl : l' = l
  · subst hl
    rw [ha] at h2; cases h2
    have : l' < s.length := by
      have := (List.getElem?_eq_some_iff.mp h1).1
      simpa using this
    rw [List.getElem?_set_self this] at h1
    cases h1
    exact h
  · rw [List.getElem?_set_ne (Ne.symm hl)] at h1
    refine (R.at_ l' o' a' h1 h2).mono (Ext.write (List.mem_of_getElem? ha)) (upd_ne ?_)
    rintro rfl
    obtain ⟨q1, e1⟩ := List.getElem?_eq_some_iff.mp h2
    obtain ⟨q2, e2⟩ := List.getElem?_eq_some_iff.mp ha
    exact hl ((List.getElem_inj R.nd).mp (e1.trans e2.symm))
end

/-! ### the frame's slots -/
structure EvR (K : PySem.W.Frag) (m : List Addr) (H : Hp) (σ : St) (v : EV) : Prop where
  len : σ.length = v.length
  at_ : ∀ i d, getE v i = some d → ∃ u, σ[i]? = some (some u) ∧ IsD K m H u d
theorem getE_some {v : EV} {i : Nat} {d : D} : getE v i = some d ↔ v[i]? = some (some d) := by
  unfold getE
  split
  · rename_i x h; rw [h]; simp
  · rename_i h
    constructor
    · intro z; cases z
    · intro z; exact absurd z (h d)
theorem EvR.mono {K : PySem.W.Frag} {m m' : List Addr} {H H' : Hp} {σ : St} {v : EV} (R : EvR K m H σ v) (e : Ext m H m' H') : EvR K m' H' σ v :=
  ⟨R.len, fun i d h => let ⟨u, a, b⟩ := R.at_ i d h; ⟨u, a, b.mono e⟩⟩
theorem EvR.set {K : PySem.W.Frag} {m : List Addr} {H : Hp} {σ : St} {v : EV} (R : EvR K m H σ v) {u : V} {d : D} (h : IsD K m H u d) (i : Nat) : EvR K m H (σ.set i (some u)) (v.set i (some d)) := by
  refine ⟨by simp [R.len], fun j x hx => ?_⟩
  rw [getE_some] at hx
  by_cases hj : j = i
  · subst hj
    have hl : j < v.length := by
      have := (List.getElem?_eq_some_iff.mp hx).1
      simpa using this
    rw [List.getElem?_set_self hl] at hx
    cases hx
    exact ⟨u, by rw [List.getElem?_set_self (by rw [R.len]; exact hl)], h⟩
  · rw [List.getElem?_set_ne (Ne.symm hj)] at hx
    obtain ⟨u', a, b⟩ := R.at_ j x (getE_some.mpr hx)
    exact ⟨u', by rw [List.getElem?_set_ne (Ne.symm hj)]; exact a, b⟩
theorem EvR.wipe {K : PySem.W.Frag} {m : List Addr} {H : Hp} {σ : St} {v : EV} (R : EvR K m H σ v) : ∀ own : List Nat, EvR K m H (L2.wipe σ own) (wipeE v own)
  | [] => R
  | i :: r => by
    have q := EvR.wipe R r
    refine ⟨by show ((L2.wipe σ r).set i none).length = ((wipeE v r).set i none).length; simp [q.len], fun j x hx => ?_⟩
    rw [getE_some] at hx
    show ∃ u, ((L2.wipe σ r).set i none)[j]? = some (some u) ∧ _
    have hx : ((wipeE v r).set i none)[j]? = some (some x) := hx
    by_cases hj : j = i
    · subst hj
      by_cases hl : j < (wipeE v r).length
      · rw [List.getElem?_set_self hl] at hx; cases hx
      · rw [List.getElem?_eq_none (by simpa using hl)] at hx; cases hx
    · rw [List.getElem?_set_ne (Ne.symm hj)] at hx
      obtain ⟨u', a, b⟩ := q.at_ j x (getE_some.mpr hx)
      exact ⟨u', by rw [List.getElem?_set_ne (Ne.symm hj)]; exact a, b⟩

/-! ### ends -/
def ExcR (L : Lk) (K : PySem.W.Frag) (m : List Addr) (H : Hp) (fs : List (Nat × D)) (d : Option Addr) : Prop :=
  (fs = [] ∧ d = none) ∨ ∃ a fs', d = some a ∧ H a = some (.xd fs') ∧ FsR L K m H fs' fs
def Post (L : Lk) (K : PySem.W.Frag) (m : List Addr) (H : Hp) (r : R D) (Q : VK) (W : XK) : Prop := match r with
  | .ok d s => ∀ m' u H', Ext m H m' H' → Rel L K m' H' s → IsD K m' H' u d → Q u H'
  | .exc c fs s => ∀ m' d H', Ext m H m' H' → Rel L K m' H' s → ExcR L K m' H' fs d → W (.ref (L.cA c)) d H'
  | .bad => False
def PostL (L : Lk) (K : PySem.W.Frag) (m : List Addr) (H : Hp) (r : R (List D)) (Q : List V → Hp → Prop) (W : XK) : Prop := match r with
  | .ok d s => ∀ m' u H', Ext m H m' H' → Rel L K m' H' s → IsDs K m' H' u d → Q u H'
  | .exc c fs s => ∀ m' d H', Ext m H m' H' → Rel L K m' H' s → ExcR L K m' H' fs d → W (.ref (L.cA c)) d H'
  | .bad => False
/-- an end of any kind: what is asked of a value -/
def PostG {α : Type} (L : Lk) (K : PySem.W.Frag) (m : List Addr) (H : Hp) (r : R α) (Q : List Addr → Hp → α → ST → Prop) (W : XK) : Prop := match r with
  | .ok d s => ∀ m' H', Ext m H m' H' → Rel L K m' H' s → Q m' H' d s
  | .exc c fs s => ∀ m' d H', Ext m H m' H' → Rel L K m' H' s → ExcR L K m' H' fs d → W (.ref (L.cA c)) d H'
  | .bad => False
section
variable {L : Lk} {K : PySem.W.Frag} {m m' : List Addr} {H H' : Hp} {Q : VK} {W : XK}
theorem Post.mono {r : R D} (e : Ext m H m' H') (h : Post L K m H r Q W) : Post L K m' H' r Q W := by
  cases r with
  | ok d s => exact fun m2 u H2 e2 => h m2 u H2 (e.trans e2)
  | exc c fs s => exact fun m2 u H2 e2 => h m2 u H2 (e.trans e2)
  | bad => exact h
theorem PostL.mono {r : R (List D)} {Q : List V → Hp → Prop} (e : Ext m H m' H') (h : PostL L K m H r Q W) : PostL L K m' H' r Q W := by
  cases r with
  | ok d s => exact fun m2 u H2 e2 => h m2 u H2 (e.trans e2)
  | exc c fs s => exact fun m2 u H2 e2 => h m2 u H2 (e.trans e2)
  | bad => exact h
/-- the first of two, a value -/
theorem Post.bindV {r : R D} {f : D → ST → R D} (h : Post L K m H (r.bind f) Q W) :
    Post L K m H r (fun u H1 => ∃ m1 d s1, Ext m H m1 H1 ∧ Rel L K m1 H1 s1 ∧ IsD K m1 H1 u d ∧ r = .ok d s1 ∧ Post L K m1 H1 (f d s1) Q W) W := by
  cases r with
  | ok d s => exact fun m1 u H1 e R i => ⟨m1, d, s, e, R, i, rfl, Post.mono e h⟩
  | exc c fs s => exact h
  | bad => exact h
theorem Post.bindL {r : R (List D)} {f : List D → ST → R D} (h : Post L K m H (r.bind f) Q W) :
    PostL L K m H r (fun u H1 => ∃ m1 d s1, Ext m H m1 H1 ∧ Rel L K m1 H1 s1 ∧ IsDs K m1 H1 u d ∧ r = .ok d s1 ∧ Post L K m1 H1 (f d s1) Q W) W := by
  cases r with
  | ok d s => exact fun m1 u H1 e R i => ⟨m1, d, s, e, R, i, rfl, Post.mono e h⟩
  | exc c fs s => exact h
  | bad => exact h
theorem PostL.bindV {r : R D} {f : D → ST → R (List D)} {Q : List V → Hp → Prop} (h : PostL L K m H (r.bind f) Q W) :
    Post L K m H r (fun u H1 => ∃ m1 d s1, Ext m H m1 H1 ∧ Rel L K m1 H1 s1 ∧ IsD K m1 H1 u d ∧ r = .ok d s1 ∧ PostL L K m1 H1 (f d s1) Q W) W := by
  cases r with
  | ok d s => exact fun m1 u H1 e R i => ⟨m1, d, s, e, R, i, rfl, PostL.mono e h⟩
  | exc c fs s => exact h
  | bad => exact h
theorem PostL.bindL {r : R (List D)} {f : List D → ST → R (List D)} {Q : List V → Hp → Prop} (h : PostL L K m H (r.bind f) Q W) :
    PostL L K m H r (fun u H1 => ∃ m1 d s1, Ext m H m1 H1 ∧ Rel L K m1 H1 s1 ∧ IsDs K m1 H1 u d ∧ r = .ok d s1 ∧ PostL L K m1 H1 (f d s1) Q W) W := by
  cases r with
  | ok d s => exact fun m1 u H1 e R i => ⟨m1, d, s, e, R, i, rfl, PostL.mono e h⟩
  | exc c fs s => exact h
  | bad => exact h
theorem Post.imp {r : R D} {Q' : VK} {W' : XK} (h : Post L K m H r Q W) (hq : ∀ u H, Q u H → Q' u H) (hw : ∀ c d H, W c d H → W' c d H) : Post L K m H r Q' W' := by
  cases r with
  | ok d s => exact fun m1 u H1 e R i => hq _ _ (h m1 u H1 e R i)
  | exc c fs s => exact fun m1 u H1 e R i => hw _ _ _ (h m1 u H1 e R i)
  | bad => exact h
/-- an end that is there at once -/
theorem Post.ok {d : D} {s : ST} (h : Post L K m H (.ok d s) Q W) (R : Rel L K m H s) {u : V} (i : IsD K m H u d) : Q u H := h m u H (.refl _ _) R i
/-- a new object of the store -/
theorem Post.new {o : OB} {s : ST} (h : Post L K m H (alloc o s) Q W) (R : Rel L K m H s) {ho : HO} {p : Addr} (hp : H p = none) (ob : ObR L K (m ++ [p]) (upd H p ho) p o) : Q (.ref p) (upd H p ho) :=
  h (m ++ [p]) (.ref p) _ (Ext.push hp) (R.push hp ob) (.ref (by rw [← R.len]; simp))
/-- a new tuple -/
theorem Post.tup {ds : List D} {s : ST} (h : Post L K m H (.ok (.tup ds) s) Q W) (R : Rel L K m H s) {vs : List V} {p : Addr} (hp : H p = none) (i : IsDs K m H vs ds) : Q (.ref p) (upd H p (.tup vs)) :=
  h m (.ref p) _ (Ext.laid hp) (R.laid hp) (.tup (.inl ⟨.inl upd_same, fun z => R.there z hp⟩) (i.mono (Ext.laid hp)))
end
end Dt
namespace Dt
open PySem L2
/-- two values, by what they stand for -/
def rD (L : Lk) (K : PySem.W.Frag) (g : D → D → M D) : R2 := fun x y H Q => ∃ m dx dy s, Rel L K m H s ∧ IsD K m H x dx ∧ IsD K m H y dy ∧ Post L K m H (g dx dy s) Q (fun _ _ _ => False)
section
variable {L : Lk} {K : PySem.W.Frag} {m : List Addr} {H : Hp} {s : ST}
theorem IsD.refO (R : Rel L K m H s) {v : V} {l : Nat} {o : OB} (h : IsD K m H v (.ref l)) (e : s[l]? = some o) : ∃ a, v = .ref a ∧ m[l]? = some a ∧ ObR L K m H a o := by
  cases h with
  | ref q => exact ⟨_, rfl, q, R.at_ l o _ e q⟩
theorem IsD.lst (R : Rel L K m H s) {v : V} {l : Nat} {xs : List D} (h : IsD K m H v (.ref l)) (e : s[l]? = some (.lst xs)) : ∃ a vs, v = .ref a ∧ m[l]? = some a ∧ H a = some (.lst vs) ∧ IsDs K m H vs xs := by
  obtain ⟨a, rfl, q, vs, h1, h2⟩ := h.refO R e
  exact ⟨a, vs, rfl, q, h1, h2⟩
/-- a list's or a tuple's items -/
theorem IsD.items (R : Rel L K m H s) {v : V} {d : D} {xs : List D} (h : IsD K m H v d) (e : itemsOf s d = some xs) : ∃ a vs, v = .ref a ∧ (SqL K H a vs ∨ SqT K H a vs) ∧ IsDs K m H vs xs := by
  cases h with
  | non => cases e
  | bl b => cases e
  | int b => cases e
  | str b => cases e
  | tup h r => cases e; exact ⟨_, _, rfl, .inr h.sq, r⟩
  | rol h r => cases e; exact ⟨_, _, rfl, .inl h.sq, r⟩
  | @ref a l q =>
    have e' : (match s[l]? with
      | some (.lst xs) => some xs
      | _ => none) = some xs := e
    split at e'
    · rename_i ys hs
      cases e'
      obtain ⟨vs, h1, h2⟩ := R.at_ l _ a hs q
      exact ⟨a, vs, rfl, .inl (.of h1), h2⟩
    · cases e'
theorem mapM_cons_some {α β : Type} {f : α → Option β} {x : α} {xs : List α} {ys : List β} (h : (x :: xs).mapM f = some ys) : ∃ y r, f x = some y ∧ xs.mapM f = some r ∧ ys = y :: r := by
  rw [List.mapM_cons] at h
  cases e1 : f x with
  | none => rw [e1] at h; cases h
  | some y =>
    rw [e1] at h
    cases e2 : xs.mapM f with
    | none => rw [e2] at h; cases h
    | some r => rw [e2] at h; cases h; exact ⟨y, r, rfl, rfl, rfl⟩
/-- a value's data, in the heap -/
theorem toP_ok (R : Rel L K m H s) : ∀ (n : Nat) (d : D) (p : PyData) (v : V), toP s n d = some p → IsD K m H v d → Dp K H v p ∧ p.canLay0 = true ∧ p.depth ≤ n := by
  intro n
  induction n with
  | zero => intro d p v e; cases e
  | succ n ih =>
    have all : ∀ (xs : List D) (ps : List PyData) (vs : List V), xs.mapM (toP s n) = some ps → IsDs K m H vs xs → DpAll K H vs ps ∧ PyData.canLayAll0 ps = true ∧ PyData.depthAll ps ≤ n := by
      intro xs
      induction xs with
      | nil =>
        intro ps vs e h
        cases h
        cases e
        exact ⟨.nil, rfl, Nat.zero_le _⟩
      | cons x r ih2 =>
        intro ps vs e h
        obtain ⟨y, q, e1, e2, rfl⟩ := mapM_cons_some e
        cases h with
        | cons a b =>
          obtain ⟨h1, h2, h3⟩ := ih x y _ e1 a
          obtain ⟨g1, g2, g3⟩ := ih2 q _ e2 b
          exact ⟨.cons h1 g1, by simp [PyData.canLayAll0, h2, g2], by simp [PyData.depthAll]; omega⟩
    intro d p v e h
    cases h with
    | non => cases e; exact ⟨.non, rfl, Nat.zero_le _⟩
    | bl b => cases e; exact ⟨.bl b, rfl, Nat.zero_le _⟩
    | int b => cases e; exact ⟨.int b, rfl, Nat.zero_le _⟩
    | str b =>
      unfold toP at e
      split at e
      · rename_i hs
        cases e; exact ⟨.str b, hs, Nat.zero_le _⟩
      · cases e
    | @tup a vs ds hq r =>
      have e' : (ds.mapM (toP s n)).map PyData.tuple = some p := e
      cases e1 : ds.mapM (toP s n) with
      | none => rw [e1] at e'; cases e'
      | some ps =>
        rw [e1] at e'; cases e'
        obtain ⟨h1, h2, h3⟩ := all ds ps vs e1 r
        exact ⟨.tup hq.sq h1, by simpa [PyData.canLay0] using h2, by simp [PyData.depth]; omega⟩
    | @rol a vs ds hq r =>
      have e' : (ds.mapM (toP s n)).map PyData.list = some p := e
      cases e1 : ds.mapM (toP s n) with
      | none => rw [e1] at e'; cases e'
      | some ps =>
        rw [e1] at e'; cases e'
        obtain ⟨h1, h2, h3⟩ := all ds ps vs e1 r
        exact ⟨.lst hq.sq h1, by simpa [PyData.canLay0] using h2, by simp [PyData.depth]; omega⟩
    | @ref a l q =>
      have e' : (match s[l]? with
        | some (.lst xs) => (xs.mapM (toP s n)).map PyData.list
        | _ => none) = some p := e
      split at e'
      · rename_i xs hs
        obtain ⟨vs, g1, g2⟩ := R.at_ l _ a hs q
        cases e1 : xs.mapM (toP s n) with
        | none => rw [e1] at e'; cases e'
        | some ps =>
          rw [e1] at e'; cases e'
          obtain ⟨h1, h2, h3⟩ := all xs ps vs e1 g2
          exact ⟨.lst (.of g1) h1, by simpa [PyData.canLay0] using h2, by simp [PyData.depth]; omega⟩
      · cases e'
theorem shaped_of {p : PyData} {n : Nat} (h : p.canLay0 = true) (hd : p.depth ≤ n) (hn : n ≤ 64) : SeqAt.shaped p = true := by
  unfold SeqAt.shaped
  rw [h]
  simp; omega
end
section
variable {X : Cx} {L : Lk}
def bopO : Bop → Operator
  | .add => .Add | .sub => .Sub | .mul => .Mult | .fdiv => .FloorDiv | .mod => .Mod | .pow => .Pow | .band => .BitAnd | .shr => .RShift
theorem cmul_of {i j : Int} (h : (isLt64 i || isLt64 j) = true) : CMul i j := by
  unfold isLt64 at h
  simp only [Bool.or_eq_true, Bool.and_eq_true, decide_eq_true_eq] at h
  exact h
theorem op_bop (o : Bop) : OpR X (binaryOp (bopO o)) (rD L X.K (bopV o)) := by
  intro pins s σ H x y v u Q I rx ry h
  obtain ⟨m, dx, dy, st, R, ix, iy, q⟩ := h
  cases ix with
  | int i =>
    cases iy with
    | int j =>
      cases o with
      | add => exact op_add pins s σ H _ _ v u Q I rx ry ⟨i, j, rfl, rfl, q.ok R (.int _)⟩
      | sub => exact op_sub pins s σ H _ _ v u Q I rx ry ⟨i, j, rfl, rfl, q.ok R (.int _)⟩
      | mul =>
        simp only [bopV] at q
        split at q
        · rename_i hc
          exact op_mul pins s σ H _ _ v u Q I rx ry ⟨i, j, rfl, rfl, cmul_of hc, q.ok R (.int _)⟩
        · exact q.elim
      | fdiv =>
        simp only [bopV] at q
        split at q
        · rename_i hc
          exact op_fdiv pins s σ H _ _ v u Q I rx ry ⟨i, j, rfl, rfl, hc, q.ok R (.int _)⟩
        · exact q.elim
      | mod =>
        simp only [bopV] at q
        split at q
        · rename_i hc
          exact op_mod pins s σ H _ _ v u Q I rx ry ⟨i, j, rfl, rfl, hc, q.ok R (.int _)⟩
        · exact q.elim
      | pow =>
        simp only [bopV] at q
        split at q
        · rename_i hc
          exact op_pow pins s σ H _ _ v u Q I rx ry ⟨i, j, rfl, rfl, hc, q.ok R (.int _)⟩
        · exact q.elim
      | band => exact op_and pins s σ H _ _ v u Q I rx ry ⟨i, j, rfl, rfl, q.ok R (.int _)⟩
      | shr =>
        simp only [bopV] at q
        split at q
        · rename_i hc
          exact op_shr pins s σ H _ _ v u Q I rx ry ⟨i, j, rfl, rfl, hc, q.ok R (.int _)⟩
        · exact q.elim
    | _ => cases o <;> exact q.elim
  | str a =>
    cases iy with
    | str b =>
      cases o with
      | add =>
        simp only [bopV] at q
        split at q
        · rename_i hc
          exact op_add_str pins s σ H _ _ v u Q I rx ry ⟨a, b, rfl, rfl, by rw [LN_eq]; exact hc, q.ok R (.str _)⟩
        · exact q.elim
      | _ => exact q.elim
    | _ => cases o <;> exact q.elim
  | @tup a vs ds ha ra =>
    cases iy with
    | @tup b us es hb rb =>
      cases o with
      | add =>
        simp only [bopV] at q
        split at q
        · rename_i hc
          refine op_catA pins s σ H _ _ v u Q I rx ry ⟨a, b, vs, us, rfl, rfl, ha.sq, hb.sq, by rw [LN_eq, ra.len, rb.len]; exact hc, fun z => ?_, fun _ z => ?_, fun _ _ p hp => q.tup R hp (ra.app rb)⟩
          · subst z
            cases ra
            exact q.ok R (.tup hb rb)
          · subst z
            cases rb
            rw [List.append_nil] at q
            exact q.ok R (.tup ha ra)
        · exact q.elim
      | _ => exact q.elim
    | _ => cases o <;> exact q.elim
  | @ref a l ha =>
    cases iy with
    | @ref b k hb =>
      cases o with
      | add =>
        simp only [bopV] at q
        split at q
        · rename_i xs ys e1 e2
          split at q
          · rename_i hc
            obtain ⟨vs, h1, h2⟩ := R.at_ l _ a e1 ha
            obtain ⟨us, g1, g2⟩ := R.at_ k _ b e2 hb
            exact op_cat pins s σ H _ _ v u Q I rx ry ⟨a, b, vs, us, rfl, rfl, h1, g1, by rw [LN_eq, h2.len, g2.len]; exact hc, fun p hp => q.new R hp ⟨_, upd_same, (h2.app g2).mono (Ext.push hp)⟩⟩
          · exact q.elim
        · exact q.elim
      | _ => exact q.elim
    | int k =>
      cases o with
      | mul =>
        simp only [bopV] at q
        split at q
        · rename_i xs e1
          split at q
          · rename_i hc
            obtain ⟨vs, h1, h2⟩ := R.at_ l _ a e1 ha
            exact op_rep pins s σ H _ _ v u Q I rx ry ⟨a, k, vs, rfl, rfl, h1, hc.1, hc.2.1, by rw [LN_eq, h2.len]; exact hc.2.2, fun p hp => q.new R hp ⟨_, upd_same, (h2.rep _).mono (Ext.push hp)⟩⟩
          · exact q.elim
        · exact q.elim
      | _ => exact q.elim
    | _ => cases o <;> exact q.elim
  | _ => cases o <;> exact q.elim
end
end Dt
namespace Dt
open PySem PySem.Spec PyProof.Rows L2
section
variable {X : Cx} {L : Lk}
def copO : Cop → CmpOp
  | .eq => .Eq | .ne => .NotEq | .lt => .Lt | .le => .LtE | .gt => .Gt | .ge => .GtE | .isN => .Is | .notN => .IsNot | .isB => .Is | .notB => .IsNot | .isin => .In | .notin => .NotIn
theorem IsD.nonEq {K : PySem.W.Frag} {m : List Addr} {H : Hp} {v : V} {d : D} (h : IsD K m H v d) : decide (v = .non) = (match d with | .non => true | _ => false) := by
  cases h <;> simp
/-- == of two values by their data, in the layer's words -/
theorem eq_arm {K : PySem.W.Frag} {m : List Addr} {H : Hp} {s : ST} {x y : V} {dx dy : D} {b : Bool} (R : Rel L K m H s) (ix : IsD K m H x dx) (iy : IsD K m H y dy) (e : eqD s dx dy = some b) :
    (scal x y = true ∧ decide (x = y) = b) ∨ ∃ p q, Dp K H x p ∧ Dp K H y q ∧ SeqAt.shaped p = true ∧ SeqAt.shaped q = true ∧ PyData.eqv p q = b := by
  have gen : (match toP s 60 dx, toP s 60 dy with
    | some p, some q => some (PyData.eqv p q)
    | _, _ => none) = some b → ∃ p q, Dp K H x p ∧ Dp K H y q ∧ SeqAt.shaped p = true ∧ SeqAt.shaped q = true ∧ PyData.eqv p q = b := by
    intro e
    split at e
    · rename_i p q e1 e2
      cases e
      obtain ⟨h1, h2, h3⟩ := toP_ok R 60 dx p x e1 ix
      obtain ⟨g1, g2, g3⟩ := toP_ok R 60 dy q y e2 iy
      exact ⟨p, q, h1, g1, shaped_of h2 h3 (by omega), shaped_of g2 g3 (by omega), rfl⟩
    · cases e
  cases ix with
  | int i =>
    cases iy with
    | int j => simp only [eqD, Option.some.injEq] at e; exact .inl ⟨rfl, by rw [← e]; simp⟩
    | _ => exact .inr (gen e)
  | str i =>
    cases iy with
    | str j => simp only [eqD, Option.some.injEq] at e; exact .inl ⟨rfl, by rw [← e]; simp⟩
    | _ => exact .inr (gen e)
  | non =>
    cases iy with
    | non => simp only [eqD, Option.some.injEq] at e; exact .inl ⟨rfl, by rw [← e]; simp⟩
    | _ => exact .inr (gen e)
  | _ => exact .inr (gen e)
theorem mapM_toP {K : PySem.W.Frag} {m : List Addr} {H : Hp} {s : ST} (R : Rel L K m H s) {n : Nat} : ∀ (xs : List D) (ps : List PyData) (vs : List V), xs.mapM (toP s n) = some ps → IsDs K m H vs xs → DpAll K H vs ps ∧ PyData.canLayAll0 ps = true ∧ PyData.depthAll ps ≤ n
  | [], ps, vs, e, h => by
    cases h
    cases e
    exact ⟨.nil, rfl, Nat.zero_le _⟩
  | x :: r, ps, vs, e, h => by
    obtain ⟨y, q, e1, e2, rfl⟩ := mapM_cons_some e
    cases h with
    | cons a b =>
      obtain ⟨h1, h2, h3⟩ := toP_ok R n x y _ e1 a
      obtain ⟨g1, g2, g3⟩ := mapM_toP R r q _ e2 b
      exact ⟨.cons h1 g1, by simp [PyData.canLayAll0, h2, g2], by simp [PyData.depthAll]; omega⟩
theorem in_arm (hu : X.A.units + 65 < cLine) {neg : Bool} {pins : List (Addr × Obj)} {σ : L2.St} {H : Hp} {s : Shared} {m : List Addr} {st : ST} {x y : V} {v u : Value} {dx dy : D} {b : Bool} {Q : VK} (I : Inv X pins σ H s) (rx : RelV x v) (ry : RelV y u)
    (R : Rel L X.K m H st) (ix : IsD X.K m H x dx) (iy : IsD X.K m H y dy) (e : inD st dx dy = some b) (q : Q (.bl (if neg then !b else b)) H) :
    wpAny (model X.prog X.w) X.A (compareOp (if neg then .NotIn else .In) v u) (EP X pins σ Q) X.xe s := by
  have gen : ∀ ys, itemsOf st dy = some ys → (match toP st 60 dx, ys.mapM (toP st 59) with
      | some p, some qs => some (qs.any fun q => PyData.eqv q p)
      | _, _ => none) = some b → wpAny (model X.prog X.w) X.A (compareOp (if neg then .NotIn else .In) v u) (EP X pins σ Q) X.xe s := by
    intro ys hi e
    split at e
    · rename_i p qs e1 e2
      cases e
      obtain ⟨h1, h2, h3⟩ := toP_ok R 60 dx p x e1 ix
      obtain ⟨a, vs, rfl, hs, hd⟩ := iy.items R hi
      obtain ⟨g1, g2, g3⟩ := mapM_toP R ys qs vs e2 hd
      obtain ⟨as, r1⟩ := Dp.reads I p x v h1 rx
      have room : X.A.units + 1 + min (PyData.depthAll qs) p.depth < cLine := by omega
      rcases hs with hs | hs
      · obtain ⟨bs, r2⟩ := Dp.reads I (.list qs) _ u (.lst hs g1) ry
        cases neg with
        | false => exact SeqAt.in_list_reads r2 r1 g2 h2 room ⟨.bl _, H, I, rfl, q⟩
        | true => exact SeqAt.notIn_list_reads r2 r1 g2 h2 room ⟨.bl _, H, I, rfl, q⟩
      · obtain ⟨bs, r2⟩ := Dp.reads I (.tuple qs) _ u (.tup hs g1) ry
        cases neg with
        | false => exact SeqAt.in_tuple_reads r2 r1 g2 h2 room ⟨.bl _, H, I, rfl, q⟩
        | true => exact SeqAt.notIn_tuple_reads r2 r1 g2 h2 room ⟨.bl _, H, I, rfl, q⟩
    · cases e
  have other : ∀ ys, itemsOf st dy = ys → (match ys with
      | some ys => match toP st 60 dx, ys.mapM (toP st 59) with
        | some p, some qs => some (qs.any fun q => PyData.eqv q p)
        | _, _ => none
      | none => none) = some b → wpAny (model X.prog X.w) X.A (compareOp (if neg then .NotIn else .In) v u) (EP X pins σ Q) X.xe s := by
    intro ys hi e
    cases ys with
    | none => cases e
    | some ys => exact gen ys hi e
  cases iy with
  | str z =>
    cases ix with
    | str a =>
      simp only [inD] at e
      split at e
      · rename_i c hc
        cases e
        have ea : a = ⟨#[c]⟩ := by
          cases a with
          | mk arr => simp only at hc; rw [← hc]
        subst ea
        cases neg with
        | false => exact op_in_sign pins s σ H _ _ v u Q I rx ry ⟨c, z, rfl, rfl, q⟩
        | true => exact op_notIn_sign pins s σ H _ _ v u Q I rx ry ⟨c, z, rfl, rfl, q⟩
      · cases e
    | _ => cases e
  | _ => exact other _ rfl e
theorem op_cop (hu : X.A.units + 65 < cLine) (o : Cop) : OpR X (compareOp (copO o)) (rD L X.K (cmpV o)) := by
  intro pins s σ H x y v u Q I rx ry h
  obtain ⟨m, dx, dy, st, R, ix, iy, q⟩ := h
  cases o with
  | eq =>
    simp only [cmpV] at q
    split at q
    · rename_i b e
      rcases eq_arm R ix iy e with ⟨h1, h2⟩ | ⟨p, r, h1, h2, h3, h4, h5⟩
      · exact op_eq pins s σ H _ _ v u Q I rx ry ⟨h1, by rw [h2]; exact q.ok R (.bl _)⟩
      · exact op_eqD (by omega) pins s σ H _ _ v u Q I rx ry ⟨p, r, h1, h2, h3, h4, by rw [h5]; exact q.ok R (.bl _)⟩
    · exact q.elim
  | ne =>
    simp only [cmpV] at q
    split at q
    · rename_i b e
      rcases eq_arm R ix iy e with ⟨h1, h2⟩ | ⟨p, r, h1, h2, h3, h4, h5⟩
      · exact op_ne pins s σ H _ _ v u Q I rx ry ⟨h1, by rw [h2]; exact q.ok R (.bl _)⟩
      · exact op_neD (by omega) pins s σ H _ _ v u Q I rx ry ⟨p, r, h1, h2, h3, h4, by rw [h5]; exact q.ok R (.bl _)⟩
    · exact q.elim
  | lt =>
    cases ix with
    | int i =>
      cases iy with
      | int j => exact op_lt pins s σ H _ _ v u Q I rx ry ⟨i, j, rfl, rfl, q.ok R (.bl _)⟩
      | _ => exact q.elim
    | _ => exact q.elim
  | le =>
    cases ix with
    | int i =>
      cases iy with
      | int j => exact op_le pins s σ H _ _ v u Q I rx ry ⟨i, j, rfl, rfl, q.ok R (.bl _)⟩
      | _ => exact q.elim
    | _ => exact q.elim
  | gt =>
    cases ix with
    | int i =>
      cases iy with
      | int j => exact op_gt pins s σ H _ _ v u Q I rx ry ⟨i, j, rfl, rfl, q.ok R (.bl _)⟩
      | _ => exact q.elim
    | _ => exact q.elim
  | ge =>
    cases ix with
    | int i =>
      cases iy with
      | int j => exact op_ge pins s σ H _ _ v u Q I rx ry ⟨i, j, rfl, rfl, q.ok R (.bl _)⟩
      | _ => exact q.elim
    | _ => exact q.elim
  | isN =>
    cases iy with
    | non =>
      refine op_isN pins s σ H _ _ v u Q I rx ry ⟨rfl, ?_⟩
      rw [ix.nonEq]
      cases ix <;> exact q.ok R (.bl _)
    | _ => cases ix <;> exact q.elim
  | notN =>
    cases iy with
    | non =>
      refine op_notN pins s σ H _ _ v u Q I rx ry ⟨rfl, ?_⟩
      rw [ix.nonEq]
      cases ix <;> exact q.ok R (.bl _)
    | _ => cases ix <;> exact q.elim
  | isB =>
    cases ix with
    | bl a =>
      cases iy with
      | bl b => exact op_is_bl pins s σ H _ _ v u Q I rx ry ⟨a, b, rfl, rfl, q.ok R (.bl _)⟩
      | _ => exact q.elim
    | _ => exact q.elim
  | notB =>
    cases ix with
    | bl a =>
      cases iy with
      | bl b => exact op_isnot_bl pins s σ H _ _ v u Q I rx ry ⟨a, b, rfl, rfl, q.ok R (.bl _)⟩
      | _ => exact q.elim
    | _ => exact q.elim
  | isin =>
    simp only [cmpV] at q
    split at q
    · rename_i b e
      exact in_arm (neg := false) hu I rx ry R ix iy e (q.ok R (.bl _))
    · exact q.elim
  | notin =>
    simp only [cmpV] at q
    split at q
    · rename_i b e
      exact in_arm (neg := true) hu I rx ry R ix iy e (q.ok R (.bl _))
    · exact q.elim
/-! ### subscripts -/
theorem atI_ds {K : PySem.W.Frag} {m : List Addr} {H : Hp} {vs : List V} {ds : List D} {i : Int} {d : D} (h : IsDs K m H vs ds) (e : atI ds i = some d) : ∃ v, atI vs i = some v ∧ IsD K m H v d := by
  unfold atI at e ⊢
  rw [h.len]
  cases q : ixN ds.length i with
  | none => rw [q] at e; cases e
  | some j =>
    rw [q] at e
    exact h.get e
theorem ix_D : IxR X (rD L X.K idxV) := by
  intro value slice pins s σ H x y v u Q I rx ry h hs
  obtain ⟨m, dx, dy, st, R, ix, iy, q⟩ := h
  have seq : ∀ i ds, dy = .int i → itemsOf st dx = some ds → Post L X.K m H (lift (atI ds i) st) Q (fun _ _ _ => False) → wpAny (model X.prog X.w) X.A (subscriptTail value slice v u) (EP X pins σ Q) X.xe s := by
    clear q
    intro i ds e hi q
    subst e
    cases iy
    obtain ⟨a, vs, rfl, hsq, hd⟩ := ix.items R hi
    cases e : atI ds i with
    | none => rw [e] at q; exact q.elim
    | some d =>
      rw [e] at q
      obtain ⟨w, hw, iw⟩ := atI_ds hd e
      rcases hsq with hsq | hsq
      · exact ix_list value slice pins s σ H _ _ v u Q I rx ry ⟨a, vs, i, w, rfl, rfl, hsq, hw, q.ok R iw⟩ hs
      · exact ix_tup value slice pins s σ H _ _ v u Q I rx ry ⟨a, vs, i, w, rfl, rfl, hsq, hw, q.ok R iw⟩ hs
  have other : ∀ i o, dy = .int i → itemsOf st dx = o → Post L X.K m H (match o with
      | some xs => lift (atI xs i) st
      | none => .bad) Q (fun _ _ _ => False) → wpAny (model X.prog X.w) X.A (subscriptTail value slice v u) (EP X pins σ Q) X.xe s := by
    intro i o e hi q
    cases o with
    | none => exact q.elim
    | some ds => exact seq i ds e hi q
  cases iy with
  | int i =>
    cases ix with
    | str z =>
      simp only [idxV] at q
      split at q
      · rename_i c hc
        split at q
        · rename_i hz
          exact ix_str value slice pins s σ H _ _ v u Q I rx ry ⟨z, i, c, rfl, rfl, by rw [LN_eq]; exact hz, hc, q.ok R (.str _)⟩ hs
        · exact q.elim
      · exact q.elim
    | _ => exact other i _ rfl rfl q
  | _ => cases ix <;> exact q.elim
def rSlD (L : Lk) (K : PySem.W.Frag) : V → Option Int → Option Int → Hp → VK → Prop := fun x lo hi H Q => ∃ m dx s, Rel L K m H s ∧ IsD K m H x dx ∧ Post L K m H (slcV dx lo hi s) Q (fun _ _ _ => False)
theorem IsDs.cut {K : PySem.W.Frag} {m : List Addr} {H : Hp} {vs : List V} {ds : List D} (h : IsDs K m H vs ds) (lo hi : Option Int) : IsDs K m H (cutV vs lo hi) (cutD ds lo hi) := by
  unfold cutV cutD
  rw [h.len]
  exact (h.drop _).take _
theorem cut_whole {K : PySem.W.Frag} {m : List Addr} {H : Hp} {vs : List V} {ds : List D} (h : IsDs K m H vs ds) {lo hi : Option Int} (w : HT.sIx vs.length 0 lo = 0 ∧ HT.sIx vs.length vs.length hi = vs.length) : cutD ds lo hi = ds := by
  unfold cutD
  rw [← h.len, w.1, w.2]
  simp [h.len]
theorem sl_D : SlR X (rSlD L X.K) := by
  intro pins s σ H x v vl vu lo hi sl Q I rx hs pl pu h
  obtain ⟨m, dx, st, R, ix, q⟩ := h
  cases ix with
  | str z =>
    simp only [slcV] at q
    split at q
    · rename_i hz
      exact sl_str pins s σ H _ v vl vu lo hi sl Q I rx hs pl pu ⟨z, rfl, by rw [LN_eq]; exact hz, q.ok R (.str _)⟩
    · exact q.elim
  | @tup a vs ds ha ra =>
    refine sl_tupA pins s σ H _ v vl vu lo hi sl Q I rx hs pl pu ⟨a, vs, rfl, ha.sq, fun w => ?_, fun _ p hp => q.tup R hp (ra.cut lo hi)⟩
    simp only [slcV, cut_whole ra w] at q
    exact q.ok R (.tup ha ra)
  | @rol a vs ds ha ra =>
    exact sl_list pins s σ H _ v vl vu lo hi sl Q I rx hs pl pu ⟨a, vs, rfl, ha.sq, fun p hp => q.new R hp ⟨_, upd_same, (ra.cut lo hi).mono (Ext.push hp)⟩⟩
  | @ref a l ha =>
    simp only [slcV] at q
    split at q
    · rename_i xs e
      obtain ⟨vs, h1, h2⟩ := R.at_ l _ a e ha
      exact sl_list pins s σ H _ v vl vu lo hi sl Q I rx hs pl pu ⟨a, vs, rfl, .of h1, fun p hp => q.new R hp ⟨_, upd_same, (h2.cut lo hi).mono (Ext.push hp)⟩⟩
    · exact q.elim
  | _ => exact q.elim
def PostU (L : Lk) (K : PySem.W.Frag) (m : List Addr) (H : Hp) (r : R Unit) (Q : Hp → Prop) : Prop := match r with
  | .ok _ s => ∀ H', Ext m H m H' → Rel L K m H' s → Q H'
  | .exc _ _ _ => False
  | .bad => False
def rSetD (L : Lk) (K : PySem.W.Frag) : V → V → V → Hp → (Hp → Prop) → Prop := fun x y z H Q => ∃ m dx dy dz s, Rel L K m H s ∧ IsD K m H x dx ∧ IsD K m H y dy ∧ IsD K m H z dz ∧ PostU L K m H (setV dx dy dz s) Q
theorem set_D : PSet X (rSetD L X.K) := by
  intro pins s σ H o i v ov iv u Q I ro ri rv h
  obtain ⟨m, dx, dy, dz, st, R, ix, iy, iz, q⟩ := h
  cases ix with
  | @ref a l ha =>
    cases iy with
    | int k =>
      simp only [setV] at q
      split at q
      · rename_i xs e
        split at q
        · rename_i j hj
          obtain ⟨vs, h1, h2⟩ := R.at_ l _ a e ha
          refine set_list pins s σ H _ _ v ov iv u Q I ro ri rv ⟨a, vs, k, j, rfl, rfl, h1, by rw [h2.len]; exact hj, q _ (Ext.write (List.mem_of_getElem? ha)) (R.write ha ⟨_, upd_same, ?_⟩)⟩
          exact (h2.set iz j).mono (Ext.write (List.mem_of_getElem? ha))
        · exact q.elim
      · exact q.elim
    | _ => exact q.elim
  | _ => exact q.elim
end
end Dt
namespace Dt
open PySem PySem.Spec PyProof.Rows L2
/-- a call by values -/
def rC (L : Lk) (K : PySem.W.Frag) (g : List D → M D) : List V → Hp → VK → Prop := fun xs H Q => ∃ m ds s, Rel L K m H s ∧ IsDs K m H xs ds ∧ Post L K m H (g ds s) Q (fun _ _ _ => False)
section
variable {K : PySem.W.Frag} {m : List Addr} {H : Hp}
theorem boolsOf_vs : ∀ {ds : List D} {bs : List Bool} {vs : List V}, boolsOf ds = some bs → IsDs K m H vs ds → vs = bs.map V.bl
  | [], bs, vs, e, h => by cases e; cases h; rfl
  | d :: r, bs, vs, e, h => by
    cases h with
    | cons a b =>
      cases a with
      | bl k =>
        have e' : (boolsOf r).map (k :: ·) = some bs := e
        cases q : boolsOf r with
        | none => rw [q] at e'; cases e'
        | some z => rw [q] at e'; cases e'; rw [boolsOf_vs q b]; rfl
      | _ => cases e
theorem intsOf_vs : ∀ {ds : List D} {bs : List Int} {vs : List V}, intsOf ds = some bs → IsDs K m H vs ds → vs = bs.map V.int
  | [], bs, vs, e, h => by cases e; cases h; rfl
  | d :: r, bs, vs, e, h => by
    cases h with
    | cons a b =>
      cases a with
      | int k =>
        have e' : (intsOf r).map (k :: ·) = some bs := e
        cases q : intsOf r with
        | none => rw [q] at e'; cases e'
        | some z => rw [q] at e'; cases e'; rw [intsOf_vs q b]; rfl
      | _ => cases e
theorem strsOf_vs : ∀ {ds : List D} {bs : List Str} {vs : List V}, strsOf ds = some bs → IsDs K m H vs ds → vs = bs.map V.str
  | [], bs, vs, e, h => by cases e; cases h; rfl
  | d :: r, bs, vs, e, h => by
    cases h with
    | cons a b =>
      cases a with
      | str k =>
        have e' : (strsOf r).map (k :: ·) = some bs := e
        cases q : strsOf r with
        | none => rw [q] at e'; cases e'
        | some z => rw [q] at e'; cases e'; rw [strsOf_vs q b]; rfl
      | _ => cases e
theorem IsDs.strs : ∀ (ys : List Str), IsDs K m H (ys.map V.str) (ys.map D.str)
  | [] => .nil
  | y :: r => .cons (.str y) (IsDs.strs r)
end
section
variable {X : Cx} {L : Lk}
theorem cr_len : CallR X (.builtin "len") (rC L X.K (bfV .len)) := by
  intro pins s σ H vs us Q I r h
  obtain ⟨m, ds, st, R, i, q⟩ := h
  have seq : ∀ x v, vs = [v] → IsD X.K m H v x → Post L X.K m H (match itemsOf st x with
    | some xs => .ok (.int xs.length) st
    | none => .bad) Q (fun _ _ _ => False) → wpAny (model X.prog X.w) X.A (call (.builtin "len") us) (EP X pins σ Q) X.xe s := by
    intro x v e ix q
    subst e
    split at q
    · rename_i xs hi
      obtain ⟨a, ys, rfl, hs, hd⟩ := ix.items R hi
      refine call_len_seq pins s σ H _ us Q I r ⟨a, ys, rfl, hs, ?_⟩
      rw [hd.len]
      exact q.ok R (.int _)
    · exact q.elim
  cases i with
  | nil => exact q.elim
  | cons a b =>
    cases b with
    | cons c e => cases a <;> exact q.elim
    | nil =>
      cases a with
      | str z =>
        simp only [bfV] at q
        split at q
        · rename_i hz
          exact call_len_str pins s σ H _ us Q I r ⟨z, rfl, by rw [LN_eq]; exact hz, q.ok R (.int _)⟩
        · exact q.elim
      | non => exact seq _ _ rfl .non q
      | bl b => exact seq _ _ rfl (.bl b) q
      | int b => exact seq _ _ rfl (.int b) q
      | tup h1 h2 => exact seq _ _ rfl (.tup h1 h2) q
      | rol h1 h2 => exact seq _ _ rfl (.rol h1 h2) q
      | ref h1 => exact seq _ _ rfl (.ref h1) q
theorem cr_int : CallR X (.type "int") (rC L X.K (bfV .int)) := by
  intro pins s σ H vs us Q I r h
  obtain ⟨m, ds, st, R, i, q⟩ := h
  cases i with
  | nil => exact q.elim
  | cons a b =>
    cases b with
    | cons c e => cases a <;> exact q.elim
    | nil =>
      cases a with
      | int j => exact call_int1 pins s σ H _ us Q I r (.inl ⟨j, rfl, q.ok R (.int _)⟩)
      | bl j => exact call_int1 pins s σ H _ us Q I r (.inr ⟨j, rfl, q.ok R (.int _)⟩)
      | str z =>
        simp only [bfV] at q
        split at q
        · rename_i n hn
          split at q
          · rename_i hz
            exact call_int_str pins s σ H _ us Q I r ⟨z, n, rfl, hn, hz, q.ok R (.int _)⟩
          · exact q.elim
        · exact q.elim
      | _ => exact q.elim
theorem cr_max2 (hc : X.calm = true) : CallR X (.builtin "max") (rC L X.K (bfV .max)) := by
  intro pins s σ H vs us Q I r h
  obtain ⟨m, ds, st, R, i, q⟩ := h
  cases i with
  | nil => exact q.elim
  | cons a b =>
    cases b with
    | nil => cases a <;> exact q.elim
    | cons c e =>
      cases e with
      | cons _ _ => cases a <;> cases c <;> exact q.elim
      | nil =>
        cases a with
        | int j =>
          cases c with
          | int k => exact call_max2 hc pins s σ H _ us Q I r ⟨j, k, rfl, q.ok R (.int _)⟩
          | _ => exact q.elim
        | _ => cases c <;> exact q.elim
theorem cr_min2 (hc : X.calm = true) : CallR X (.builtin "min") (rC L X.K (bfV .min)) := by
  intro pins s σ H vs us Q I r h
  obtain ⟨m, ds, st, R, i, q⟩ := h
  cases i with
  | nil => exact q.elim
  | cons a b =>
    cases b with
    | nil => cases a <;> exact q.elim
    | cons c e =>
      cases e with
      | cons _ _ => cases a <;> cases c <;> exact q.elim
      | nil =>
        cases a with
        | int j =>
          cases c with
          | int k => exact call_min2 hc pins s σ H _ us Q I r ⟨j, k, rfl, q.ok R (.int _)⟩
          | _ => exact q.elim
        | _ => cases c <;> exact q.elim
/-- one argument -/
theorem one_arm {ds : List D} {g : List D → M D} {m : List Addr} {H : Hp} {vs : List V} {st : ST} {Q : VK} {P : Prop} (i : IsDs X.K m H vs ds) (q : Post L X.K m H (g ds st) Q (fun _ _ _ => False)) (h0 : g [] st = .bad) (h2 : ∀ a b r, g (a :: b :: r) st = .bad)
    (h1 : ∀ v x, vs = [v] → IsD X.K m H v x → Post L X.K m H (g [x] st) Q (fun _ _ _ => False) → P) : P := by
  cases i with
  | nil => rw [h0] at q; exact q.elim
  | cons a b =>
    cases b with
    | nil => exact h1 _ _ rfl a q
    | cons c e => rw [h2] at q; exact q.elim
theorem cr_tuple : CallR X (.type "tuple") (rC L X.K (bfV .tuple)) := by
  intro pins s σ H vs us Q I r h
  obtain ⟨m, ds, st, R, i, q⟩ := h
  refine one_arm i q rfl (fun a b r => by cases a <;> rfl) fun v x e ix q => ?_
  subst e
  cases ix with
  | tup h1 h2 => exact call_tuple_of pins s σ H _ us Q I r ⟨_, _, rfl, .inr ⟨h1.sq, q.ok R (.tup h1 h2)⟩⟩
  | @ref a l ha =>
    simp only [bfV] at q
    split at q
    · rename_i xs e
      obtain ⟨ws, g1, g2⟩ := R.at_ l _ a e ha
      exact call_tuple_of pins s σ H _ us Q I r ⟨_, _, rfl, .inl ⟨.of g1, fun p hp => q.tup R hp g2⟩⟩
    · exact q.elim
  | _ => exact q.elim
theorem cr_list : CallR X (.type "list") (rC L X.K (bfV .list)) := by
  intro pins s σ H vs us Q I r h
  obtain ⟨m, ds, st, R, i, q⟩ := h
  refine one_arm i q rfl (fun a b r => by cases a <;> rfl) fun v x e ix q => ?_
  subst e
  simp only [bfV] at q
  split at q
  · rename_i xs hi
    obtain ⟨a, ys, rfl, hs, hd⟩ := ix.items R hi
    exact call_list_of pins s σ H _ us Q I r ⟨a, ys, rfl, hs, fun p hp => q.new R hp ⟨_, upd_same, hd.mono (Ext.push hp)⟩⟩
  · exact q.elim
theorem cr_allD (hc : X.calm = true) : CallR X (.builtin "all") (rC L X.K (bfV .all)) := by
  intro pins s σ H vs us Q I r h
  obtain ⟨m, ds, st, R, i, q⟩ := h
  refine one_arm i q rfl (fun a b r => by cases a <;> rfl) fun v x e ix q => ?_
  subst e
  cases ix with
  | @ref a l ha =>
    simp only [bfV] at q
    split at q
    · rename_i xs e
      split at q
      · rename_i bs hb
        obtain ⟨ws, g1, g2⟩ := R.at_ l _ a e ha
        have := boolsOf_vs hb g2
        subst this
        exact cr_all hc pins s σ H _ us Q I r ⟨a, bs, rfl, .of g1, q.ok R (.bl _)⟩
      · exact q.elim
    · exact q.elim
  | _ => exact q.elim
theorem cr_anyD (hc : X.calm = true) : CallR X (.builtin "any") (rC L X.K (bfV .any)) := by
  intro pins s σ H vs us Q I r h
  obtain ⟨m, ds, st, R, i, q⟩ := h
  refine one_arm i q rfl (fun a b r => by cases a <;> rfl) fun v x e ix q => ?_
  subst e
  cases ix with
  | @ref a l ha =>
    simp only [bfV] at q
    split at q
    · rename_i xs e
      split at q
      · rename_i bs hb
        obtain ⟨ws, g1, g2⟩ := R.at_ l _ a e ha
        have := boolsOf_vs hb g2
        subst this
        exact cr_any hc pins s σ H _ us Q I r ⟨a, bs, rfl, .of g1, q.ok R (.bl _)⟩
      · exact q.elim
    · exact q.elim
  | _ => exact q.elim
theorem cr_sumD (hc : X.calm = true) : CallR X (.builtin "sum") (rC L X.K (bfV .sum)) := by
  intro pins s σ H vs us Q I r h
  obtain ⟨m, ds, st, R, i, q⟩ := h
  refine one_arm i q rfl (fun a b r => by cases a <;> rfl) fun v x e ix q => ?_
  subst e
  cases ix with
  | @ref a l ha =>
    simp only [bfV] at q
    split at q
    · rename_i xs e
      split at q
      · rename_i bs hb
        obtain ⟨ws, g1, g2⟩ := R.at_ l _ a e ha
        have := intsOf_vs hb g2
        subst this
        exact cr_sum hc pins s σ H _ us Q I r ⟨a, bs, rfl, .of g1, q.ok R (.int _)⟩
      · exact q.elim
    · exact q.elim
  | _ => exact q.elim
theorem cr_absD : CallR X (.builtin "abs") (rC L X.K (bfV .abs)) := by
  intro pins s σ H vs us Q I r h
  obtain ⟨m, ds, st, R, i, q⟩ := h
  refine one_arm i q rfl (fun a b r => by cases a <;> rfl) fun v x e ix q => ?_
  subst e
  cases ix with
  | int j => exact call_abs pins s σ H _ us Q I r ⟨j, rfl, q.ok R (.int _)⟩
  | _ => exact q.elim
theorem cr_strD : CallR X (.type "str") (rC L X.K (bfV .str)) := by
  intro pins s σ H vs us Q I r h
  obtain ⟨m, ds, st, R, i, q⟩ := h
  refine one_arm i q rfl (fun a b r => by cases a <;> rfl) fun v x e ix q => ?_
  subst e
  cases ix with
  | int j =>
    simp only [bfV] at q
    split at q
    · rename_i hz
      exact call_str_int pins s σ H _ us Q I r ⟨j, rfl, hz, q.ok R (.str _)⟩
    · exact q.elim
  | str z => exact SkE.call_str_str pins s σ H _ us Q I r ⟨z, rfl, q.ok R (.str _)⟩
  | _ => exact q.elim
theorem cr_reprD : CallR X (.builtin "repr") (rC L X.K (bfV .repr)) := by
  intro pins s σ H vs us Q I r h
  obtain ⟨m, ds, st, R, i, q⟩ := h
  refine one_arm i q rfl (fun a b r => by cases a <;> rfl) fun v x e ix q => ?_
  subst e
  cases ix with
  | int j =>
    simp only [bfV] at q
    split at q
    · rename_i hz
      exact SkE.call_repr_int pins s σ H _ us Q I r ⟨j, rfl, hz, q.ok R (.str _)⟩
    · exact q.elim
  | bl b =>
    obtain ⟨u, rfl, h⟩ := vals1 r
    cases h
    exact PySem.P.repr_of_bool ⟨.str _, H, I.tok _, ⟨_, rfl⟩, q.ok R (.str _)⟩
  | _ => exact q.elim
/-! ### methods -/
def rM (L : Lk) (K : PySem.W.Frag) (g : D → List D → M D) : V → List V → Hp → VK → Prop := fun x xs H Q => ∃ m d ds s, Rel L K m H s ∧ IsD K m H x d ∧ IsDs K m H xs ds ∧ Post L K m H (g d ds s) Q (fun _ _ _ => False)
theorem mt_appendD : MtR X "list.append" (rM L X.K (bmV .append)) := by
  intro pins s σ H x xs v us Q I rx r h
  obtain ⟨m, d, ds, st, R, ix, i, q⟩ := h
  cases ix with
  | @ref a l ha =>
    cases i with
    | nil => exact q.elim
    | @cons vv dd _ _ iy b =>
      cases b with
      | cons c e => exact q.elim
      | nil =>
        simp only [bmV] at q
        split at q
        · rename_i ys e
          split at q
          · rename_i hz
            obtain ⟨ws, g1, g2⟩ := R.at_ l _ a e ha
            have ex : Ext m H m (upd H a (.lst (ws ++ [vv]))) := Ext.write (List.mem_of_getElem? ha)
            exact mt_append pins s σ H _ _ v us Q I rx r ⟨a, ws, _, rfl, rfl, g1, by rw [LN_eq, g2.len]; exact hz, q _ _ _ ex (R.write ha ⟨_, upd_same, (g2.app (.cons iy .nil)).mono ex⟩) .non⟩
          · exact q.elim
        · exact q.elim
  | _ => cases i with
    | nil => exact q.elim
    | cons iy b => cases b <;> exact q.elim
theorem mt_popD : MtR X "list.pop" (rM L X.K (bmV .pop)) := by
  intro pins s σ H x xs v us Q I rx r h
  obtain ⟨m, d, ds, st, R, ix, i, q⟩ := h
  cases ix with
  | @ref a l ha =>
    cases i with
    | cons iy b => exact q.elim
    | nil =>
      simp only [bmV] at q
      split at q
      · rename_i ys e
        split at q
        · rename_i y hy
          obtain ⟨ws, g1, g2⟩ := R.at_ l _ a e ha
          have ex : Ext m H m (upd H a (.lst ws.dropLast)) := Ext.write (List.mem_of_getElem? ha)
          obtain ⟨w, hw, iw⟩ := g2.get hy
          exact mt_pop pins s σ H _ _ v us Q I rx r ⟨a, ws, w, rfl, rfl, g1, by rw [g2.len]; exact hw, q _ _ _ ex (R.write ha ⟨_, upd_same, g2.dropLast.mono ex⟩) (iw.mono ex)⟩
        · exact q.elim
      · exact q.elim
  | _ => cases i <;> exact q.elim
theorem mt_extendD : MtR X "list.extend" (rM L X.K (bmV .extend)) := by
  intro pins s σ H x xs v us Q I rx r h
  obtain ⟨m, d, ds, st, R, ix, i, q⟩ := h
  cases ix with
  | @ref a l ha =>
    cases i with
    | nil => exact q.elim
    | cons iy b =>
      cases b with
      | cons c e => cases iy <;> exact q.elim
      | nil =>
        cases iy with
        | @ref a2 k hk =>
          simp only [bmV] at q
          split at q
          · rename_i ys zs e e2
            split at q
            · rename_i hz
              obtain ⟨ws, g1, g2⟩ := R.at_ l _ a e ha
              obtain ⟨ws', g1', g2'⟩ := R.at_ k _ a2 e2 hk
              have ex : Ext m H m (upd H a (.lst (ws ++ ws'))) := Ext.write (List.mem_of_getElem? ha)
              exact mt_extend pins s σ H _ _ v us Q I rx r ⟨a, a2, ws, ws', rfl, rfl, g1, g1', by rw [LN_eq, g2.len, g2'.len]; exact hz, q _ _ _ ex (R.write ha ⟨_, upd_same, (g2.app g2').mono ex⟩) .non⟩
            · exact q.elim
          · exact q.elim
        | _ => exact q.elim
  | _ => cases i with
    | nil => exact q.elim
    | cons iy b => cases b <;> cases iy <;> exact q.elim
theorem mt_splitD : MtR X "str.split" (rM L X.K (bmV .split)) := by
  intro pins s σ H x xs v us Q I rx r h
  obtain ⟨m, d, ds, st, R, ix, i, q⟩ := h
  cases ix with
  | str a =>
    cases i with
    | nil => exact q.elim
    | cons iy b =>
      cases b with
      | cons c e => cases iy <;> exact q.elim
      | nil =>
        cases iy with
        | str b =>
          simp only [bmV] at q
          split at q
          · rename_i hz
            exact mt_split pins s σ H _ _ v us Q I rx r ⟨a, b, rfl, rfl, by simpa using hz.1, by rw [LN_eq]; exact hz.2, fun p hp => q.new R hp ⟨_, upd_same, IsDs.strs _⟩⟩
          · exact q.elim
        | _ => exact q.elim
  | _ => cases i with
    | nil => exact q.elim
    | cons iy b => cases b <;> cases iy <;> exact q.elim
theorem mt_countD : MtR X "str.count" (rM L X.K (bmV .count)) := by
  intro pins s σ H x xs v us Q I rx r h
  obtain ⟨m, d, ds, st, R, ix, i, q⟩ := h
  cases ix with
  | str a =>
    cases i with
    | nil => exact q.elim
    | cons iy b =>
      cases b with
      | cons c e => cases iy <;> exact q.elim
      | nil =>
        cases iy with
        | str b => exact mt_count pins s σ H _ _ v us Q I rx r ⟨a, b, rfl, rfl, q.ok R (.int _)⟩
        | _ => exact q.elim
  | _ => cases i with
    | nil => exact q.elim
    | cons iy b => cases b <;> cases iy <;> exact q.elim
theorem mt_joinD : MtR X "str.join" (rM L X.K (bmV .join)) := by
  intro pins s σ H x xs v us Q I rx r h
  obtain ⟨m, d, ds, st, R, ix, i, q⟩ := h
  cases ix with
  | str a =>
    cases i with
    | nil => exact q.elim
    | cons iy b =>
      cases b with
      | cons c e => exact q.elim
      | nil =>
        simp only [bmV] at q
        split at q
        · rename_i ys hi
          split at q
          · rename_i zs hz
            split at q
            · rename_i hl
              obtain ⟨p, ws, rfl, hs, hd⟩ := iy.items R hi
              have := strsOf_vs hz hd
              subst this
              exact mt_join pins s σ H _ _ v us Q I rx r ⟨a, p, zs, rfl, rfl, hs, hl, q.ok R (.str _)⟩
            · exact q.elim
          · exact q.elim
        · exact q.elim
  | _ => cases i with
    | nil => exact q.elim
    | cons iy b => cases b <;> exact q.elim
end
end Dt
namespace Dt
open PySem PySem.Spec PyProof.Rows L2

/-! ### the readings -/
section
variable (p : Pg) (L : Lk) (K : PySem.W.Frag) (cf : CF)
def tE (c : E) (W : WX) : TE := fun σ H Q => ∃ m v s, Rel L K m H s ∧ EvR K m H σ v ∧ Post L K m H (evE p cf c v s) Q (fun c d H => W c d σ H)
def tL (c : List E) (W : WX) : TA := fun σ H Q => ∃ m v s, Rel L K m H s ∧ EvR K m H σ v ∧ PostL L K m H (evL p cf c v s) Q (fun c d H => W c d σ H)
def tT (c : E) (W : WX) : TT := fun σ H Q => ∃ m v s, Rel L K m H s ∧ EvR K m H σ v ∧ PostG L K m H (evT p cf c v s) (fun _ H' k _ => Q k H') (fun c d H => W c d σ H)
def tO (c : Option E) (W : WX) : TO := fun σ H Q => ∃ m v s, Rel L K m H s ∧ EvR K m H σ v ∧ PostG L K m H (evO p cf c v s) (fun _ H' k _ => Q k H') (fun c d H => W c d σ H)
def tG (t : Tg) (W : WX) : TG := fun x σ H Q => ∃ m v s d, Rel L K m H s ∧ EvR K m H σ v ∧ IsD K m H x d ∧ PostG L K m H (evG p cf t d v s) (fun m' H' v' s' => ∀ σ', EvR K m' H' σ' v' → Q σ' H') (fun c d H => W c d σ H)
end
section
variable {L : Lk} {K : PySem.W.Frag} {m m' : List Addr} {H H' : Hp} {Q : VK} {W : XK}
theorem PostG.mono {α : Type} {r : R α} {Q : List Addr → Hp → α → ST → Prop} (e : Ext m H m' H') (h : PostG L K m H r Q W) : PostG L K m' H' r Q W := by
  cases r with
  | ok d s => exact fun m2 H2 e2 => h m2 H2 (e.trans e2)
  | exc c fs s => exact fun m2 u H2 e2 => h m2 u H2 (e.trans e2)
  | bad => exact h
/-- a value first, any end behind -/
theorem PostG.bindV {α : Type} {r : R D} {f : D → ST → R α} {Q : List Addr → Hp → α → ST → Prop} (h : PostG L K m H (r.bind f) Q W) :
    Post L K m H r (fun u H1 => ∃ m1 d s1, Ext m H m1 H1 ∧ Rel L K m1 H1 s1 ∧ IsD K m1 H1 u d ∧ r = .ok d s1 ∧ PostG L K m1 H1 (f d s1) Q W) W := by
  cases r with
  | ok d s => exact fun m1 u H1 e R i => ⟨m1, d, s, e, R, i, rfl, PostG.mono e h⟩
  | exc c fs s => exact h
  | bad => exact h
theorem PostG.bindG {α β : Type} {r : R β} {f : β → ST → R α} {Q : List Addr → Hp → α → ST → Prop} (h : PostG L K m H (r.bind f) Q W) :
    PostG L K m H r (fun m1 H1 d s1 => Ext m H m1 H1 ∧ Rel L K m1 H1 s1 ∧ PostG L K m1 H1 (f d s1) Q W) W := by
  cases r with
  | ok d s => exact fun m1 H1 e R => ⟨e, R, PostG.mono e h⟩
  | exc c fs s => exact h
  | bad => exact h
theorem Post.bindG {β : Type} {r : R β} {f : β → ST → R D} (h : Post L K m H (r.bind f) Q W) :
    PostG L K m H r (fun m1 H1 d s1 => Ext m H m1 H1 ∧ Rel L K m1 H1 s1 ∧ Post L K m1 H1 (f d s1) Q W) W := by
  cases r with
  | ok d s => exact fun m1 H1 e R => ⟨e, R, Post.mono e h⟩
  | exc c fs s => exact h
  | bad => exact h
theorem PostG.ok {α : Type} {d : α} {s : ST} {Q : List Addr → Hp → α → ST → Prop} (h : PostG L K m H (.ok d s) Q W) (R : Rel L K m H s) : Q m H d s := h m H (.refl _ _) R
/-- where no exception can be: the wish is of no matter -/
theorem Post.nox {r : R D} {W' : XK} (h : Post L K m H r Q W) (hn : ∀ c fs s, r ≠ .exc c fs s) : Post L K m H r Q W' := by
  cases r with
  | ok d s => exact h
  | exc c fs s => exact absurd rfl (hn c fs s)
  | bad => exact h
theorem lift_nox {α : Type} {o : Option α} {s : ST} {c : Nat} {fs : List (Nat × D)} {s' : ST} : lift o s ≠ .exc c fs s' := by
  cases o <;> simp [lift]
theorem bopV_nox {o : Bop} {x y : D} {s : ST} (c : Nat) (fs : List (Nat × D)) (s' : ST) : bopV o x y s ≠ .exc c fs s' := by
  unfold bopV
  repeat' split
  all_goals simp [alloc]
theorem cmpV_nox {o : Cop} {x y : D} {s : ST} (c : Nat) (fs : List (Nat × D)) (s' : ST) : cmpV o x y s ≠ .exc c fs s' := by
  unfold cmpV
  repeat' split
  all_goals simp
theorem idxV_nox {x y : D} {s : ST} (c : Nat) (fs : List (Nat × D)) (s' : ST) : idxV x y s ≠ .exc c fs s' := by
  unfold idxV lift
  repeat' split
  all_goals simp
theorem slcV_nox {x : D} {lo hi : Option Int} {s : ST} (c : Nat) (fs : List (Nat × D)) (s' : ST) : slcV x lo hi s ≠ .exc c fs s' := by
  unfold slcV
  repeat' split
  all_goals simp [alloc]
theorem fldV_nox {x : D} {f : Nat} {s : ST} (c : Nat) (fs : List (Nat × D)) (s' : ST) : fldV x f s ≠ .exc c fs s' := by
  unfold fldV lift
  repeat' split
  all_goals simp
theorem bfV_nox {b : Bf} {xs : List D} {s : ST} (c : Nat) (fs : List (Nat × D)) (s' : ST) : bfV b xs s ≠ .exc c fs s' := by
  unfold bfV
  repeat' split
  all_goals simp [alloc]
theorem bmV_nox {b : Bm} {x : D} {xs : List D} {s : ST} (c : Nat) (fs : List (Nat × D)) (s' : ST) : bmV b x xs s ≠ .exc c fs s' := by
  unfold bmV
  repeat' split
  all_goals simp [alloc]
end

/-! ### what is known of the program -/
/-- what a def promises: its reading, k calls deep -/
def spF (p : Pg) (w : Nat) (L : Lk) (K : PySem.W.Frag) (k f : Nat) : Sp := fun vs H Q E => ∃ m ds s, Rel L K m H s ∧ IsDs K m H vs ds ∧ Post L K m H (callF p w k f ds s) Q E
/-- the names -/
structure CT where
  fns : List (Str × Nat)
  clss : List (Str × Nat)
  excs : List (Str × Nat)
  cons : List (Str × D)
  flds : List (Str × Nat)
  mts : List (Str × Nat)
  free : List Str
structure Facts (p : Pg) (wf : Nat) (L : Lk) (t : CT) (P : Program) (w : World) (K : PySem.W.Frag) (mg : Str → Option Value) (base : Heap) (k : Nat) : Prop where
  cF : ∀ (C : Nat) (c : Cl), p.cls[C]? = some c → L.cF C = c.flds
  fns : ∀ x f, t.fns.lookup x = some f → ∃ a fd ps, mg x = some (.ref a) ∧ PySem.W.keepIn K (.ref a) = true ∧ FnOk P w K mg base (L2.CX P w) (2 * k) a fd ps (spF p wf L K k f) ∧ Binds K fd ps []
  clss : ∀ x C, t.clss.lookup x = some C → mg x = some (.ref (L.cA C)) ∧ ∀ c f, p.cls[C]? = some c → c.init = some f → c.exc = none →
    ∃ a fd ps, Mk K (L.cA C) a ∧ FnOk P w K mg base (L2.CX P w) (2 * k) a fd ps (spF p wf L K k f) ∧ Binds K fd ps []
  own : ∀ (C f : Nat), f ∈ L.cF C → Cls K (L.cA C) ∧ NoAttr K (L.cA C) (L.fN f)
  cons : ∀ x d, t.cons.lookup x = some d → ∃ u v, mg x = some u ∧ RelV v u ∧ ∀ m H, IsD K m H v d
  flds : ∀ x f, t.flds.lookup x = some f → L.fN f = x
  mts : ∀ x i, t.mts.lookup x = some i → ∀ (C : Nat) (c : Cl) (f : Nat), p.cls[C]? = some c → c.meths.lookup i = some f →
    Cls K (L.cA C) ∧ ∃ a fd ps, Meth K (L.cA C) x a ∧ FnOk P w K mg base (L2.CX P w) (2 * k) a fd ps (spF p wf L K k f) ∧ Binds K fd ps [] ∧ ∀ j ∈ L.cF C, L.fN j ≠ x
  free : ∀ x ∈ t.free, mg x = none
/-- where a text is read -/
structure Xok (p : Pg) (wf : Nat) (L : Lk) (t : CT) (k : Nat) (X : Cx) (N : List Str) (sc : Scope) (st : Str → Bool) (W : WX) : Prop where
  fa : Facts p wf L t X.prog X.w X.K X.mg X.base k
  hN : X.N = N
  nd : N.Nodup
  hsc : X.env.scope = sc
  calm : X.calm = true
  room : Room (2 * k + 1) X.A
  tk : Takes X W
  fn : ∀ x, st x = true → (X.fn x = true ∨ sc.names.lookup x = some .local) ∧ Loc sc x

/-! ### syntax that is looked at -/
theorem star_ok {e : Expr} {es : List Expr} {env : Env} (h : ∀ a b, e ≠ .Starred a b) : starEach (e :: es) env = (false, eval e env) :: starEach es env := by
  cases e <;> first
    | rfl
    | exact absurd rfl (h _ _)
theorem stars_ok {es : List Expr} {env : Env} {pos : Pos} (h : ∀ e ∈ es, ∀ a b, e ≠ .Starred a b) : (backTo pos (starEach es env)).any (·.1) = false := by
  induction es with
  | nil => rfl
  | cons e r ih =>
    rw [star_ok (h e List.mem_cons_self)]
    have := ih fun e he => h e (List.mem_cons_of_mem _ he)
    unfold backTo at this ⊢
    simp only [List.map_cons, List.any_cons, Bool.false_or]
    exact this
theorem stars_all {es : List Expr} {env : Env} {pos : Pos} (h : ∀ e ∈ es, ∀ a b, e ≠ .Starred a b) : (backTo pos (starEach es env)).all (fun x => !x.1) = true := by
  induction es with
  | nil => rfl
  | cons e r ih =>
    rw [star_ok (h e List.mem_cons_self)]
    have := ih fun e he => h e (List.mem_cons_of_mem _ he)
    unfold backTo at this ⊢
    simp only [List.map_cons, List.all_cons, Bool.not_false, Bool.true_and]
    exact this
/-- an attribute's base -/
def okBase : Expr → Bool
  | .Name .. => true
  | .Attribute .. => true
  | .Subscript .. => true
  | .Call _ (_ :: _) _ _ => true
  | .Call (.Attribute ..) _ _ _ => true
  | .Constant .. => true
  | _ => false
theorem base_ok {e : Expr} {f : Str} {env : Env} {whole : Sem Value} (h : okBase e = true) : attributeBase e f env whole = whole := by
  unfold okBase at h
  split at h <;> first | rfl | (cases h; done) | skip
  rename_i g _ _ _ _
  cases g <;> rfl
def isComp : Expr → Bool
  | .ListComp .. => true
  | .SetComp .. => true
  | .DictComp .. => true
  | _ => false
theorem swaps_ok {e : Expr} {tg : Option Expr} {l : Nat} {env : Env} (h : isComp e = false) : swapsWith e tg l env = pure false := by
  cases e <;> first | rfl | cases h
def isTst : Expr → Bool
  | .UnaryOp .Not _ _ => true
  | .BoolOp .. => true
  | .IfExp .. => true
  | .Compare .. => true
  | _ => false
theorem true_ok {e : Expr} {env : Env} (h : isTst e = false) (whole : Sem Value) : isTrue e env whole = (do let v ← whole; standAt e.pos; holding [v] (truthy v)) := by
  cases e <;> first | rfl | cases h | skip
  rename_i op a b
  cases op <;> first | rfl | cases h

/-! ### calls, with the wish at the slots -/
section
variable {X : Cx} {CX : CXT} {k : Nat} {f C : Addr} {fd : FuncData} {ps : List Str} {sp : Sp} {E : L2.St → XK} {x m : Str} {p pos apos : Pos} {e o : Expr} {es : List Expr} {ta : TE} {t : TA}
theorem pe_call0S (F : FnOk X.prog X.w X.K X.mg X.base CX k f fd ps sp) (hr : Room k X.A) (hg : Gl X x) (hm : X.mg x = some (.ref f)) (hk : PySem.W.keepIn X.K (.ref f) = true) (hb : Binds X.K fd ps []) (hx : ∀ σ, PassesAt CX X σ (E σ))
    (hdb : (x == ("__debug__" : Str)) = false) : PE X (.Call (.Name x p) [] [] pos) (tCallS sp E tNil) := by
  refine ⟨fun pins s σ H Q I h => ?_⟩
  refine wpAny_Call_Name_kw (ld_glob I hg hm ?_ hdb)
  exact PySem.W.callWith_K0 I.kIn hk (run_fnS (us := []) F hr hb (hx σ) I .nil h)
/-- o.m(..), by the class that the object is of -/
def tMethS (K : PySem.W.Frag) (m : Str) (R : Addr → Addr → FuncData → List Str → Sp → Prop) (E : L2.St → XK) (ta : TE) (t : TA) : TE := fun σ H Q => ta σ H fun x H1 => ∃ a dx fs C f fd ps sp, x = .ref a ∧ H1 a = some (.ins C dx fs) ∧ fs.lookup m = none ∧ R C f fd ps sp ∧
  t σ H1 fun vs H2 => sp (x :: vs) H2 Q (E σ)
theorem pe_methS {pl : Sem Bool} {R : Addr → Addr → FuncData → List Str → Sp → Prop} (he : PE X o ta) (hR : ∀ C f fd ps sp, R C f fd ps sp → Cls X.K C ∧ Meth X.K C m f ∧ FnOk X.prog X.w X.K X.mg X.base CX k f fd ps sp ∧ Binds X.K fd ps [])
    (hr : Room k X.A) (hx : ∀ σ, PassesAt CX X σ (E σ)) (ha : PA X (e :: es) t)
    (hst : starEach (e :: es) X.env = (false, eval e X.env) :: starEach es X.env) (hpl : (backTo pos (starEach es X.env)).any (·.1) = false)
    (ht : eval (.Call (.Attribute o m apos) (e :: es) [] pos) X.env = (do
      let ov ← eval o X.env
      standAt apos.atName
      let (f, first) ← holding [ov] (getMethod ov m pl)
      callWith pos f first (backTo pos (starEach (e :: es) X.env)) (backToKw pos (keywordEach [] X.env)))) :
    PE X (.Call (.Attribute o m apos) (e :: es) [] pos) (tMethS X.K m R E ta t) := by
  refine ⟨fun pins s σ H Q I h => ?_⟩
  refine PySem.W.methodCall_KW (pl := pl) (thn (he.run pins s σ H _ I h) fun u s1 ⟨x, H1, I1, rx, a, dx, fs, C, f, fd, ps, sp, ex, ea, l, hC, q⟩ => ?_) ht
  obtain ⟨c, hm, F, hb⟩ := hR C f fd ps sp hC
  subst ex
  obtain rfl : u = Value.ref a := rx
  refine getmeth_ok I1 ea c hm l ?_
  refine PySem.W.callWith_K (first := [.ref a]) (h₀ := X.base) I.ok.mod.kin hm.kp (thn (ha.run pos pins s1 σ H1 _ I1 q) fun us s2 ⟨vs, H2, I2, r, q2⟩ => ⟨I2.kIn, ?_⟩) hst hpl
  exact run_fnS (us := .ref a :: us) (vs := .ref a :: vs) F hr hb (hx σ) I2 (.cons rfl r) q2
theorem pe_meth0S {pl : Sem Bool} {R : Addr → Addr → FuncData → List Str → Sp → Prop} (he : PE X o ta) (hR : ∀ C f fd ps sp, R C f fd ps sp → Cls X.K C ∧ Meth X.K C m f ∧ FnOk X.prog X.w X.K X.mg X.base CX k f fd ps sp ∧ Binds X.K fd ps [])
    (hr : Room k X.A) (hx : ∀ σ, PassesAt CX X σ (E σ))
    (ht : eval (.Call (.Attribute o m apos) [] [] pos) X.env = (do
      let ov ← eval o X.env
      standAt apos.atName
      let (f, first) ← holding [ov] (getMethod ov m pl)
      callWith pos f first (backTo pos (starEach [] X.env)) (backToKw pos (keywordEach [] X.env)))) :
    PE X (.Call (.Attribute o m apos) [] [] pos) (tMethS X.K m R E ta tNil) := by
  refine ⟨fun pins s σ H Q I h => ?_⟩
  refine PySem.W.methodCall_KW (pl := pl) (thn (he.run pins s σ H _ I h) fun u s1 ⟨x, H1, I1, rx, a, dx, fs, C, f, fd, ps, sp, ex, ea, l, hC, q⟩ => ?_) ht
  obtain ⟨c, hm, F, hb⟩ := hR C f fd ps sp hC
  subst ex
  obtain rfl : u = Value.ref a := rx
  refine getmeth_ok I1 ea c hm l ?_
  exact PySem.W.callWith_K0 (first := [.ref a]) I1.kIn hm.kp (run_fnS (us := [.ref a]) (vs := [.ref a]) F hr hb (hx σ) I1 (.cons rfl .nil) q)
/-- C(..) -/
def tMakeS (C : Addr) (sp : Sp) (E : L2.St → XK) (t : TA) : TE := fun σ H Q => t σ H fun vs H1 => ∀ x dx, H1 x = none → H1 dx = none → dx ≠ x →
  sp (.ref x :: vs) (upd (upd H1 dx (.own x)) x (.ins C dx [])) (fun v H2 => v = .non ∧ Q (.ref x) H2) (E σ)
theorem run_makeS {pins : List (Addr × Obj)} {σ : L2.St} {H : Hp} {s : Shared} {Q : VK} {us : List Value} {vs : List V} (M : Mk X.K C f) (F : FnOk X.prog X.w X.K X.mg X.base CX k f fd ps sp) (hr : Room (k + 1) X.A) (hb : Binds X.K fd ps [])
    (hx : PassesAt CX X σ (E σ)) (I : L2.Inv X pins σ H s) (r : Vals vs us)
    (h : ∀ x dx, H x = none → H dx = none → dx ≠ x → sp (.ref x :: vs) (upd (upd H dx (.own x)) x (.ins C dx [])) (fun v H2 => v = .non ∧ Q (.ref x) H2) (E σ)) :
    wpAny (model X.prog X.w) X.A (call (.ref C) us) (EP X pins σ Q) X.xe s := by
  have hq := h (s.heap.objs.size + 1) s.heap.objs.size (I.hok.fresh (Nat.le_succ _)) (I.hok.fresh (Nat.le_refl _)) (Nat.ne_of_lt (Nat.lt_succ_self _))
  have I2 := Inv.made (C := C) I
  have r2 : Vals (V.ref (s.heap.objs.size + 1) :: vs) (Value.ref (s.heap.objs.size + 1) :: us) := .cons rfl r
  have hl : (Value.ref (s.heap.objs.size + 1) :: us).length = ps.length := by
    have e := r2.length
    rw [F.len _ _ _ _ hq] at e
    exact e.symm
  have b := hb _ (Value.ref (s.heap.objs.size + 1) :: us) I2.kIn (by rw [List.append_nil]; exact hl)
  rw [List.append_nil] at b
  refine wpAny_call (make_map (f := f) I.kIn M.makes M.init (beq_iff_eq.mp M.fn) (codeAny_mono (F.run _ X.stack _ _ ⟨Value.ref (s.heap.objs.size + 1) :: us, []⟩ (Value.ref (s.heap.objs.size + 1) :: us) _ _ (E σ) (hr.make C us [])
    (I2.env0.make C us []) b r2 hq) fun r s' hq' => ?_))
  cases r with
  | error e => exact hx pins _ _ e s' I2 hq'
  | ok fl =>
    cases fl with
    | ret u =>
      obtain ⟨v, H', I3, rv, ev, q3⟩ := I2.after hq'
      subst ev
      exact ⟨rv, ⟨V.ref (s.heap.objs.size + 1), H', I3, rfl, q3⟩⟩
    | next => exact False.elim hq'
    | brk => exact False.elim hq'
    | cont => exact False.elim hq'
theorem pe_makeS (M : Mk X.K C f) (F : FnOk X.prog X.w X.K X.mg X.base CX k f fd ps sp) (hr : Room (k + 1) X.A) (hg : Gl X x) (hm : X.mg x = some (.ref C)) (hb : Binds X.K fd ps []) (hx : ∀ σ, PassesAt CX X σ (E σ))
    (ha : PA X (e :: es) t) (hdb : (x == ("__debug__" : Str)) = false) (he : starEach (e :: es) X.env = (false, eval e X.env) :: starEach es X.env) (hpl : (backTo pos (starEach es X.env)).any (·.1) = false) :
    PE X (.Call (.Name x p) (e :: es) [] pos) (tMakeS C sp E t) := by
  refine ⟨fun pins s σ H Q I h => ?_⟩
  refine wpAny_Call_Name_kw (ld_glob I hg hm ?_ hdb)
  refine PySem.W.callWith_K (h₀ := X.base) I.ok.mod.kin M.kp (thn (ha.run pos pins s σ H _ I h) fun us s1 ⟨vs, H1, I1, r, q⟩ => ⟨I1.kIn, ?_⟩) he hpl
  exact run_makeS M F hr hb (hx σ) I1 r q
theorem pe_make0S (M : Mk X.K C f) (F : FnOk X.prog X.w X.K X.mg X.base CX k f fd ps sp) (hr : Room (k + 1) X.A) (hg : Gl X x) (hm : X.mg x = some (.ref C)) (hb : Binds X.K fd ps []) (hx : ∀ σ, PassesAt CX X σ (E σ))
    (hdb : (x == ("__debug__" : Str)) = false) : PE X (.Call (.Name x p) [] [] pos) (tMakeS C sp E tNil) := by
  refine ⟨fun pins s σ H Q I h => ?_⟩
  refine wpAny_Call_Name_kw (ld_glob I hg hm ?_ hdb)
  exact PySem.W.callWith_K0 I.kIn M.kp (run_makeS (us := []) M F hr hb (hx σ) I .nil h)
end
end Dt
namespace Dt
open PySem PySem.Spec PyProof.Rows L2
theorem bind_assoc {α β γ : Type} (r : R α) (f : α → ST → R β) (g : β → ST → R γ) : (r.bind f).bind g = r.bind fun a s => (f a s).bind g := by cases r <;> rfl
section
variable {p : Pg} {cf : CF}
theorem evT_and {a b : E} {v : EV} {s : ST} : evT p cf (.and a b) v s = (evT p cf a v s).bind fun k s => if k = true then evT p cf b v s else .ok false s := by
  show ((evE p cf a v s).bind fun x s => (lift (truth s x) s).bind fun k s => if k = true then evE p cf b v s else .ok x s).bind _ = ((evE p cf a v s).bind _).bind _
  rw [bind_assoc, bind_assoc]
  congr 1
  funext x s1
  cases e : truth s1 x with
  | none => rfl
  | some j =>
    cases j with
    | true => rfl
    | false =>
      show lift (truth s1 x) s1 = _
      rw [e]; rfl
theorem evT_or {a b : E} {v : EV} {s : ST} : evT p cf (.or a b) v s = (evT p cf a v s).bind fun k s => if k = true then .ok true s else evT p cf b v s := by
  show ((evE p cf a v s).bind fun x s => (lift (truth s x) s).bind fun k s => if k = true then .ok x s else evE p cf b v s).bind _ = ((evE p cf a v s).bind _).bind _
  rw [bind_assoc, bind_assoc]
  congr 1
  funext x s1
  cases e : truth s1 x with
  | none => rfl
  | some j =>
    cases j with
    | false => rfl
    | true =>
      show lift (truth s1 x) s1 = _
      rw [e]; rfl
theorem evT_not {a : E} {v : EV} {s : ST} : evT p cf (.not a) v s = (evT p cf a v s).bind fun k s => .ok (!k) s := by
  show ((evE p cf a v s).bind fun x s => (lift (truth s x) s).bind fun k s => (.ok (D.bl (!k)) s : R D)).bind _ = ((evE p cf a v s).bind _).bind _
  rw [bind_assoc, bind_assoc]
  congr 1
  funext x s1
  cases e : truth s1 x <;> rfl
theorem evE_ife {c a b : E} {v : EV} {s : ST} : evE p cf (.ife c a b) v s = (evT p cf c v s).bind fun k s => if k = true then evE p cf a v s else evE p cf b v s := by
  show _ = ((evE p cf c v s).bind _).bind _
  rw [bind_assoc]
  rfl
end
section
variable {p : Pg} {wf : Nat} {L : Lk} {t : CT} {k : Nat} {X : Cx} {N : List Str} {sc : Scope} {W : WX} {pos : Pos} {a b c e o : Expr} {ca cb cc ce co : E} {cf : CF}
variable {es : List Expr} {ces : List E}
/-- to a test from a value -/
theorem tT_of {σ : L2.St} {H : Hp} {Q : Bool → Hp → Prop} {c : E} (h : tT p L X.K cf c W σ H Q) :
    tE p L X.K cf c W σ H (fun x H1 => ∃ m d s, Rel L X.K m H1 s ∧ IsD X.K m H1 x d ∧ ∃ j, truth s d = some j ∧ Q j H1) := by
  obtain ⟨m, v, s, R, E, h⟩ := h
  refine ⟨m, v, s, R, E, (PostG.bindV h).imp (fun u H1 ⟨m1, d, s1, e1, R1, i1, er, q⟩ => ?_) fun _ _ _ z => z⟩
  cases ht : truth s1 d with
  | none => rw [ht] at q; exact q.elim
  | some j => rw [ht] at q; exact ⟨m1, d, s1, R1, i1, j, ht, q.ok R1⟩
theorem tru_of {K : PySem.W.Frag} {m : List Addr} {H : Hp} {s : ST} {x : V} {d : D} {j : Bool} (R : Rel L K m H s) (i : IsD K m H x d) (h : truth s d = some j) : TruV K x H j := by
  cases i with
  | non => simp only [truth, Option.some.injEq] at h; subst h; rfl
  | bl b => simp only [truth, Option.some.injEq] at h; subst h; rfl
  | int b => simp only [truth, Option.some.injEq] at h; subst h; rfl
  | str b =>
    simp only [truth] at h
    split at h
    · rename_i hz; cases h; exact ⟨by rw [LN_eq]; exact hz, rfl⟩
    · cases h
  | @tup a vs ds h1 h2 =>
    simp only [truth, Option.some.injEq] at h; subst h
    refine .inr (.inl ⟨vs, h1.sq, ?_⟩)
    have := h2.len
    cases vs <;> cases ds <;> simp_all
  | @rol a vs ds h1 h2 =>
    simp only [truth, Option.some.injEq] at h; subst h
    refine .inl ⟨vs, h1.sq, ?_⟩
    have := h2.len
    cases vs <;> cases ds <;> simp_all
  | @ref a l ha =>
    simp only [truth] at h
    split at h
    · rename_i xs e
      cases h
      obtain ⟨vs, g1, g2⟩ := R.at_ l _ a e ha
      refine .inl ⟨vs, .of g1, ?_⟩
      have := g2.len
      cases vs <;> cases xs <;> simp_all
    · cases h
/-- a value's test -/
theorem s_truth (ha : PE X a (tE p L X.K cf ca W)) (ht : isTst a = false) : PT X a (tT p L X.K cf ca W) := by
  refine ⟨fun pins s σ H Q I h => ?_⟩
  refine (pt_truth ha (true_ok ht)).run pins s σ H Q I ?_
  obtain ⟨m, v, st, R, E, q⟩ := tT_of h
  exact ⟨m, v, st, R, E, q.imp (fun x H1 ⟨m1, d, s1, R1, i1, j, hj, q1⟩ => ⟨j, tru_of R1 i1 hj, q1⟩) fun _ _ _ z => z⟩
/-- a test of a comparison -/
theorem s_testC {r : TE} (hr : PT X e (tTest r)) (hb : ∀ v s d s', evE p cf ca v s = .ok d s' → ∃ j, d = .bl j) (hi : ∀ σ H Q, tE p L X.K cf ca W σ H Q → r σ H Q) : PT X e (tT p L X.K cf ca W) := by
  refine ⟨fun pins s σ H Q I h => hr.run pins s σ H Q I ?_⟩
  refine hi σ H _ ?_
  obtain ⟨m, v, st, R, E, q⟩ := h
  have q : PostG L X.K m H ((evE p cf ca v st).bind fun x s => lift (truth s x) s) _ _ := q
  cases er : evE p cf ca v st with
  | bad => rw [er] at q; exact q.elim
  | exc c fs s1 =>
    refine ⟨m, v, st, R, E, ?_⟩
    rw [er] at q ⊢
    exact q
  | ok d s1 =>
    refine ⟨m, v, st, R, E, ?_⟩
    rw [er] at q ⊢
    obtain ⟨j, rfl⟩ := hb v st d s1 er
    intro m1 u H1 e1 R1 i1
    cases i1
    exact ⟨j, rfl, q m1 H1 e1 R1⟩

/-! ### names, constants -/
theorem s_var {i : Nat} {x : Str} (hN : X.N[i]? = some x) (hv : Vis X.env.scope x) (h1 : (x == ("__debug__" : Str)) = false) (h2 : (x == ("__classdict__" : Str)) = false) : PE X (.Name x pos) (tE p L X.K cf (.var i) W) := by
  refine ⟨fun pins s σ H Q I h => (pe_var hN hv h1 h2).run pins s σ H Q I ?_⟩
  obtain ⟨m, v, st, R, E, q⟩ := h
  have q : Post L X.K m H (lift (getE v i) st) Q _ := q
  cases e : getE v i with
  | none => rw [e] at q; exact q.elim
  | some d =>
    rw [e] at q
    obtain ⟨u, hu, iu⟩ := E.at_ i d e
    exact ⟨u, hu, q.ok R iu⟩
theorem s_con {d : D} {u : V} (hu : ∀ m H, IsD X.K m H u d) (h : PE X e (tC u)) : PE X e (tE p L X.K cf (.con d) W) := by
  refine ⟨fun pins s σ H Q I hq => h.run pins s σ H Q I ?_⟩
  obtain ⟨m, v, st, R, E, q⟩ := hq
  exact Post.ok q R (hu m H)

/-! ### operators -/
/-- two values, an operation -/
theorem two {g : D → D → M D} {σ : L2.St} {H : Hp} {Q : VK} {r : R2} (hg : ∀ x y s c fs s', g x y s ≠ .exc c fs s') (hr : ∀ x y H Q, rD L X.K g x y H Q → r x y H Q)
    (h : ∃ m v s, Rel L X.K m H s ∧ EvR X.K m H σ v ∧ Post L X.K m H ((evE p cf ca v s).bind fun x s => (evE p cf cb v s).bind fun y s => g x y s) Q (fun c d H => W c d σ H)) :
    tOp r (tE p L X.K cf ca W) (tE p L X.K cf cb W) σ H Q := by
  obtain ⟨m, v, st, R, E, q⟩ := h
  refine ⟨m, v, st, R, E, (Post.bindV q).imp (fun x H1 ⟨m1, d1, s1, e1, R1, i1, er1, q1⟩ => ?_) fun _ _ _ z => z⟩
  refine ⟨m1, v, s1, R1, E.mono e1, (Post.bindV q1).imp (fun y H2 ⟨m2, d2, s2, e2, R2, i2, er2, q2⟩ => ?_) fun _ _ _ z => z⟩
  exact hr _ _ _ _ ⟨m2, d1, d2, s2, R2, i1.mono e2, i2, q2.nox fun c fs s => hg _ _ _ c fs s⟩
theorem s_bop (ob : Bop) (ha : PE X a (tE p L X.K cf ca W)) (hb : PE X b (tE p L X.K cf cb W)) : PE X (.BinOp a (bopO ob) b pos) (tE p L X.K cf (.bop ob ca cb) W) :=
  ⟨fun pins s σ H Q I h => (pe_op (op_bop (L := L) ob) ha hb).run pins s σ H Q I (two (fun x y s => bopV_nox) (fun _ _ _ _ z => z) h)⟩
theorem mark_ok {op : CmpOp} {b : Expr} (h : ∀ x y z, b ≠ .Set x y z) : behindInMarks op b = false := by
  cases b <;> first | rfl | exact absurd rfl (h _ _ _)
theorem cmpV_bl {o : Cop} {x y : D} {s : ST} {d : D} {s' : ST} (h : cmpV o x y s = .ok d s') : ∃ j, d = .bl j := by
  unfold cmpV at h
  repeat' split at h
  all_goals first | (cases h; done) | (injection h with h1 h2; subst h1; exact ⟨_, rfl⟩)
theorem s_cmp (hu : X.A.units + 65 < cLine) (oc : Cop) (ha : PE X a (tE p L X.K cf ca W)) (hb : PE X b (tE p L X.K cf cb W)) (hm : ∀ x y z, b ≠ .Set x y z) : PE X (.Compare a [copO oc] [b] pos) (tE p L X.K cf (.cmp oc ca cb) W) :=
  ⟨fun pins s σ H Q I h => (pe_cmpR (op_cop (L := L) hu oc) ha hb (mark_ok hm)).run pins s σ H Q I (two (fun x y s => cmpV_nox) (fun _ _ _ _ z => z) h)⟩
theorem t_cmp (hu : X.A.units + 65 < cLine) (oc : Cop) (ha : PE X a (tE p L X.K cf ca W)) (hb : PE X b (tE p L X.K cf cb W)) (hm : ∀ x y z, b ≠ .Set x y z) : PT X (.Compare a [copO oc] [b] pos) (tT p L X.K cf (.cmp oc ca cb) W) := by
  refine s_testC (pt_cmpR (op_cop (L := L) hu oc) ha hb (mark_ok hm)) (fun v s d s' h => ?_) fun σ H Q h => two (fun x y s => cmpV_nox) (fun _ _ _ _ z => z) h
  have h : (evE p cf ca v s).bind (fun x s => (evE p cf cb v s).bind fun y s => cmpV oc x y s) = .ok d s' := h
  cases e1 : evE p cf ca v s with
  | bad => rw [e1] at h; cases h
  | exc _ _ _ => rw [e1] at h; cases h
  | ok x s1 =>
    rw [e1] at h
    have h : (evE p cf cb v s1).bind (fun y s => cmpV oc x y s) = .ok d s' := h
    cases e2 : evE p cf cb v s1 with
    | bad => rw [e2] at h; cases h
    | exc _ _ _ => rw [e2] at h; cases h
    | ok y s2 =>
      rw [e2] at h
      exact cmpV_bl h
theorem chain_arm {oc od : Cop} {σ : L2.St} {H : Hp} {Q : VK} (h : tE p L X.K cf (.chain oc od ca cb cc) W σ H Q) :
    tChain (rD L X.K (cmpV oc)) (rD L X.K (cmpV od)) (tE p L X.K cf ca W) (tE p L X.K cf cb W) (tE p L X.K cf cc W) σ H Q := by
  obtain ⟨m, v, st, R, E, q⟩ := h
  refine ⟨m, v, st, R, E, (Post.bindV q).imp (fun x H1 ⟨m1, d1, s1, e1, R1, i1, er1, q1⟩ => ?_) fun _ _ _ z => z⟩
  refine ⟨m1, v, s1, R1, E.mono e1, (Post.bindV q1).imp (fun y H2 ⟨m2, d2, s2, e2, R2, i2, er2, q2⟩ => ?_) fun _ _ _ z => z⟩
  refine ⟨m2, d1, d2, s2, R2, i1.mono e2, i2, ?_⟩
  refine ((Post.bindV q2).nox fun c fs s => cmpV_nox c fs s).imp (fun z H3 ⟨m3, d3, s3, e3, R3, i3, er3, q3⟩ => ?_) fun _ _ _ z => z
  obtain ⟨j, rfl⟩ := cmpV_bl er3
  cases i3
  refine ⟨j, rfl, ?_⟩
  cases j with
  | true =>
    refine iteT ?_
    refine ⟨m3, v, s3, R3, ((E.mono e1).mono e2).mono e3, (Post.bindV q3).imp (fun w H4 ⟨m4, d4, s4, e4, R4, i4, er4, q4⟩ => ?_) fun _ _ _ z => z⟩
    exact ⟨m4, d2, d4, s4, R4, (i2.mono e3).mono e4, i4, q4.nox fun c fs s => cmpV_nox c fs s⟩
  | false => exact iteF (Post.ok q3 R3 (.bl _))
theorem marks_ok {o q : CmpOp} {b c : Expr} (hc : ∀ x y z, c ≠ .Set x y z) : lastMarks [o, q] [b, c] = false := mark_ok hc
theorem s_chain (hu : X.A.units + 65 < cLine) (oc od : Cop) (ha : PE X a (tE p L X.K cf ca W)) (hb : PE X b (tE p L X.K cf cb W)) (hc : PE X c (tE p L X.K cf cc W)) (hm : ∀ x y z, c ≠ .Set x y z) :
    PE X (.Compare a [copO oc, copO od] [b, c] pos) (tE p L X.K cf (.chain oc od ca cb cc) W) :=
  ⟨fun pins s σ H Q I h => (pe_chain (op_cop (L := L) hu oc) (op_cop (L := L) hu od) ha hb hc (marks_ok hm)).run pins s σ H Q I (chain_arm h)⟩
theorem t_chain (hu : X.A.units + 65 < cLine) (oc od : Cop) (ha : PE X a (tE p L X.K cf ca W)) (hb : PE X b (tE p L X.K cf cb W)) (hc : PE X c (tE p L X.K cf cc W)) (hm : ∀ x y z, c ≠ .Set x y z) :
    PT X (.Compare a [copO oc, copO od] [b, c] pos) (tT p L X.K cf (.chain oc od ca cb cc) W) := by
  refine s_testC (pt_chain (op_cop (L := L) hu oc) (op_cop (L := L) hu od) ha hb hc (marks_ok hm)) (fun v s d s' h => ?_) fun σ H Q h => chain_arm h
  have h : (evE p cf ca v s).bind (fun x s => (evE p cf cb v s).bind fun y s => (cmpV oc x y s).bind fun k s => match k with
    | .bl true => (evE p cf cc v s).bind fun z s => cmpV od y z s
    | .bl false => .ok (.bl false) s
    | _ => .bad) = .ok d s' := h
  cases e1 : evE p cf ca v s with
  | bad => rw [e1] at h; cases h
  | exc _ _ _ => rw [e1] at h; cases h
  | ok x s1 =>
    rw [e1, bind_ok] at h
    cases e2 : evE p cf cb v s1 with
    | bad => rw [e2] at h; cases h
    | exc _ _ _ => rw [e2] at h; cases h
    | ok y s2 =>
      rw [e2, bind_ok] at h
      cases e3 : cmpV oc x y s2 with
      | bad => rw [e3] at h; cases h
      | exc _ _ _ => rw [e3] at h; cases h
      | ok z s3 =>
        rw [e3, bind_ok] at h
        obtain ⟨j, rfl⟩ := cmpV_bl e3
        cases j with
        | false => simp only at h; injection h with h1 h2; exact ⟨_, h1.symm⟩
        | true =>
          simp only at h
          cases e4 : evE p cf cc v s3 with
          | bad => rw [e4] at h; cases h
          | exc _ _ _ => rw [e4] at h; cases h
          | ok u s4 =>
            rw [e4, bind_ok] at h
            exact cmpV_bl h
theorem s_neg (ha : PE X a (tE p L X.K cf ca W)) : PE X (.UnaryOp .USub a pos) (tE p L X.K cf (.neg ca) W) := by
  refine ⟨fun pins s σ H Q I h => (pe_un un_neg ha).run pins s σ H Q I ?_⟩
  obtain ⟨m, v, st, R, E, q⟩ := h
  refine ⟨m, v, st, R, E, (Post.bindV q).imp (fun x H1 ⟨m1, d1, s1, e1, R1, i1, er1, q1⟩ => ?_) fun _ _ _ z => z⟩
  cases i1 with
  | int i => exact ⟨i, rfl, Post.ok q1 R1 (.int _)⟩
  | _ => exact q1.elim
/-! ### and, or, not, if -/
theorem tru_lift {m : List Addr} {H : Hp} {x : V} {d : D} {s : ST} {f : Bool → ST → R D} {Q : VK} {W' : XK} (R : Rel L X.K m H s) (i : IsD X.K m H x d) (q : Post L X.K m H ((lift (truth s d) s).bind f) Q W') :
    ∃ j, TruV X.K x H j ∧ Post L X.K m H (f j s) Q W' := by
  cases e : truth s d with
  | none => rw [e] at q; exact q.elim
  | some j => rw [e] at q; exact ⟨j, tru_of R i e, q⟩
theorem s_and {rest : List Expr} (ha : PE X a (tE p L X.K cf ca W)) (hb : PE X (.BoolOp .And (b :: rest) pos) (tE p L X.K cf cb W)) : PE X (.BoolOp .And (a :: b :: rest) pos) (tE p L X.K cf (.and ca cb) W) := by
  refine ⟨fun pins s σ H Q I h => (pe_andT ha hb).run pins s σ H Q I ?_⟩
  obtain ⟨m, v, st, R, E, q⟩ := h
  refine ⟨m, v, st, R, E, (Post.bindV q).imp (fun x H1 ⟨m1, d1, s1, e1, R1, i1, er1, q1⟩ => ?_) fun _ _ _ z => z⟩
  obtain ⟨j, hj, q2⟩ := tru_lift R1 i1 q1
  refine ⟨j, hj, ?_⟩
  cases j with
  | true => exact iteT ⟨m1, v, s1, R1, E.mono e1, q2⟩
  | false => exact iteF (Post.ok q2 R1 i1)
theorem s_or {rest : List Expr} (ha : PE X a (tE p L X.K cf ca W)) (hb : PE X (.BoolOp .Or (b :: rest) pos) (tE p L X.K cf cb W)) : PE X (.BoolOp .Or (a :: b :: rest) pos) (tE p L X.K cf (.or ca cb) W) := by
  refine ⟨fun pins s σ H Q I h => (pe_orT ha hb).run pins s σ H Q I ?_⟩
  obtain ⟨m, v, st, R, E, q⟩ := h
  refine ⟨m, v, st, R, E, (Post.bindV q).imp (fun x H1 ⟨m1, d1, s1, e1, R1, i1, er1, q1⟩ => ?_) fun _ _ _ z => z⟩
  obtain ⟨j, hj, q2⟩ := tru_lift R1 i1 q1
  refine ⟨j, hj, ?_⟩
  cases j with
  | false => exact iteF ⟨m1, v, s1, R1, E.mono e1, q2⟩
  | true => exact iteT (Post.ok q2 R1 i1)
theorem s_not (ha : PE X a (tE p L X.K cf ca W)) : PE X (.UnaryOp .Not a pos) (tE p L X.K cf (.not ca) W) := by
  refine ⟨fun pins s σ H Q I h => (pe_notT ha).run pins s σ H Q I ?_⟩
  obtain ⟨m, v, st, R, E, q⟩ := h
  refine ⟨m, v, st, R, E, (Post.bindV q).imp (fun x H1 ⟨m1, d1, s1, e1, R1, i1, er1, q1⟩ => ?_) fun _ _ _ z => z⟩
  obtain ⟨j, hj, q2⟩ := tru_lift R1 i1 q1
  exact ⟨j, hj, Post.ok q2 R1 (.bl _)⟩
theorem t_and {rest : List Expr} (ha : PT X a (tT p L X.K cf ca W)) (hb : PW X (.BoolOp .And (b :: rest) pos) (tT p L X.K cf cb W)) : PW X (.BoolOp .And (a :: b :: rest) pos) (tT p L X.K cf (.and ca cb) W) := by
  refine ⟨fun wh pins s σ H Q I h => (pw_and ha hb).run wh pins s σ H Q I ?_⟩
  obtain ⟨m, v, st, R, E, q⟩ := h
  refine ⟨m, v, st, R, E, ?_⟩
  rw [evT_and] at q
  have q := PostG.bindG q
  cases er : evT p cf ca v st with
  | bad => rw [er] at q; exact q.elim
  | exc _ _ _ => rw [er] at q; exact q
  | ok j s1 =>
    rw [er] at q
    intro m1 H1 e1 R1
    obtain ⟨e2, R2, q2⟩ := q m1 H1 e1 R1
    cases j with
    | true => exact iteT ⟨m1, v, s1, R1, E.mono e1, q2⟩
    | false => exact iteF (PostG.ok q2 R1)
theorem t_or {rest : List Expr} (ha : PT X a (tT p L X.K cf ca W)) (hb : PW X (.BoolOp .Or (b :: rest) pos) (tT p L X.K cf cb W)) : PW X (.BoolOp .Or (a :: b :: rest) pos) (tT p L X.K cf (.or ca cb) W) := by
  refine ⟨fun wh pins s σ H Q I h => (pw_or ha hb).run wh pins s σ H Q I ?_⟩
  obtain ⟨m, v, st, R, E, q⟩ := h
  refine ⟨m, v, st, R, E, ?_⟩
  rw [evT_or] at q
  have q := PostG.bindG q
  cases er : evT p cf ca v st with
  | bad => rw [er] at q; exact q.elim
  | exc _ _ _ => rw [er] at q; exact q
  | ok j s1 =>
    rw [er] at q
    intro m1 H1 e1 R1
    obtain ⟨e2, R2, q2⟩ := q m1 H1 e1 R1
    cases j with
    | false => exact iteF ⟨m1, v, s1, R1, E.mono e1, q2⟩
    | true => exact iteT (PostG.ok q2 R1)
theorem t_not (ha : PT X a (tT p L X.K cf ca W)) : PT X (.UnaryOp .Not a pos) (tT p L X.K cf (.not ca) W) := by
  refine ⟨fun pins s σ H Q I h => (pt_not ha).run pins s σ H Q I ?_⟩
  obtain ⟨m, v, st, R, E, q⟩ := h
  refine ⟨m, v, st, R, E, ?_⟩
  rw [evT_not] at q
  have q := PostG.bindG q
  cases er : evT p cf ca v st with
  | bad => rw [er] at q; exact q.elim
  | exc _ _ _ => rw [er] at q; exact q
  | ok j s1 =>
    rw [er] at q
    intro m1 H1 e1 R1
    obtain ⟨e2, R2, q2⟩ := q m1 H1 e1 R1
    exact PostG.ok q2 R1
theorem s_ife (hc : PT X c (tT p L X.K cf cc W)) (ha : PE X a (tE p L X.K cf ca W)) (hb : PE X b (tE p L X.K cf cb W)) : PE X (.IfExp c a b pos) (tE p L X.K cf (.ife cc ca cb) W) := by
  refine ⟨fun pins s σ H Q I h => (pe_ifExp hc ha hb).run pins s σ H Q I ?_⟩
  obtain ⟨m, v, st, R, E, q⟩ := h
  refine ⟨m, v, st, R, E, ?_⟩
  rw [evE_ife] at q
  have q := Post.bindG q
  cases er : evT p cf cc v st with
  | bad => rw [er] at q; exact q.elim
  | exc _ _ _ => rw [er] at q; exact q
  | ok j s1 =>
    rw [er] at q
    intro m1 H1 e1 R1
    obtain ⟨e2, R2, q2⟩ := q m1 H1 e1 R1
    cases j with
    | true => exact iteT ⟨m1, v, s1, R1, E.mono e1, q2⟩
    | false => exact iteF ⟨m1, v, s1, R1, E.mono e1, q2⟩

/-! ### lists of expressions, displays -/
theorem s_nil : PA X [] (tL p L X.K cf [] W) := by
  refine ⟨fun pos pins s σ H Q I h => pa_nil.run pos pins s σ H Q I ?_⟩
  obtain ⟨m, v, st, R, E, q⟩ := h
  exact q m [] H (.refl _ _) R .nil
theorem s_cons (ha : PE X e (tE p L X.K cf ce W)) (hr : PA X es (tL p L X.K cf ces W)) (hs : ∀ a b, e ≠ .Starred a b) : PA X (e :: es) (tL p L X.K cf (ce :: ces) W) := by
  refine ⟨fun pos pins s σ H Q I h => (pa_cons ha hr (star_ok hs)).run pos pins s σ H Q I ?_⟩
  obtain ⟨m, v, st, R, E, q⟩ := h
  refine ⟨m, v, st, R, E, (PostL.bindV q).imp (fun x H1 ⟨m1, d1, s1, e1, R1, i1, er1, q1⟩ => ?_) fun _ _ _ z => z⟩
  refine ⟨m1, v, s1, R1, E.mono e1, ?_⟩
  have q2 := PostL.bindL q1
  cases er : evL p cf ces v s1 with
  | bad => rw [er] at q2; exact q2.elim
  | exc _ _ _ => rw [er] at q2; exact q2
  | ok ds s2 =>
    rw [er] at q2
    intro m2 us H2 e2 R2 i2
    obtain ⟨m3, ds', s3, e3, R3, i3, er3, q3⟩ := q2 m2 us H2 e2 R2 i2
    cases er3
    exact q3 m3 _ H2 (.refl _ _) R3 (.cons (i1.mono e3) i3)
/-- a list of values, then a step -/
theorem args_then {g : List D → ST → R D} {σ : L2.St} {H : Hp} {Q : VK} {v : EV} {m : List Addr} {st : ST} (R : Rel L X.K m H st) (E : EvR X.K m H σ v)
    (q : Post L X.K m H ((evL p cf ces v st).bind g) Q (fun c d H => W c d σ H)) :
    tL p L X.K cf ces W σ H (fun us H1 => ∃ m1 ds s1, Ext m H m1 H1 ∧ Rel L X.K m1 H1 s1 ∧ IsDs X.K m1 H1 us ds ∧ Post L X.K m1 H1 (g ds s1) Q (fun c d H => W c d σ H)) := by
  refine ⟨m, v, st, R, E, ?_⟩
  have q2 := Post.bindL q
  cases er : evL p cf ces v st with
  | bad => rw [er] at q2; exact q2.elim
  | exc _ _ _ => rw [er] at q2; exact q2
  | ok ds s2 =>
    rw [er] at q2
    intro m2 us H2 e2 R2 i2
    obtain ⟨m3, ds', s3, e3, R3, i3, er3, q3⟩ := q2 m2 us H2 e2 R2 i2
    exact ⟨m3, ds', s3, e3, R3, i3, q3⟩
theorem s_tup {x1} (h : PA X es (tL p L X.K cf ces W)) : PE X (.Tuple es x1 pos) (tE p L X.K cf (.tup ces) W) := by
  refine ⟨fun pins s σ H Q I hq => (pe_tup h).run pins s σ H Q I ?_⟩
  obtain ⟨m, v, st, R, E, q⟩ := hq
  obtain ⟨m', v', st', R', E', q'⟩ := args_then R E q
  refine ⟨m', v', st', R', E', ?_⟩
  cases er : evL p cf ces v' st' with
  | bad => rw [er] at q'; exact q'.elim
  | exc _ _ _ => rw [er] at q'; exact q'
  | ok ds s2 =>
    rw [er] at q'
    intro m2 us H2 e2 R2 i2
    obtain ⟨m3, ds', s3, e3, R3, i3, q3⟩ := q' m2 us H2 e2 R2 i2
    split at q3
    · rename_i hz
      exact ⟨by rw [LN_eq, i3.len]; exact hz, fun p hp => Post.tup q3 R3 hp i3⟩
    · exact q3.elim
theorem s_lst (h : PA X es (tL p L X.K cf ces W)) : PE X (.List es pos) (tE p L X.K cf (.lst ces) W) := by
  refine ⟨fun pins s σ H Q I hq => (pe_lst h).run pins s σ H Q I ?_⟩
  obtain ⟨m, v, st, R, E, q⟩ := hq
  obtain ⟨m', v', st', R', E', q'⟩ := args_then R E q
  refine ⟨m', v', st', R', E', ?_⟩
  cases er : evL p cf ces v' st' with
  | bad => rw [er] at q'; exact q'.elim
  | exc _ _ _ => rw [er] at q'; exact q'
  | ok ds s2 =>
    rw [er] at q'
    intro m2 us H2 e2 R2 i2
    obtain ⟨m3, ds', s3, e3, R3, i3, q3⟩ := q' m2 us H2 e2 R2 i2
    split at q3
    · rename_i hz
      exact ⟨by rw [LN_eq, i3.len]; exact hz, fun p hp => Post.new q3 R3 hp ⟨_, upd_same, i3.mono (Ext.push hp)⟩⟩
    · exact q3.elim
/-! ### subscripts -/
theorem plain_ok {b : Expr} (h : ∀ x y z w, b ≠ .Slice x y z w) : PlainIx b := fun o i => by
  cases b <;> first | rfl | exact absurd rfl (h _ _ _ _)
theorem s_idx (ha : PE X a (tE p L X.K cf ca W)) (hb : PE X b (tE p L X.K cf cb W)) (hs : ∀ x y z w, b ≠ .Slice x y z w) : PE X (.Subscript a b pos) (tE p L X.K cf (.idx ca cb) W) :=
  ⟨fun pins s σ H Q I h => (pe_ix (ix_D (L := L)) ha hb (plain_ok hs)).run pins s σ H Q I (two (fun x y s => idxV_nox) (fun _ _ _ _ z => z) h)⟩
theorem s_none : PO X none (tO p L X.K cf none W) := by
  refine ⟨fun pins s σ H Q I h => po_none.run pins s σ H Q I ?_⟩
  obtain ⟨m, v, st, R, E, q⟩ := h
  exact PostG.ok q R
theorem s_some (ha : PE X a (tE p L X.K cf ca W)) : PO X (some a) (tO p L X.K cf (some ca) W) := by
  refine ⟨fun pins s σ H Q I h => (po_some ha).run pins s σ H Q I ?_⟩
  obtain ⟨m, v, st, R, E, q⟩ := h
  refine ⟨m, v, st, R, E, (PostG.bindV q).imp (fun x H1 ⟨m1, d1, s1, e1, R1, i1, er1, q1⟩ => ?_) fun _ _ _ z => z⟩
  cases i1 with
  | int i => exact ⟨i, rfl, PostG.ok q1 R1⟩
  | _ => exact q1.elim
theorem s_slc {lo hi : Option Expr} {cl ch : Option E} {p2 : Pos} (ha : PE X a (tE p L X.K cf ca W)) (hl : PO X lo (tO p L X.K cf cl W)) (hh : PO X hi (tO p L X.K cf ch W)) : PE X (.Subscript a (.Slice lo hi none p2) pos) (tE p L X.K cf (.slc ca cl ch) W) := by
  refine ⟨fun pins s σ H Q I h => (pe_slice (sl_D (L := L)) ha hl hh).run pins s σ H Q I ?_⟩
  obtain ⟨m, v, st, R, E, q⟩ := h
  refine ⟨m, v, st, R, E, (Post.bindV q).imp (fun x H1 ⟨m1, d1, s1, e1, R1, i1, er1, q1⟩ => ?_) fun _ _ _ z => z⟩
  refine ⟨m1, v, s1, R1, E.mono e1, ?_⟩
  have q2 := Post.bindG q1
  cases er : evO p cf cl v s1 with
  | bad => rw [er] at q2; exact q2.elim
  | exc _ _ _ => rw [er] at q2; exact q2
  | ok i s2 =>
    rw [er] at q2
    intro m2 H2 e2 R2
    obtain ⟨e3, R3, q3⟩ := q2 m2 H2 e2 R2
    refine ⟨m2, v, s2, R2, (E.mono e1).mono e2, ?_⟩
    have q4 := Post.bindG q3
    cases er : evO p cf ch v s2 with
    | bad => rw [er] at q4; exact q4.elim
    | exc _ _ _ => rw [er] at q4; exact q4
    | ok j s3 =>
      rw [er] at q4
      intro m3 H3 e4 R4
      obtain ⟨e5, R5, q5⟩ := q4 m3 H3 e4 R4
      exact ⟨m3, d1, s3, R5, (i1.mono e2).mono e4, q5.nox fun c fs s => slcV_nox c fs s⟩
end
end Dt
namespace Dt
open PySem PySem.Spec PyProof.Rows L2
/-! ### an object's fields -/
section
variable {L : Lk} {K : PySem.W.Frag} {m : List Addr} {H : Hp}
theorem FsR.get {r : List (Str × V)} {q : List (Nat × D)} (h : FsR L K m H r q) {f : Nat} {d : D} (e : getA q f = some d) : ∃ v, r.lookup (L.fN f) = some v ∧ IsD K m H v d := by
  induction h with
  | nil => cases e
  | @cons x v g d' r q hx hv _ ih =>
    subst hx
    unfold getA at e
    split at e
    · rename_i hf; subst hf; cases e
      exact ⟨v, by simp [List.lookup_cons], hv⟩
    · rename_i hf
      obtain ⟨v', h1, h2⟩ := ih e
      refine ⟨v', ?_, h2⟩
      rw [List.lookup_cons]
      have : (L.fN f == L.fN g) = false := beq_eq_false_iff_ne.mpr fun z => hf (L.inj _ _ z)
      rw [this]
      exact h1
theorem FsR.none_ {r : List (Str × V)} {q : List (Nat × D)} (h : FsR L K m H r q) {x : Str} (hx : ∀ y ∈ q, L.fN y.1 ≠ x) : r.lookup x = none := by
  induction h with
  | nil => rfl
  | @cons y v g d' r q hy hv _ ih =>
    subst hy
    rw [List.lookup_cons]
    have : (x == L.fN g) = false := beq_eq_false_iff_ne.mpr fun z => hx (g, d') List.mem_cons_self z.symm
    rw [this]
    exact ih fun y hy => hx y (List.mem_cons_of_mem _ hy)
theorem FsR.put {r : List (Str × V)} {q : List (Nat × D)} (h : FsR L K m H r q) {f : Nat} {v : V} {d : D} (hv : IsD K m H v d) : FsR L K m H (putF (L.fN f) v r) (putA q f d) := by
  induction h with
  | nil => exact .cons rfl hv .nil
  | @cons x w g d' r q hx hw hr ih =>
    subst hx
    unfold putF putA
    by_cases hf : f = g
    · subst hf
      rw [if_pos rfl, if_pos rfl]
      exact .cons rfl hv hr
    · rw [if_neg hf, if_neg fun z => hf (L.inj _ _ z.symm)]
      exact .cons rfl hw ih
theorem FsR.len {r : List (Str × V)} {q : List (Nat × D)} (h : FsR L K m H r q) : r.length = q.length := by
  induction h with
  | nil => rfl
  | cons _ _ _ ih => simp [ih]
theorem putA_mem {q : List (Nat × D)} {f : Nat} {d : D} {y : Nat × D} (h : y ∈ putA q f d) : y.1 = f ∨ ∃ z ∈ q, z.1 = y.1 := by
  induction q with
  | nil => simp [putA] at h; subst h; exact .inl rfl
  | cons a r ih =>
    obtain ⟨g, e⟩ := a
    unfold putA at h
    split at h
    · rename_i hf
      rcases List.mem_cons.mp h with z | z
      · subst z; exact .inl hf.symm
      · exact .inr ⟨y, List.mem_cons_of_mem _ z, rfl⟩
    · rcases List.mem_cons.mp h with z | z
      · subst z; exact .inr ⟨_, List.mem_cons_self, rfl⟩
      · rcases ih z with z | ⟨w, hw, e⟩
        · exact .inl z
        · exact .inr ⟨w, List.mem_cons_of_mem _ hw, e⟩
end
section
variable {p : Pg} {wf : Nat} {L : Lk} {t : CT} {k : Nat} {X : Cx} {N : List Str} {sc : Scope} {stb : Str → Bool} {W : WX} {pos apos : Pos} {a b c e o : Expr} {ca cb cc ce co : E} {cf : CF}
variable {es : List Expr} {ces : List E}
abbrev FactsX (p : Pg) (wf : Nat) (L : Lk) (t : CT) (X : Cx) (k : Nat) : Prop := Facts p wf L t X.prog X.w X.K X.mg X.base k
theorem fld_arm (F : FactsX p wf L t X k) {m : List Addr} {H : Hp} {s : ST} {x : V} {d : D} {f : Nat} {Q : VK} {W' : XK} (R : Rel L X.K m H s) (i : IsD X.K m H x d) (q : Post L X.K m H (fldV d f s) Q W') :
    ∃ a C dx fs v, x = .ref a ∧ H a = some (.ins C dx fs) ∧ Cls X.K C ∧ NoAttr X.K C (L.fN f) ∧ fs.lookup (L.fN f) = some v ∧ Q v H := by
  cases i with
  | @ref a l ha =>
    simp only [fldV] at q
    split at q
    · rename_i C fs e
      obtain ⟨dx, fs', h1, h2, h3⟩ := R.at_ l _ a e ha
      cases eg : getA fs f with
      | none => rw [eg] at q; exact q.elim
      | some d =>
        rw [eg] at q
        obtain ⟨v, hv, iv⟩ := h2.get eg
        have hm : f ∈ L.cF C := by
          have : ∀ q : List (Nat × D), getA q f = some d → ∃ y ∈ q, y.1 = f := by
            intro q
            induction q with
            | nil => intro z; cases z
            | cons y r ih =>
              intro z
              unfold getA at z
              split at z
              · rename_i hf; exact ⟨y, List.mem_cons_self, hf.symm⟩
              · obtain ⟨w, hw, e⟩ := ih z; exact ⟨w, List.mem_cons_of_mem _ hw, e⟩
          obtain ⟨y, hy, rfl⟩ := this fs eg
          exact h3 y hy
        obtain ⟨c, n⟩ := F.own C f hm
        exact ⟨a, L.cA C, dx, fs', v, rfl, h1, c, n, hv, Post.ok q R iv⟩
    · exact q.elim
  | _ => exact q.elim
theorem s_fld (F : FactsX p wf L t X k) {f : Nat} {x : Str} (hf : L.fN f = x) (ho : PE X o (tE p L X.K cf co W)) (hb : okBase o = true) : PE X (.Attribute o x pos) (tE p L X.K cf (.fld co f) W) := by
  subst hf
  refine ⟨fun pins s σ H Q I h => (pe_fld ho (base_ok hb)).run pins s σ H Q I ?_⟩
  obtain ⟨m, v, st, R, E, q⟩ := h
  exact ⟨m, v, st, R, E, (Post.bindV q).imp (fun x H1 ⟨m1, d1, s1, e1, R1, i1, er1, q1⟩ => fld_arm F R1 i1 q1) fun _ _ _ z => z⟩
/-! ### calls -/
theorem call_arm {f : Nat} {v : EV} {m : List Addr} {st : ST} {σ : L2.St} {H : Hp} {Q : VK} (R : Rel L X.K m H st) (E : EvR X.K m H σ v)
    (q : Post L X.K m H ((evL p (callF p wf k) ces v st).bind fun xs s => callF p wf k f xs s) Q (fun c d H => W c d σ H)) :
    tCallS (spF p wf L X.K k f) (WE W) (tL p L X.K (callF p wf k) ces W) σ H Q := by
  obtain ⟨m', v', st', R', E', q'⟩ := args_then R E q
  refine ⟨m', v', st', R', E', ?_⟩
  cases er : evL p (callF p wf k) ces v' st' with
  | bad => rw [er] at q'; exact q'.elim
  | exc _ _ _ => rw [er] at q'; exact q'
  | ok ds s2 =>
    rw [er] at q'
    intro m2 us H2 e2 R2 i2
    obtain ⟨m3, ds', s3, e3, R3, i3, q3⟩ := q' m2 us H2 e2 R2 i2
    exact ⟨m3, ds', s3, R3, i3, q3⟩
theorem s_call (ok : Xok p wf L t k X N sc stb W) {f : Nat} {x : Str} (hx : t.fns.lookup x = some f) (hg : Gl X x) (hd : (x == ("__debug__" : Str)) = false) (ha : PA X (e :: es) (tL p L X.K (callF p wf k) ces W))
    (hs : ∀ y ∈ e :: es, ∀ a b, y ≠ .Starred a b) {ppos : Pos} : PE X (.Call (.Name x ppos) (e :: es) [] pos) (tE p L X.K (callF p wf k) (.call f ces) W) := by
  obtain ⟨a, fd, ps, hm, hk, F, hb⟩ := ok.fa.fns x f hx
  refine ⟨fun pins s σ H Q I h => (pe_callS F (ok.room.mono (by omega)) hg hm hk hb (fun σ => passAt ok.tk σ) ha hd (star_ok (hs e List.mem_cons_self)) (stars_ok fun y hy => hs y (List.mem_cons_of_mem _ hy))).run pins s σ H Q I ?_⟩
  obtain ⟨m, v, st, R, E, q⟩ := h
  exact call_arm R E q
theorem s_call0 (ok : Xok p wf L t k X N sc stb W) {f : Nat} {x : Str} (hx : t.fns.lookup x = some f) (hg : Gl X x) (hd : (x == ("__debug__" : Str)) = false) {ppos : Pos} : PE X (.Call (.Name x ppos) [] [] pos) (tE p L X.K (callF p wf k) (.call f []) W) := by
  obtain ⟨a, fd, ps, hm, hk, F, hb⟩ := ok.fa.fns x f hx
  refine ⟨fun pins s σ H Q I h => (pe_call0S F (ok.room.mono (by omega)) hg hm hk hb (fun σ => passAt ok.tk σ) hd).run pins s σ H Q I ?_⟩
  obtain ⟨m, v, st, R, E, q⟩ := h
  exact ⟨m, [], st, R, .nil, q⟩
/-- a method of an own class -/
def methR (X : Cx) (p : Pg) (wf : Nat) (L : Lk) (k : Nat) (x : Str) : Addr → Addr → FuncData → List Str → Sp → Prop := fun C f fd ps sp => Cls X.K C ∧ Meth X.K C x f ∧ FnOk X.prog X.w X.K X.mg X.base (L2.CX X.prog X.w) (2 * k) f fd ps sp ∧ Binds X.K fd ps []
theorem meth_arm (F : FactsX p wf L t X k) {i : Nat} {x : Str} (hx : t.mts.lookup x = some i) {σ : L2.St} {H : Hp} {Q : VK} {ta : TA}
    (ht : ∀ σ H R, tL p L X.K (callF p wf k) ces W σ H R → ta σ H R) (h : tE p L X.K (callF p wf k) (.meth co i ces) W σ H Q) : tMethS X.K x (methR X p wf L k x) (WE W) (tE p L X.K (callF p wf k) co W) ta σ H Q := by
  obtain ⟨m, v, st, R, E, q⟩ := h
  refine ⟨m, v, st, R, E, (Post.bindV q).imp (fun x H1 ⟨m1, d1, s1, e1, R1, i1, er1, q1⟩ => ?_) fun _ _ _ z => z⟩
  cases i1 with
  | @ref a l ha =>
    simp only at q1
    split at q1
    · rename_i C fs e
      split at q1
      · rename_i c hc
        split at q1
        · rename_i f hf
          obtain ⟨dx, fs', h1, h2, h3⟩ := R1.at_ l _ a e ha
          obtain ⟨hC, af, fd, ps, hM, hF, hB, hn⟩ := F.mts _ i hx C c f hc hf
          refine ⟨a, dx, fs', L.cA C, af, fd, ps, _, rfl, h1, h2.none_ fun y hy => hn _ (h3 y hy), ⟨hC, hM, hF, hB⟩, ht _ _ _ ?_⟩
          refine ⟨m1, v, s1, R1, E.mono e1, ?_⟩
          cases er : evL p (callF p wf k) ces v s1 with
          | bad => rw [er] at q1; exact q1.elim
          | exc _ _ _ => rw [er] at q1; exact q1
          | ok ds s2 =>
            rw [er] at q1
            intro m2 us H2 e2 R2 i2
            exact ⟨m2, _, s2, R2, .cons (.ref (e2.at ha)) i2, Post.mono e2 q1⟩
        · exact q1.elim
      · exact q1.elim
    · exact q1.elim
  | _ => exact q1.elim
/-- what a method's call is -/
theorem meth_eval {o : Expr} {x : Str} {apos pos : Pos} {es : List Expr} {env : Env} (hb : okBase o = true) (hs : ∀ y ∈ es, ∀ a b, y ≠ .Starred a b) (hn : es.length < 30) (hl : (apos.endLine == pos.line) = true) :
    eval (.Call (.Attribute o x apos) es [] pos) env = (do
      let ov ← eval o env
      standAt apos.atName
      let (f, first) ← holding [ov] (getMethod ov x (do return (← importBound o env).getD true))
      callWith pos f first (backTo pos (starEach es env)) (backToKw pos (keywordEach [] env))) := by
  show (do
    let ov ← attributeBase o x env (eval o env)
    standAt apos.atName
    methodCall o x apos pos env ov (es.length + ([] : List Keyword).length) (backTo pos (starEach es env)) (backToKw pos (keywordEach [] env))) = _
  rw [base_ok hb]
  have hf : methodCallForm (es.length + ([] : List Keyword).length) (backTo pos (starEach es env)) (backToKw pos (keywordEach [] env)) = true := by
    unfold methodCallForm
    rw [stars_all hs]
    show (true && true && decide (es.length + 0 + 0 < 30)) = true
    simp; omega
  have hp : methodCallPos true o env apos pos = pure pos := by
    unfold methodCallPos
    rw [hl]
    rfl
  unfold methodCall
  rw [hf, hp]
  rfl
theorem s_meth (ok : Xok p wf L t k X N sc stb W) {i : Nat} {x : Str} (hx : t.mts.lookup x = some i) (hb : okBase o = true) (ho : PE X o (tE p L X.K (callF p wf k) co W)) (ha : PA X (e :: es) (tL p L X.K (callF p wf k) ces W))
    (hs : ∀ y ∈ e :: es, ∀ a b, y ≠ .Starred a b) (hn : (e :: es).length < 30) (hl : (apos.endLine == pos.line) = true) : PE X (.Call (.Attribute o x apos) (e :: es) [] pos) (tE p L X.K (callF p wf k) (.meth co i ces) W) := by
  have ht := meth_eval (x := x) (env := X.env) hb hs hn hl
  refine ⟨fun pins s σ H Q I h => (pe_methS (k := 2 * k) (R := methR X p wf L k x) (E := WE W) ho (fun _ _ _ _ _ z => z) (ok.room.mono (by omega)) (fun σ => passAt ok.tk σ) ha (star_ok (hs e List.mem_cons_self)) (stars_ok fun y hy => hs y (List.mem_cons_of_mem _ hy)) ht).run pins s σ H Q I ?_⟩
  exact meth_arm ok.fa hx (fun _ _ _ z => z) h
theorem s_meth0 (ok : Xok p wf L t k X N sc stb W) {i : Nat} {x : Str} (hx : t.mts.lookup x = some i) (hb : okBase o = true) (ho : PE X o (tE p L X.K (callF p wf k) co W)) (hl : (apos.endLine == pos.line) = true) :
    PE X (.Call (.Attribute o x apos) [] [] pos) (tE p L X.K (callF p wf k) (.meth co i []) W) := by
  have ht := meth_eval (x := x) (env := X.env) (es := []) hb (by simp) (by simp) hl
  refine ⟨fun pins s σ H Q I h => (pe_meth0S (k := 2 * k) (R := methR X p wf L k x) (E := WE W) ho (fun _ _ _ _ _ z => z) (ok.room.mono (by omega)) (fun σ => passAt ok.tk σ) ht).run pins s σ H Q I ?_⟩
  exact meth_arm ok.fa hx (fun σ H R ⟨m, v, s, R1, E1, q⟩ => q m [] H (.refl _ _) R1 .nil) h
/-- a new object of an own class -/
theorem make_arm {C : Nat} {cl : Cl} {f : Nat} (hc : p.cls[C]? = some cl) (hi : cl.init = some f) (he : cl.exc = none) {σ : L2.St} {H : Hp} {Q : VK} {ta : TA} (ht : ∀ σ H R, tL p L X.K (callF p wf k) ces W σ H R → ta σ H R)
    (h : tE p L X.K (callF p wf k) (.new C ces) W σ H Q) : tMakeS (L.cA C) (spF p wf L X.K k f) (WE W) ta σ H Q := by
  obtain ⟨m, v, st, R, E, q⟩ := h
  have q : Post L X.K m H ((evL p (callF p wf k) ces v st).bind fun xs s => match p.cls[C]? with
    | some ⟨some f, _, none, _⟩ => (alloc (.ins C []) s).bind fun r s => (callF p wf k f (r :: xs) s).bind fun u s => match u with
      | .non => .ok r s
      | _ => .bad
    | _ => .bad) Q (fun c d H => W c d σ H) := q
  refine ht _ _ _ ⟨m, v, st, R, E, ?_⟩
  cases er : evL p (callF p wf k) ces v st with
  | bad => rw [er] at q; exact q.elim
  | exc _ _ _ => rw [er] at q; exact q
  | ok ds s2 =>
    rw [er, bind_ok, hc] at q
    obtain ⟨ci, cm, ce, cf⟩ := cl
    simp only at hi he
    subst hi he
    simp only [alloc, bind_ok] at q
    intro m2 us H2 e2 R2 i2 x dx nx nd hne
    have R3 : Rel L X.K m2 (upd H2 dx (.own x)) s2 := R2.laid nd
    have nx3 : (upd H2 dx (.own x)) x = none := by rw [upd_ne (Ne.symm hne)]; exact nx
    have e3 : Ext m2 H2 (m2 ++ [x]) (upd (upd H2 dx (.own x)) x (.ins (L.cA C) dx [])) := (Ext.laid nd).trans (Ext.push nx3)
    have R4 := R3.push (o := .ins C []) nx3 (ho := .ins (L.cA C) dx []) ⟨dx, [], upd_same, .nil, by simp⟩
    have ix : IsD X.K (m2 ++ [x]) (upd (upd H2 dx (.own x)) x (.ins (L.cA C) dx [])) (.ref x) (.ref s2.length) := .ref (by rw [← R2.len]; simp)
    refine ⟨m2 ++ [x], .ref s2.length :: ds, s2 ++ [.ins C []], R4, .cons ix (i2.mono e3), ?_⟩
    refine (Post.bindV (Post.mono (e2.trans e3) q)).imp (fun u H5 ⟨m5, d5, s5, e5, R5, i5, er5, q5⟩ => ?_) fun _ _ _ z => z
    cases i5 with
    | non => exact ⟨rfl, Post.ok q5 R5 (ix.mono e5)⟩
    | _ => exact q5.elim
theorem s_new (ok : Xok p wf L t k X N sc stb W) {C : Nat} {x : Str} (hx : t.clss.lookup x = some C) {cl : Cl} {f : Nat} (hc : p.cls[C]? = some cl) (hi : cl.init = some f) (hn : cl.exc = none) (hg : Gl X x) (hd : (x == ("__debug__" : Str)) = false)
    (ha : PA X (e :: es) (tL p L X.K (callF p wf k) ces W)) (hs : ∀ y ∈ e :: es, ∀ a b, y ≠ .Starred a b) {ppos : Pos} : PE X (.Call (.Name x ppos) (e :: es) [] pos) (tE p L X.K (callF p wf k) (.new C ces) W) := by
  obtain ⟨hm, h⟩ := ok.fa.clss x C hx
  obtain ⟨a, fd, ps, M, F, hb⟩ := h cl f hc hi hn
  refine ⟨fun pins s σ H Q I h => (pe_makeS M F ok.room hg hm hb (fun σ => passAt ok.tk σ) ha hd (star_ok (hs e List.mem_cons_self)) (stars_ok fun y hy => hs y (List.mem_cons_of_mem _ hy))).run pins s σ H Q I ?_⟩
  exact make_arm hc hi hn (fun _ _ _ z => z) h
theorem s_new0 (ok : Xok p wf L t k X N sc stb W) {C : Nat} {x : Str} (hx : t.clss.lookup x = some C) {cl : Cl} {f : Nat} (hc : p.cls[C]? = some cl) (hi : cl.init = some f) (hn : cl.exc = none) (hg : Gl X x) (hd : (x == ("__debug__" : Str)) = false)
    {ppos : Pos} : PE X (.Call (.Name x ppos) [] [] pos) (tE p L X.K (callF p wf k) (.new C []) W) := by
  obtain ⟨hm, h⟩ := ok.fa.clss x C hx
  obtain ⟨a, fd, ps, M, F, hb⟩ := h cl f hc hi hn
  refine ⟨fun pins s σ H Q I h => (pe_make0S M F ok.room hg hm hb (fun σ => passAt ok.tk σ) hd).run pins s σ H Q I ?_⟩
  exact make_arm hc hi hn (fun σ H R ⟨m, v, s, R1, E1, q⟩ => q m [] H (.refl _ _) R1 .nil) h
/-! ### built-in functions -/
def bfN : Bf → Str
  | .len => "len" | .int => "int" | .max => "max" | .min => "min" | .tuple => "tuple" | .list => "list" | .all => "all" | .any => "any" | .sum => "sum" | .abs => "abs" | .str => "str" | .repr => "repr" | .sorted => "sorted"
theorem bf_arm {b : Bf} {σ : L2.St} {H : Hp} {Q : VK} (h : tE p L X.K cf (.bf b ces) W σ H Q) : tCB (rC L X.K (bfV b)) (tL p L X.K cf ces W) σ H Q := by
  obtain ⟨m, v, st, R, E, q⟩ := h
  obtain ⟨m', v', st', R', E', q'⟩ := args_then R E q
  refine ⟨m', v', st', R', E', ?_⟩
  cases er : evL p cf ces v' st' with
  | bad => rw [er] at q'; exact q'.elim
  | exc _ _ _ => rw [er] at q'; exact q'
  | ok ds s2 =>
    rw [er] at q'
    intro m2 us H2 e2 R2 i2
    obtain ⟨m3, ds', s3, e3, R3, i3, q3⟩ := q' m2 us H2 e2 R2 i2
    exact ⟨m3, ds', s3, R3, i3, q3.nox fun c fs s => bfV_nox c fs s⟩
theorem s_bf (hc : X.calm = true) (b : Bf) (hb : b ≠ .sorted) (hg : Gl X (bfN b)) (hm : X.mg (bfN b) = none) (ha : PA X (e :: es) (tL p L X.K cf ces W)) (hs : ∀ y ∈ e :: es, ∀ a b, y ≠ .Starred a b) {ppos : Pos} :
    PE X (.Call (.Name (bfN b) ppos) (e :: es) [] pos) (tE p L X.K cf (.bf b ces) W) := by
  have h1 : starEach (e :: es) X.env = (false, eval e X.env) :: starEach es X.env := star_ok (hs e List.mem_cons_self)
  have h2 : (backTo pos (starEach es X.env)).any (·.1) = false := stars_ok fun y hy => hs y (List.mem_cons_of_mem _ hy)
  refine ⟨fun pins s σ H Q I h => ?_⟩
  have h := bf_arm h
  cases b with
  | len => exact (pe_callB (cr_len (L := L)) hg hm PySem.boot_len ha (by decide) (by decide) h1 h2).run pins s σ H Q I h
  | int => exact (pe_callTy (cr_int (L := L)) hg hm boot_int ha (by decide) (by decide) h1 h2).run pins s σ H Q I h
  | max => exact (pe_callB (cr_max2 (L := L) hc) hg hm boot_max ha (by decide) (by decide) h1 h2).run pins s σ H Q I h
  | min => exact (pe_callB (cr_min2 (L := L) hc) hg hm boot_min ha (by decide) (by decide) h1 h2).run pins s σ H Q I h
  | tuple => exact (pe_callTy (cr_tuple (L := L)) hg hm boot_tuple ha (by decide) (by decide) h1 h2).run pins s σ H Q I h
  | list => exact (pe_callTy (cr_list (L := L)) hg hm boot_list ha (by decide) (by decide) h1 h2).run pins s σ H Q I h
  | all => exact (pe_callB (cr_allD (L := L) hc) hg hm boot_all ha (by decide) (by decide) h1 h2).run pins s σ H Q I h
  | any => exact (pe_callB (cr_anyD (L := L) hc) hg hm boot_any ha (by decide) (by decide) h1 h2).run pins s σ H Q I h
  | sum => exact (pe_callB (cr_sumD (L := L) hc) hg hm boot_sum ha (by decide) (by decide) h1 h2).run pins s σ H Q I h
  | abs => exact (pe_callB (cr_absD (L := L)) hg hm boot_abs ha (by decide) (by decide) h1 h2).run pins s σ H Q I h
  | str => exact (pe_callTy (cr_strD (L := L)) hg hm boot_str ha (by decide) (by decide) h1 h2).run pins s σ H Q I h
  | repr => exact (pe_callB (cr_reprD (L := L)) hg hm boot_repr ha (by decide) (by decide) h1 h2).run pins s σ H Q I h
  | sorted => exact absurd rfl hb
end
end Dt
namespace Dt
open PySem PySem.Spec PyProof.Rows L2
/-- an iterator walks a source -/
structure SrcR (L : Lk) (K : PySem.W.Frag) (g : Src) (J : L2.It) (m : List Addr) (H : Hp) : Prop where
  go : ∀ (m1 : List Addr) (H1 : Hp) (s1 : ST) (i : Nat) (d : D), Ext m H m1 H1 → Rel L K m1 H1 s1 → g.at_ i s1 = some d → J.go i H1 ∧ ∀ x H', J.yld i H1 x H' → Ext m1 H1 m1 H' ∧ Rel L K m1 H' s1 ∧ IsD K m1 H' x d ∧ ∀ a, H1 a ≠ none → H' a = H1 a
  stop : ∀ (m1 : List Addr) (H1 : Hp) (s1 : ST) (i : Nat), Ext m H m1 H1 → Rel L K m1 H1 s1 → g.size s1 = some i → J.stop i H1
def tI (p : Pg) (L : Lk) (K : PySem.W.Frag) (cf : CF) (it : Dt.It) (W : WX) : TI := fun σ H R => ∃ m v s, Rel L K m H s ∧ EvR K m H σ v ∧
  PostG L K m H (evI p cf it v s) (fun m' H' g _ => ∀ J, SrcR L K g J m' H' → R J H') (fun c d H => W c d σ H)
section
variable {L : Lk} {K : PySem.W.Frag} {m : List Addr} {H : Hp} {s : ST}
theorem src_tup {a : Addr} {vs : List V} {ds : List D} (h : TupAt K m H a vs) (r : IsDs K m H vs ds) : SrcR L K (.fix ds) (Itt K a) m H where
  go := fun m1 H1 s1 i d e R ha => by
    have h1 : TupAt K m1 H1 a vs := h.elim (fun z => .inl (e.rd z.1 z.2)) .inr
    obtain ⟨v, hv, iv⟩ := (r.mono e).get ha
    refine ⟨⟨vs, v, h1.sq, hv⟩, fun x H' hy => ?_⟩
    obtain ⟨rfl, hy⟩ := hy
    have hx := hy vs h1.sq
    rw [hv] at hx; cases hx
    exact ⟨.refl _ _, R, iv, fun _ _ => rfl⟩
  stop := fun m1 H1 s1 i e R hs => by
    have h1 : TupAt K m1 H1 a vs := h.elim (fun z => .inl (e.rd z.1 z.2)) .inr
    have : ds.length = i := by simpa [Src.size] using hs
    exact ⟨vs, h1.sq, by rw [r.len]; omega⟩
theorem src_rol {a : Addr} {vs : List V} {ds : List D} (h : RolAt K m H a vs) (r : IsDs K m H vs ds) : SrcR L K (.fix ds) (Itl K a) m H where
  go := fun m1 H1 s1 i d e R ha => by
    have h1 : SqL K H1 a vs := h.elim (fun z => .inl (.inr (z.1.elim fun o q => ⟨o, e.keep _ _ q z.2⟩))) .inr
    obtain ⟨v, hv, iv⟩ := (r.mono e).get ha
    refine ⟨⟨vs, v, h1, hv⟩, fun x H' hy => ?_⟩
    obtain ⟨rfl, hy⟩ := hy
    have hx := hy vs h1
    rw [hv] at hx; cases hx
    exact ⟨.refl _ _, R, iv, fun _ _ => rfl⟩
  stop := fun m1 H1 s1 i e R hs => by
    have h1 : SqL K H1 a vs := h.elim (fun z => .inl (.inr (z.1.elim fun o q => ⟨o, e.keep _ _ q z.2⟩))) .inr
    have : ds.length = i := by simpa [Src.size] using hs
    exact ⟨vs, h1, by rw [r.len]; omega⟩
theorem items_ref {s : ST} {l : Nat} {xs : List D} (h : itemsOf s (.ref l) = some xs) : s[l]? = some (.lst xs) := by
  have h' : (match s[l]? with
    | some (.lst xs) => some xs
    | _ => none) = some xs := h
  split at h'
  · rename_i ys e; cases h'; exact e
  · cases h'
theorem src_list {a : Addr} {l : Nat} (ha : m[l]? = some a) : SrcR L K (.list l) (Itl K a) m H where
  go := fun m1 H1 s1 i d e R hx => by
    simp only [Src.at_] at hx
    cases hi : itemsOf s1 (.ref l) with
    | none => rw [hi] at hx; cases hx
    | some xs =>
      rw [hi] at hx
      obtain ⟨vs, h1, h2⟩ := R.at_ l _ a (items_ref hi) (e.at ha)
      obtain ⟨v, hv, iv⟩ := h2.get hx
      refine ⟨⟨vs, v, .of h1, hv⟩, fun x H' hy => ?_⟩
      obtain ⟨rfl, hy⟩ := hy
      have hx := hy vs (.of h1)
      rw [hv] at hx; cases hx
      exact ⟨.refl _ _, R, iv, fun _ _ => rfl⟩
  stop := fun m1 H1 s1 i e R hs => by
    simp only [Src.size] at hs
    cases hi : itemsOf s1 (.ref l) with
    | none => rw [hi] at hs; cases hs
    | some xs =>
      rw [hi] at hs
      cases hs
      obtain ⟨vs, h1, h2⟩ := R.at_ l _ a (items_ref hi) (e.at ha)
      exact ⟨vs, .of h1, by rw [h2.len]; exact Nat.le_refl _⟩
theorem upd_old {p b : Addr} {ho : HO} {H : Hp} (hp : H p = none) (h : H b ≠ none) : upd H p ho b = H b := upd_ne (by rintro rfl; exact h hp)
theorem src_enum {a : Addr} {l : Nat} (ha : m[l]? = some a) : SrcR L K (.enum l) (Ite K a) m H where
  go := fun m1 H1 s1 i d e R hx => by
    simp only [Src.at_] at hx
    cases hi : itemsOf s1 (.ref l) with
    | none => rw [hi] at hx; cases hx
    | some xs =>
      rw [hi] at hx
      simp only [Option.bind_some] at hx
      cases hg : xs[i]? with
      | none => rw [hg] at hx; cases hx
      | some y =>
        rw [hg] at hx; cases hx
        obtain ⟨vs, h1, h2⟩ := R.at_ l _ a (items_ref hi) (e.at ha)
        obtain ⟨v, hv, iv⟩ := h2.get hg
        refine ⟨⟨vs, v, .of h1, hv⟩, fun x H' hy => ?_⟩
        obtain ⟨T, z, rfl, hT, rfl, hy⟩ := hy
        have hx := hy vs (.of h1)
        rw [hv] at hx; cases hx
        exact ⟨.laid hT, R.laid hT, .tup (.inl ⟨.inl upd_same, fun z => R.there z hT⟩) (.cons (.int _) (.cons (iv.mono (.laid hT)) .nil)), fun b hb => upd_old hT hb⟩
  stop := fun m1 H1 s1 i e R hs => by
    simp only [Src.size] at hs
    cases hi : itemsOf s1 (.ref l) with
    | none => rw [hi] at hs; cases hs
    | some xs =>
      rw [hi] at hs
      cases hs
      obtain ⟨vs, h1, h2⟩ := R.at_ l _ a (items_ref hi) (e.at ha)
      exact ⟨vs, .of h1, by rw [h2.len]; exact Nat.le_refl _⟩
theorem src_zip {a b : Addr} {l j : Nat} (ha : m[l]? = some a) (hb : m[j]? = some b) : SrcR L K (.zip l j) (Itz K a b) m H where
  go := fun m1 H1 s1 i d e R hx => by
    simp only [Src.at_] at hx
    cases hi : itemsOf s1 (.ref l) with
    | none => rw [hi] at hx; cases hx
    | some xs =>
      cases hj : itemsOf s1 (.ref j) with
      | none => rw [hi, hj] at hx; cases hx
      | some ys =>
        rw [hi, hj] at hx
        simp only [Option.bind_some] at hx
        cases hg : xs[i]? with
        | none => rw [hg] at hx; cases hx
        | some y =>
          cases hg' : ys[i]? with
          | none => rw [hg, hg'] at hx; cases hx
          | some y' =>
            rw [hg, hg'] at hx; cases hx
            obtain ⟨vs, h1, h2⟩ := R.at_ l _ a (items_ref hi) (e.at ha)
            obtain ⟨us, g1, g2⟩ := R.at_ j _ b (items_ref hj) (e.at hb)
            obtain ⟨v, hv, iv⟩ := h2.get hg
            obtain ⟨u, hu, iu⟩ := g2.get hg'
            refine ⟨⟨vs, us, v, u, .of h1, .of g1, hv, hu⟩, fun x H' hy => ?_⟩
            obtain ⟨T, z, z', rfl, hT, rfl, hy, hy'⟩ := hy
            have hx := hy vs (.of h1)
            have hx' := hy' us (.of g1)
            rw [hv] at hx; cases hx
            rw [hu] at hx'; cases hx'
            exact ⟨.laid hT, R.laid hT, .tup (.inl ⟨.inl upd_same, fun z => R.there z hT⟩) (.cons (iv.mono (.laid hT)) (.cons (iu.mono (.laid hT)) .nil)), fun b hb => upd_old hT hb⟩
  stop := fun m1 H1 s1 i e R hs => by
    simp only [Src.size] at hs
    cases hi : itemsOf s1 (.ref l) with
    | none => rw [hi] at hs; cases hs
    | some xs =>
      cases hj : itemsOf s1 (.ref j) with
      | none => rw [hi, hj] at hs; cases hs
      | some ys =>
        rw [hi, hj] at hs
        cases hs
        obtain ⟨vs, h1, h2⟩ := R.at_ l _ a (items_ref hi) (e.at ha)
        obtain ⟨us, g1, g2⟩ := R.at_ j _ b (items_ref hj) (e.at hb)
        have l1 := h2.len
        have l2 := g2.len
        refine ⟨vs, us, .of h1, .of g1, ?_⟩
        show vs.length ≤ min xs.length ys.length ∨ us.length ≤ min xs.length ys.length
        omega
theorem src_rng {lo : Int} {n : Nat} : SrcR L K (.fix ((List.range n).map fun (k : Nat) => D.int (lo + (k : Nat)))) (Itr lo n) m H where
  go := fun m1 H1 s1 i d e R hx => by
    have hx : ((List.range n).map fun (k : Nat) => D.int (lo + (k : Nat)))[i]? = some d := hx
    rw [List.getElem?_map] at hx
    by_cases hi : i < n
    · rw [List.getElem?_range hi] at hx
      cases hx
      refine ⟨hi, fun x H' hy => ?_⟩
      obtain ⟨rfl, rfl⟩ := hy
      exact ⟨.refl _ _, R, .int _, fun _ _ => rfl⟩
    · rw [List.getElem?_eq_none (by simp; omega)] at hx
      cases hx
  stop := fun m1 H1 s1 i e R hs => by
    have : n = i := by simpa [Src.size] using hs
    subst this
    exact Nat.le_refl _
theorem src_rngN {lo : Int} {n : Nat} : SrcR L K (.fix ((List.range n).map fun (k : Nat) => D.int (lo + (k : Nat) * -1))) (Itc lo (-1) n) m H where
  go := fun m1 H1 s1 i d e R hx => by
    have hx : ((List.range n).map fun (k : Nat) => D.int (lo + (k : Nat) * -1))[i]? = some d := hx
    rw [List.getElem?_map] at hx
    by_cases hi : i < n
    · rw [List.getElem?_range hi] at hx
      cases hx
      refine ⟨hi, fun x H' hy => ?_⟩
      obtain ⟨rfl, rfl⟩ := hy
      exact ⟨.refl _ _, R, .int _, fun _ _ => rfl⟩
    · rw [List.getElem?_eq_none (by simp; omega)] at hx
      cases hx
  stop := fun m1 H1 s1 i e R hs => by
    have : n = i := by simpa [Src.size] using hs
    subst this
    exact Nat.le_refl _
theorem src_str {z : Str} : SrcR L K (.fix (z.cps.toList.map fun c => D.str ⟨#[c]⟩)) (Its z) m H where
  go := fun m1 H1 s1 i d e R hx => by
    have hx : (z.cps.toList.map fun c => D.str ⟨#[c]⟩)[i]? = some d := hx
    rw [List.getElem?_map] at hx
    cases hc : z.cps.toList[i]? with
    | none => rw [hc] at hx; cases hx
    | some c =>
      rw [hc] at hx; cases hx
      have hc' : z.cps[i]? = some c := by simpa using hc
      have hl : i < z.cps.size := by
        obtain ⟨q, _⟩ := Array.getElem?_eq_some_iff.mp hc'
        exact q
      refine ⟨hl, fun x H' hy => ?_⟩
      obtain ⟨rfl, c', h1, rfl⟩ := hy
      rw [hc'] at h1; cases h1
      exact ⟨.refl _ _, R, .str _, fun _ _ => rfl⟩
  stop := fun m1 H1 s1 i e R hs => by
    have : z.cps.size = i := by simpa [Src.size] using hs
    subst this
    exact Nat.le_refl _
end
section
variable {p : Pg} {wf : Nat} {L : Lk} {t : CT} {k : Nat} {X : Cx} {N : List Str} {sc : Scope} {W : WX} {pos apos : Pos} {a b c e o : Expr} {ca cb cc ce co : E} {cf : CF}
variable {es : List Expr} {ces : List E} {tg : Expr}
theorem lst_of {s : ST} {l : Nat} (h : isLst s l = true) : ∃ xs, s[l]? = some (.lst xs) := by
  unfold isLst at h
  split at h
  · rename_i xs e; exact ⟨xs, e⟩
  · cases h
theorem i_seq (ha : PE X e (tE p L X.K cf ce W)) : PI X tg e (tI p L X.K cf (.seq ce) W) := by
  refine ⟨fun pins s σ H R I h => ?_⟩
  obtain ⟨m, v, st, R0, E, q⟩ := h
  have q : PostG L X.K m H ((evE p cf ce v st).bind fun x s => match x with
    | .tup xs => (.ok (.fix xs) s : Dt.R Src)
    | .rol xs => .ok (.fix xs) s
    | .ref l => if isLst s l = true then .ok (.list l) s else .bad
    | .str z => .ok (.fix (z.cps.toList.map fun c => .str ⟨#[c]⟩)) s
    | _ => .bad) (fun m' H' g _ => ∀ J, SrcR L X.K g J m' H' → R J H') (fun c d H => W c d σ H) := q
  cases er : evE p cf ce v st with
  | bad => rw [er] at q; exact q.elim
  | exc c fs s1 =>
    rw [er] at q
    refine (pi_list ha).run pins s σ H R I ⟨m, v, st, R0, E, ?_⟩
    rw [er]; exact q
  | ok d s1 =>
    rw [er, bind_ok] at q
    cases d with
    | tup xs =>
      refine (pi_tup ha).run pins s σ H R I ⟨m, v, st, R0, E, ?_⟩
      rw [er]
      intro m1 u H1 e1 R1 i1
      cases i1 with
      | @tup a vs _ h1 h2 => exact ⟨a, rfl, ⟨vs, h1.sq⟩, q m1 H1 e1 R1 _ (src_tup h1 h2)⟩
    | rol xs =>
      refine (pi_list ha).run pins s σ H R I ⟨m, v, st, R0, E, ?_⟩
      rw [er]
      intro m1 u H1 e1 R1 i1
      cases i1 with
      | @rol a vs _ h1 h2 => exact ⟨a, rfl, ⟨vs, h1.sq⟩, q m1 H1 e1 R1 _ (src_rol h1 h2)⟩
    | str z =>
      refine (pi_str ha).run pins s σ H R I ⟨m, v, st, R0, E, ?_⟩
      rw [er]
      intro m1 u H1 e1 R1 i1
      cases i1 with
      | str z => exact ⟨z, rfl, q m1 H1 e1 R1 _ src_str⟩
    | ref l =>
      refine (pi_list ha).run pins s σ H R I ⟨m, v, st, R0, E, ?_⟩
      rw [er]
      intro m1 u H1 e1 R1 i1
      simp only at q
      split at q
      · rename_i hl
        obtain ⟨xs, hx⟩ := lst_of hl
        cases i1 with
        | @ref a _ ha =>
          obtain ⟨vs, h1, h2⟩ := R1.at_ l _ a hx ha
          exact ⟨a, rfl, ⟨vs, .of h1⟩, q m1 H1 e1 R1 _ (src_list ha)⟩
      · exact q.elim
    | _ => exact q.elim
/-- one argument of a range -/
theorem args1 {g : D → ST → Dt.R Src} {σ : L2.St} {H : Hp} {R : L2.It → Hp → Prop} {m : List Addr} {v : EV} {st : ST} (R0 : Rel L X.K m H st) (E : EvR X.K m H σ v)
    (q : PostG L X.K m H ((evE p cf ce v st).bind g) (fun m' H' g _ => ∀ J, SrcR L X.K g J m' H' → R J H') (fun c d H => W c d σ H)) :
    tL p L X.K cf [ce] W σ H (fun us H1 => ∃ u m1 d s1, us = [u] ∧ Rel L X.K m1 H1 s1 ∧ IsD X.K m1 H1 u d ∧ PostG L X.K m1 H1 (g d s1) (fun m' H' g _ => ∀ J, SrcR L X.K g J m' H' → R J H') (fun c d H => W c d σ H)) := by
  refine ⟨m, v, st, R0, E, ?_⟩
  show PostL L X.K m H ((evE p cf ce v st).bind fun x s => .ok [x] s) _ _
  cases er : evE p cf ce v st with
  | bad => rw [er] at q; exact q.elim
  | exc c fs s1 => rw [er] at q; exact q
  | ok d s1 =>
    rw [er] at q
    intro m1 us H1 e1 R1 i1
    cases i1 with
    | cons i r => cases r; exact ⟨_, m1, d, s1, rfl, R1, i, PostG.mono e1 q⟩
theorem args2 {g : D → D → ST → Dt.R Src} {σ : L2.St} {H : Hp} {R : L2.It → Hp → Prop} {m : List Addr} {v : EV} {st : ST} (R0 : Rel L X.K m H st) (E : EvR X.K m H σ v)
    (q : PostG L X.K m H ((evE p cf ca v st).bind fun x s => (evE p cf cb v s).bind fun y s => g x y s) (fun m' H' g _ => ∀ J, SrcR L X.K g J m' H' → R J H') (fun c d H => W c d σ H)) :
    tL p L X.K cf [ca, cb] W σ H (fun us H1 => ∃ u u' m1 d d' s1, us = [u, u'] ∧ Rel L X.K m1 H1 s1 ∧ IsD X.K m1 H1 u d ∧ IsD X.K m1 H1 u' d' ∧ PostG L X.K m1 H1 (g d d' s1) (fun m' H' g _ => ∀ J, SrcR L X.K g J m' H' → R J H') (fun c d H => W c d σ H)) := by
  refine ⟨m, v, st, R0, E, ?_⟩
  show PostL L X.K m H ((evE p cf ca v st).bind fun x s => ((evE p cf cb v s).bind fun y s => .ok [y] s).bind fun xs s => .ok (x :: xs) s) _ _
  cases er : evE p cf ca v st with
  | bad => rw [er] at q; exact q.elim
  | exc c fs s1 => rw [er] at q; exact q
  | ok d s1 =>
    rw [er, bind_ok] at q
    rw [bind_ok]
    cases er2 : evE p cf cb v s1 with
    | bad => rw [er2] at q; exact q.elim
    | exc c fs s1 => rw [er2] at q; exact q
    | ok d' s2 =>
      rw [er2] at q
      intro m1 us H1 e1 R1 i1
      cases i1 with
      | cons i r => cases r with
        | cons i' r => cases r; exact ⟨_, _, m1, d, d', s2, rfl, R1, i, i', PostG.mono e1 q⟩
theorem stars1 {e : Expr} (h : ∀ a b, e ≠ .Starred a b) {env : Env} : starEach [e] env = [(false, eval e env)] := star_ok h
theorem stars2 {a b : Expr} (h : ∀ x y, a ≠ .Starred x y) (h' : ∀ x y, b ≠ .Starred x y) {env : Env} : starEach [a, b] env = [(false, eval a env), (false, eval b env)] := by
  rw [star_ok h, stars1 h']
theorem rg_of {i : Int} (h : rgOk i = true) : -(2 ^ 62) ≤ i ∧ i < 2 ^ 62 := by
  unfold rgOk at h
  simp only [Bool.and_eq_true, decide_eq_true_eq] at h
  exact h
theorem i_rng1 (hg : Gl X "range") (hm : X.mg "range" = none) (hs : ∀ x y, b ≠ .Starred x y) (hb : PA X [b] (tL p L X.K cf [cb] W)) {ppos : Pos} : PI X tg (.Call (.Name "range" ppos) [b] [] pos) (tI p L X.K cf (.rng none cb none) W) := by
  refine ⟨fun pins s σ H R I h => (pi_range1 hg hm hb (stars1 hs)).run pins s σ H R I ?_⟩
  obtain ⟨m, v, st, R0, E, q⟩ := h
  obtain ⟨m', v', st', R', E', q'⟩ := args1 R0 E q
  refine ⟨m', v', st', R', E', ?_⟩
  cases er : evL p cf [cb] v' st' with
  | bad => rw [er] at q'; exact q'.elim
  | exc _ _ _ => rw [er] at q'; exact q'
  | ok ds s2 =>
    rw [er] at q'
    intro m2 us H2 e2 R2 i2
    obtain ⟨u, m1, d, s1, rfl, R1, i1, q1⟩ := q' m2 us H2 e2 R2 i2
    cases i1 with
    | int j =>
      simp only at q1
      split at q1
      · rename_i hj
        refine ⟨j, rfl, (rg_of hj).1, (rg_of hj).2, q1 m1 H2 (.refl _ _) R1 _ ?_⟩
        have := src_rng (L := L) (K := X.K) (m := m1) (H := H2) (lo := 0) (n := j.toNat)
        unfold rangeU
        rw [show j - 0 = j by omega]
        exact this
      · exact q1.elim
    | _ => exact q1.elim
theorem i_rng2 (hg : Gl X "range") (hm : X.mg "range" = none) (hs : ∀ x y, a ≠ .Starred x y) (hs' : ∀ x y, b ≠ .Starred x y) (hb : PA X [a, b] (tL p L X.K cf [ca, cb] W)) {ppos : Pos} :
    PI X tg (.Call (.Name "range" ppos) [a, b] [] pos) (tI p L X.K cf (.rng (some ca) cb none) W) := by
  refine ⟨fun pins s σ H R I h => (pi_range2 hg hm hb (stars2 hs hs') (stars1 hs')).run pins s σ H R I ?_⟩
  obtain ⟨m, v, st, R0, E, q⟩ := h
  obtain ⟨m', v', st', R', E', q'⟩ := args2 R0 E q
  refine ⟨m', v', st', R', E', ?_⟩
  cases er : evL p cf [ca, cb] v' st' with
  | bad => rw [er] at q'; exact q'.elim
  | exc _ _ _ => rw [er] at q'; exact q'
  | ok ds s2 =>
    rw [er] at q'
    intro m2 us H2 e2 R2 i2
    obtain ⟨u, u', m1, d, d', s1, rfl, R1, i1, i1', q1⟩ := q' m2 us H2 e2 R2 i2
    cases i1 with
    | int i =>
      cases i1' with
      | int j =>
        simp only at q1
        split at q1
        · rename_i hj
          rw [Bool.and_eq_true] at hj
          exact ⟨i, j, rfl, ⟨(rg_of hj.1).1, (rg_of hj.1).2, (rg_of hj.2).1, (rg_of hj.2).2⟩, q1 m1 H2 (.refl _ _) R1 _ src_rng⟩
        · exact q1.elim
      | _ => exact q1.elim
    | _ => cases i1' <;> exact q1.elim
theorem i_enum (hg : Gl X "enumerate") (hm : X.mg "enumerate" = none) (hs : ∀ x y, b ≠ .Starred x y) (hb : PA X [b] (tL p L X.K cf [cb] W)) {ppos tpos : Pos} {elts : List Expr} {kk : Nat} :
    PI X (.Tuple elts kk tpos) (.Call (.Name "enumerate" ppos) [b] [] pos) (tI p L X.K cf (.enum cb) W) := by
  refine ⟨fun pins s σ H R I h => (pi_enum hg hm hb (stars1 hs)).run pins s σ H R I ?_⟩
  obtain ⟨m, v, st, R0, E, q⟩ := h
  obtain ⟨m', v', st', R', E', q'⟩ := args1 R0 E q
  refine ⟨m', v', st', R', E', ?_⟩
  cases er : evL p cf [cb] v' st' with
  | bad => rw [er] at q'; exact q'.elim
  | exc _ _ _ => rw [er] at q'; exact q'
  | ok ds s2 =>
    rw [er] at q'
    intro m2 us H2 e2 R2 i2
    obtain ⟨u, m1, d, s1, rfl, R1, i1, q1⟩ := q' m2 us H2 e2 R2 i2
    cases i1 with
    | @ref a l ha =>
      simp only at q1
      split at q1
      · rename_i hl
        obtain ⟨xs, hx⟩ := lst_of hl
        obtain ⟨vs, h1, h2⟩ := R1.at_ l _ a hx ha
        exact ⟨a, vs, rfl, .of h1, q1 m1 H2 (.refl _ _) R1 _ (src_enum ha)⟩
      · exact q1.elim
    | _ => exact q1.elim
theorem i_zip (hg : Gl X "zip") (hm : X.mg "zip" = none) (hs : ∀ x y, a ≠ .Starred x y) (hs' : ∀ x y, b ≠ .Starred x y) (hb : PA X [a, b] (tL p L X.K cf [ca, cb] W)) {ppos tpos : Pos} {elts : List Expr} {kk : Nat} :
    PI X (.Tuple elts kk tpos) (.Call (.Name "zip" ppos) [a, b] [] pos) (tI p L X.K cf (.zip ca cb) W) := by
  refine ⟨fun pins s σ H R I h => (pi_zip hg hm hb (star_ok hs) (stars_ok (by simpa using hs'))).run pins s σ H R I ?_⟩
  obtain ⟨m, v, st, R0, E, q⟩ := h
  obtain ⟨m', v', st', R', E', q'⟩ := args2 R0 E q
  refine ⟨m', v', st', R', E', ?_⟩
  cases er : evL p cf [ca, cb] v' st' with
  | bad => rw [er] at q'; exact q'.elim
  | exc _ _ _ => rw [er] at q'; exact q'
  | ok ds s2 =>
    rw [er] at q'
    intro m2 us H2 e2 R2 i2
    obtain ⟨u, u', m1, d, d', s1, rfl, R1, i1, i1', q1⟩ := q' m2 us H2 e2 R2 i2
    cases i1 with
    | @ref a l ha =>
      cases i1' with
      | @ref b j hb =>
        simp only at q1
        split at q1
        · rename_i hl
          rw [Bool.and_eq_true] at hl
          obtain ⟨xs, hx⟩ := lst_of hl.1
          obtain ⟨ys, hy⟩ := lst_of hl.2
          obtain ⟨vs, h1, h2⟩ := R1.at_ l _ a hx ha
          obtain ⟨us, g1, g2⟩ := R1.at_ j _ b hy hb
          exact ⟨a, b, vs, us, rfl, .of h1, .of g1, q1 m1 H2 (.refl _ _) R1 _ (src_zip ha hb)⟩
        · exact q1.elim
      | _ => exact q1.elim
    | _ => cases i1' <;> exact q1.elim
end
end Dt
namespace Dt
open PySem PySem.Spec PyProof.Rows L2
/-! ### targets -/
mutual
def gOf (K : PySem.W.Frag) : Tg → TG
  | .name i => gName i
  | .tup ts => gTup K ts.length (gsOf K ts)
  | _ => fun _ _ _ _ => False
def gsOf (K : PySem.W.Frag) : List Tg → TGs
  | [] => gNil
  | t :: ts => gCons (gOf K t) (gsOf K ts)
end
mutual
/-- names alone, in these slots -/
def plainT (own : List Nat) : Tg → Bool
  | .name i => own.contains i
  | .tup ts => plainTs own ts
  | _ => false
def plainTs (own : List Nat) : List Tg → Bool
  | [] => true
  | t :: ts => plainT own t && plainTs own ts
end
theorem wipe_at (σ : L2.St) (j : Nat) : ∀ vs : List Nat, (L2.wipe σ vs)[j]? = if j ∈ vs then (σ[j]?).map (fun _ => none) else σ[j]?
  | [] => by simp [L2.wipe]
  | v :: vs => by
    show ((L2.wipe σ vs).set v none)[j]? = _
    have ih := wipe_at σ j vs
    by_cases hj : v = j
    · subst hj
      rw [List.getElem?_set_self']
      simp only [List.mem_cons, true_or, if_true]
      rw [ih]
      split
      · cases σ[v]? <;> rfl
      · rfl
    · rw [List.getElem?_set_ne hj, ih]
      have : (j ∈ v :: vs) ↔ j ∈ vs := by
        simp only [List.mem_cons]
        exact ⟨fun h => h.elim (fun e => absurd e.symm hj) id, .inr⟩
      by_cases q : j ∈ vs
      · rw [if_pos q, if_pos (this.mpr q)]
      · rw [if_neg q, if_neg fun z => q (this.mp z)]
theorem wipe_set {σ : L2.St} {i : Nat} {u : Option V} {own : List Nat} (h : i ∈ own) : L2.wipe (σ.set i u) own = L2.wipe σ own := by
  apply List.ext_getElem?
  intro j
  rw [wipe_at, wipe_at]
  split
  · by_cases hj : i = j
    · subst hj
      rw [List.getElem?_set_self']
      cases σ[i]? <;> rfl
    · rw [List.getElem?_set_ne hj]
  · rename_i hn
    rw [List.getElem?_set_ne]
    rintro rfl; exact hn h
theorem wipe_wipe {σ : L2.St} {own : List Nat} : L2.wipe (L2.wipe σ own) own = L2.wipe σ own := by
  apply List.ext_getElem?
  intro j
  rw [wipe_at, wipe_at]
  split
  · cases σ[j]? <;> rfl
  · rfl
section
variable {p : Pg} {L : Lk} {K : PySem.W.Frag} {m : List Addr} {H : Hp} {cf : CF}
mutual
/-- a target of names takes a value -/
theorem g_ok (own : List Nat) : ∀ (t : Tg) (u : V) (d : D) (σ : L2.St) (v : EV) (s : ST), plainT own t = true → EvR K m H σ v → IsD K m H u d →
    evG p cf t d v s = .bad ∨ ∃ v', evG p cf t d v s = .ok v' s ∧ ∀ Q : L2.St → Hp → Prop, (∀ σ', EvR K m H σ' v' → L2.wipe σ' own = L2.wipe σ own → Q σ' H) → gOf K t u σ H Q
  | .name i, u, d, σ, v, s, hp, E, hu => by
    have e : evG p cf (.name i) d v s = if i < v.length then .ok (v.set i (some d)) s else .bad := rfl
    rw [e]
    split
    · refine .inr ⟨_, rfl, fun Q hQ => hQ _ (E.set hu i) (wipe_set ?_)⟩
      simpa [plainT] using hp
    · exact .inl rfl
  | .tup ts, u, d, σ, v, s, hp, E, hu => by
    cases hu with
    | @tup a vs ds h1 h2 =>
      have e : evG p cf (.tup ts) (.tup ds) v s = if ds.length = ts.length then evGs p cf ts ds v s else .bad := rfl
      rw [e]
      split
      · rename_i hl
        rcases gs_ok own ts vs ds σ v s (by simpa [plainT] using hp) E h2 with h | ⟨v', h, hg⟩
        · exact .inl h
        · exact .inr ⟨v', h, fun Q hQ => ⟨a, vs, rfl, h1.sq, by rw [h2.len, hl], hg Q hQ⟩⟩
      · exact .inl rfl
    | _ => exact .inl rfl
  | .sub _ _, _, _, _, _, _, hp, _, _ => by cases hp
  | .fld _ _, _, _, _, _, _, hp, _, _ => by cases hp
theorem gs_ok (own : List Nat) : ∀ (ts : List Tg) (us : List V) (ds : List D) (σ : L2.St) (v : EV) (s : ST), plainTs own ts = true → EvR K m H σ v → IsDs K m H us ds →
    evGs p cf ts ds v s = .bad ∨ ∃ v', evGs p cf ts ds v s = .ok v' s ∧ ∀ Q : L2.St → Hp → Prop, (∀ σ', EvR K m H σ' v' → L2.wipe σ' own = L2.wipe σ own → Q σ' H) → gsOf K ts us σ H Q
  | [], us, ds, σ, v, s, hp, E, hu => by
    cases hu with
    | nil => exact .inr ⟨v, rfl, fun Q hQ => ⟨rfl, hQ σ E rfl⟩⟩
    | cons _ _ => exact .inl rfl
  | t :: ts, us, ds, σ, v, s, hp, E, hu => by
    cases hu with
    | nil => exact .inl rfl
    | @cons u d us ds iu ir =>
      simp only [plainTs, Bool.and_eq_true] at hp
      have e : evGs p cf (t :: ts) (d :: ds) v s = (evG p cf t d v s).bind fun v s => evGs p cf ts ds v s := rfl
      rw [e]
      rcases g_ok own t u d σ v s hp.1 E iu with h | ⟨v1, h, hg⟩
      · rw [h]; exact .inl rfl
      · rw [h, bind_ok]
        cases h2 : evGs p cf ts ds v1 s with
        | bad => exact .inl rfl
        | exc c fs s2 =>
          exfalso
          have : ∀ (ts : List Tg) (ds : List D) (v : EV), plainTs own ts = true → ∀ c fs s2, evGs p cf ts ds v s ≠ .exc c fs s2 := fun ts ds v hp c fs s2 => gs_nox own ts ds v s hp c fs s2
          exact this ts ds v1 hp.2 c fs s2 h2
        | ok v' s' =>
          have key : ∀ σ1, EvR K m H σ1 v1 → s' = s ∧ ∀ Q : L2.St → Hp → Prop, (∀ σ', EvR K m H σ' v' → L2.wipe σ' own = L2.wipe σ1 own → Q σ' H) → gsOf K ts us σ1 H Q := by
            intro σ1 E1
            rcases gs_ok own ts us ds σ1 v1 s hp.2 E1 ir with h3 | ⟨v'', h3, hg3⟩
            · rw [h2] at h3; cases h3
            · rw [h2] at h3; cases h3; exact ⟨rfl, hg3⟩
          have hs : s' = s := by
            have := gs_st own ts ds v1 s hp.2 v' s' h2
            exact this
          subst hs
          refine .inr ⟨v', rfl, fun Q hQ => ⟨u, us, rfl, hg _ fun σ1 E1 hw1 => (key σ1 E1).2 Q fun σ' E' hw => hQ σ' E' (hw.trans hw1)⟩⟩
theorem g_nox (own : List Nat) : ∀ (t : Tg) (d : D) (v : EV) (s : ST), plainT own t = true → ∀ c fs s2, evG p cf t d v s ≠ .exc c fs s2
  | .name i, d, v, s, hp, c, fs, s2 => by
    have e : evG p cf (.name i) d v s = if i < v.length then .ok (v.set i (some d)) s else .bad := rfl
    rw [e]; split <;> simp
  | .tup ts, d, v, s, hp, c, fs, s2 => by
    cases d with
    | tup ds =>
      have e : evG p cf (.tup ts) (.tup ds) v s = if ds.length = ts.length then evGs p cf ts ds v s else .bad := rfl
      rw [e]; split
      · exact gs_nox own ts ds v s (by simpa [plainT] using hp) c fs s2
      · simp
    | _ => exact fun z => by cases z
  | .sub _ _, _, _, _, hp, _, _, _ => by cases hp
  | .fld _ _, _, _, _, hp, _, _, _ => by cases hp
theorem gs_nox (own : List Nat) : ∀ (ts : List Tg) (ds : List D) (v : EV) (s : ST), plainTs own ts = true → ∀ c fs s2, evGs p cf ts ds v s ≠ .exc c fs s2
  | [], [], v, s, hp, c, fs, s2 => fun z => by cases z
  | [], _ :: _, v, s, hp, c, fs, s2 => fun z => by cases z
  | _ :: _, [], v, s, hp, c, fs, s2 => fun z => by cases z
  | t :: ts, d :: ds, v, s, hp, c, fs, s2 => by
    simp only [plainTs, Bool.and_eq_true] at hp
    have e : evGs p cf (t :: ts) (d :: ds) v s = (evG p cf t d v s).bind fun v s => evGs p cf ts ds v s := rfl
    rw [e]
    cases h : evG p cf t d v s with
    | bad => simp
    | exc c' fs' s' => exact absurd h (g_nox own t d v s hp.1 c' fs' s')
    | ok v1 s1 => rw [bind_ok]; exact gs_nox own ts ds v1 s1 hp.2 c fs s2
theorem g_st (own : List Nat) : ∀ (t : Tg) (d : D) (v : EV) (s : ST), plainT own t = true → ∀ v' s', evG p cf t d v s = .ok v' s' → s' = s
  | .name i, d, v, s, hp, v', s' => by
    have e : evG p cf (.name i) d v s = if i < v.length then .ok (v.set i (some d)) s else .bad := rfl
    rw [e]; split
    · intro h; cases h; rfl
    · intro h; cases h
  | .tup ts, d, v, s, hp, v', s' => by
    cases d with
    | tup ds =>
      have e : evG p cf (.tup ts) (.tup ds) v s = if ds.length = ts.length then evGs p cf ts ds v s else .bad := rfl
      rw [e]; split
      · exact gs_st own ts ds v s (by simpa [plainT] using hp) v' s'
      · intro h; cases h
    | _ => exact fun z => by cases z
  | .sub _ _, _, _, _, hp, _, _ => by cases hp
  | .fld _ _, _, _, _, hp, _, _ => by cases hp
theorem gs_st (own : List Nat) : ∀ (ts : List Tg) (ds : List D) (v : EV) (s : ST), plainTs own ts = true → ∀ v' s', evGs p cf ts ds v s = .ok v' s' → s' = s
  | [], [], v, s, hp, v', s' => fun h => by cases h; rfl
  | [], _ :: _, v, s, hp, v', s' => fun h => by cases h
  | _ :: _, [], v, s, hp, v', s' => fun h => by cases h
  | t :: ts, d :: ds, v, s, hp, v', s' => by
    simp only [plainTs, Bool.and_eq_true] at hp
    have e : evGs p cf (t :: ts) (d :: ds) v s = (evG p cf t d v s).bind fun v s => evGs p cf ts ds v s := rfl
    rw [e]
    cases h : evG p cf t d v s with
    | bad => intro z; cases z
    | exc c' fs' s' => intro z; cases z
    | ok v1 s1 =>
      have := g_st own t d v s hp.1 v1 s1 h
      subst this
      rw [bind_ok]
      exact gs_st own ts ds v1 s1 hp.2 v' s'
end
/-- a list that nobody in the store knows is changed -/
theorem TupAt.off {a D : Addr} {vs zs ys : List V} (hD : H D = some (.lst ys)) (h : TupAt K m H a vs) : TupAt K m (upd H D (.lst zs)) a vs := by
  rcases h with ⟨h, n⟩ | h
  · refine .inl ⟨?_, n⟩
    rcases h with h | ⟨o, h⟩
    · exact .inl (by rw [upd_ne (ne_of h hD (by intro z; cases z))]; exact h)
    · exact .inr ⟨o, by rw [upd_ne (ne_of h hD (by intro z; cases z))]; exact h⟩
  · exact .inr h
theorem RolAt.off {a D : Addr} {vs zs ys : List V} (hD : H D = some (.lst ys)) (h : RolAt K m H a vs) : RolAt K m (upd H D (.lst zs)) a vs := by
  rcases h with ⟨⟨o, h⟩, n⟩ | h
  · exact .inl ⟨⟨o, by rw [upd_ne (ne_of h hD (by intro z; cases z))]; exact h⟩, n⟩
  · exact .inr h
mutual
theorem IsD.off {D : Addr} {zs ys : List V} (hD : H D = some (.lst ys)) : ∀ {v : V} {d : Dt.D}, IsD K m H v d → IsD K m (upd H D (.lst zs)) v d
  | _, _, .non => .non
  | _, _, .bl b => .bl b
  | _, _, .int i => .int i
  | _, _, .str x => .str x
  | _, _, .tup h r => .tup (h.off hD) (IsDs.off hD r)
  | _, _, .rol h r => .rol (h.off hD) (IsDs.off hD r)
  | _, _, .ref h => .ref h
theorem IsDs.off {D : Addr} {zs ys : List V} (hD : H D = some (.lst ys)) : ∀ {v : List V} {d : List Dt.D}, IsDs K m H v d → IsDs K m (upd H D (.lst zs)) v d
  | _, _, .nil => .nil
  | _, _, .cons h r => .cons (IsD.off hD h) (IsDs.off hD r)
end
theorem FsR.off {D : Addr} {zs ys : List V} (hD : H D = some (.lst ys)) {r : List (Str × V)} {q : List (Nat × Dt.D)} (h : FsR L K m H r q) : FsR L K m (upd H D (.lst zs)) r q := by
  induction h with
  | nil => exact .nil
  | cons a b _ ih => exact .cons a (b.off hD) ih
theorem Rel.off {s : ST} (R : Rel L K m H s) {D : Addr} {zs ys : List V} (hD : H D = some (.lst ys)) (n : D ∉ m) : Rel L K m (upd H D (.lst zs)) s := by
  refine ⟨R.nd, R.len, fun l o a h1 h2 => ?_⟩
  have hne : a ≠ D := by rintro rfl; exact n (List.mem_of_getElem? h2)
  have h := R.at_ l o a h1 h2
  cases o with
  | lst xs => obtain ⟨vs, e1, g⟩ := h; exact ⟨vs, by rw [upd_ne hne, e1], g.off hD⟩
  | dic t kvs => cases t with
    | false => obtain ⟨vs, e1, g1, g2, g3⟩ := h; exact ⟨vs, by rw [upd_ne hne, e1], g1, g2, g3.off hD⟩
    | true => obtain ⟨vs, e1, g1, g3⟩ := h; exact ⟨vs, by rw [upd_ne hne, e1], g1, g3.off hD⟩
  | ins C fs => obtain ⟨dx, vs, e1, g, g2⟩ := h; exact ⟨dx, vs, by rw [upd_ne hne, e1], g.off hD, g2⟩
mutual
theorem IsD.adopt {D : Addr} {ys : List V} (hD : H D = some (.lst ys)) : ∀ {v : V} {d : Dt.D}, IsD K m H v d → IsD K (m ++ [D]) H v d
  | _, _, .non => .non
  | _, _, .bl b => .bl b
  | _, _, .int i => .int i
  | _, _, .str x => .str x
  | _, _, .tup h r => .tup (h.elim (fun z => .inl ⟨z.1, by
      have hne := z.1.elim (fun q => ne_of q hD (by intro z; cases z)) fun ⟨o, q⟩ => ne_of q hD (by intro z; cases z)
      simp only [List.mem_append, List.mem_singleton, not_or]; exact ⟨z.2, hne⟩⟩) .inr) (IsDs.adopt hD r)
  | _, _, .rol h r => .rol (h.elim (fun z => .inl ⟨z.1, by
      have hne := z.1.elim fun o q => ne_of q hD (by intro z; cases z)
      simp only [List.mem_append, List.mem_singleton, not_or]; exact ⟨z.2, hne⟩⟩) .inr) (IsDs.adopt hD r)
  | _, _, .ref h => .ref (by
      obtain ⟨hl, rfl⟩ := List.getElem?_eq_some_iff.mp h
      rw [List.getElem?_append_left hl]; exact h)
theorem IsDs.adopt {D : Addr} {ys : List V} (hD : H D = some (.lst ys)) : ∀ {v : List V} {d : List Dt.D}, IsDs K m H v d → IsDs K (m ++ [D]) H v d
  | _, _, .nil => .nil
  | _, _, .cons h r => .cons (IsD.adopt hD h) (IsDs.adopt hD r)
end
theorem FsR.adopt {D : Addr} {ys : List V} (hD : H D = some (.lst ys)) {r : List (Str × V)} {q : List (Nat × Dt.D)} (h : FsR L K m H r q) : FsR L K (m ++ [D]) H r q := by
  induction h with
  | nil => exact .nil
  | cons a b _ ih => exact .cons a (b.adopt hD) ih
/-- a list is taken into the store -/
theorem Rel.adopt {s : ST} (R : Rel L K m H s) {D : Addr} {ys : List V} {ds : List Dt.D} (hD : H D = some (.lst ys)) (n : D ∉ m) (i : IsDs K m H ys ds) : Rel L K (m ++ [D]) H (s ++ [.lst ds]) := by
  refine ⟨?_, by simp [R.len], fun l o' a h1 h2 => ?_⟩
  · rw [List.nodup_append]
    refine ⟨R.nd, by simp, fun a ha b hb => ?_⟩
    simp at hb; subst hb
    rintro rfl; exact n ha
  · by_cases hl : l < s.length
    · rw [List.getElem?_append_left hl] at h1
      rw [List.getElem?_append_left (by rw [R.len]; exact hl)] at h2
      have h := R.at_ l o' a h1 h2
      cases o' with
      | lst xs => obtain ⟨vs, e1, g⟩ := h; exact ⟨vs, e1, g.adopt hD⟩
      | dic t kvs => cases t with
        | false => obtain ⟨vs, e1, g1, g2, g3⟩ := h; exact ⟨vs, e1, g1, g2, g3.adopt hD⟩
        | true => obtain ⟨vs, e1, g1, g3⟩ := h; exact ⟨vs, e1, g1, g3.adopt hD⟩
      | ins C fs => obtain ⟨dx, vs, e1, g, g2⟩ := h; exact ⟨dx, vs, e1, g.adopt hD, g2⟩
    · rw [List.getElem?_append_right (by omega)] at h1
      rw [List.getElem?_append_right (by rw [R.len]; omega)] at h2
      rw [R.len] at h2
      have e : l - s.length = 0 := by
        cases q : l - s.length with
        | zero => rfl
        | succ n => rw [q] at h1; simp at h1
      rw [e] at h1 h2
      simp at h1 h2
      subst h1; subst h2
      exact ⟨ys, hD, i.adopt hD⟩
end
end Dt
namespace Dt
open PySem PySem.Spec PyProof.Rows L2
abbrev W0 : WX := fun _ _ _ _ => False
section
variable {p : Pg} {wf : Nat} {L : Lk} {t : CT} {k : Nat} {X : Cx} {N : List Str} {sc : Scope} {stb : Str → Bool} {W : WX} {pos apos : Pos} {a b c e o : Expr} {ca cb cc ce co : E} {cf : CF}
variable {es : List Expr} {ces : List E} {tg : Expr}
/-- a turn of a comprehension -/
def lcT (p : Pg) (cf : CF) (own : List Nat) (tt : Tg) (c : Option E) (e : E) (v : EV) : D → ST → Dt.R (Option D) := fun x s => (evG p cf tt x (wipeE v own) s).bind fun v s => match c with
  | some c => (evE p cf c v s).bind fun x s => (lift (truth s x) s).bind fun k s => if k = true then (evE p cf e v s).bind fun y s => .ok (some y) s else .ok none s
  | none => (evE p cf e v s).bind fun y s => .ok (some y) s
theorem evE_lc {own : List Nat} {tt : Tg} {it : Dt.It} {c : Option E} {e : E} {v : EV} {s : ST} : evE p cf (.lc own tt it c e) v s = (evI p cf it v s).bind fun g s => match g.size s with
    | some n => (lcR g (lcT p cf own tt c e v) n 0 [] s).bind fun ys s => alloc (.lst ys) s
    | none => .bad := by
  unfold lcT
  rw [evE]
  try congr 1
theorem lcR_nox {g : Src} {turn : D → ST → Dt.R (Option D)} : ∀ (r i : Nat) (acc : List D) (s : ST) (c : Nat) (fs : List (Nat × D)) (s' : ST), lcR g turn r i acc s ≠ .exc c fs s'
  | 0, i, acc, s, c, fs, s' => by unfold lcR; split <;> simp
  | r + 1, i, acc, s, c, fs, s' => by
    unfold lcR
    split
    · simp
    · split
      · split
        · exact lcR_nox r _ _ _ _ _ _
        · simp
      · exact lcR_nox r _ _ _ _ _ _
      · simp
/-- the tests of a comprehension -/
def tC (p : Pg) (L : Lk) (K : PySem.W.Frag) (cf : CF) (c : Option E) : TT := match c with
  | none => tYes
  | some c => tT p L K cf c W0
/-- the rest of a comprehension, by what is left -/
def LcW (p : Pg) (L : Lk) (K : PySem.W.Frag) (cf : CF) (own : List Nat) (tt : Tg) (c : Option E) (e : E) (v : EV) (g : Src) (D : Addr) (m1 : List Addr) (H1 : Hp) (Q : VK) (i r : Nat) (H : Hp) : Prop :=
  ∃ m s acc ds, Ext m1 H1 m H ∧ Rel L K m H s ∧ H D = some (.lst acc) ∧ D ∉ m ∧ IsDs K m H acc ds ∧ Post L K m1 H1 ((lcR g (lcT p cf own tt c e v) r i ds s).bind fun ys s => alloc (.lst ys) s) Q (fun _ _ _ => False)
theorem lc_turn {own : List Nat} {tt : Tg} {c : Option E} {e : E} {v : EV} {g : Src} {J : L2.It} {D : Addr} {m1 : List Addr} {H1 : Hp} {Q : VK} {i r : Nat} {H : Hp} {σ : L2.St} {K : PySem.W.Frag} (hD : H1 D = none) (S : SrcR L K g J m1 H1) (E : EvR K m1 H1 σ v) (hp : plainT own tt = true)
    (h : LcW p L K cf own tt c e v g D m1 H1 Q i r H) : (J.stop i H ∧ Q (.ref D) H) ∨ (J.go i H ∧ ∃ r', r' + 1 = r ∧ ∀ x H', J.yld i H x H' → gOf K tt x (L2.wipe σ own) H' fun σ2 H2 => L2.wipe σ2 own = L2.wipe σ own ∧ tC p L K cf c σ2 H2 fun b H3 =>
      if b = true then tE p L K cf e W0 σ2 H3 fun y H4 => ∃ acc, H4 D = some (.lst acc) ∧ acc.length < sizeLine ∧ LcW p L K cf own tt c e v g D m1 H1 Q (i + 1) r' (upd H4 D (.lst (acc ++ [y]))) else LcW p L K cf own tt c e v g D m1 H1 Q (i + 1) r' H3) := by
  obtain ⟨m, s, acc, ds, e1, R, hA, nD, ia, q⟩ := h
  cases r with
  | zero =>
    left
    have q : Post L K m1 H1 ((if g.size s = some i then (.ok ds s : Dt.R (List Dt.D)) else .bad).bind fun ys s => alloc (.lst ys) s) Q (fun _ _ _ => False) := q
    split at q
    · rename_i hz
      refine ⟨S.stop m H s i e1 R hz, ?_⟩
      have ex : Ext m1 H1 (m ++ [D]) H := by
        obtain ⟨t, rfl, ht⟩ := e1.pre
        refine ⟨⟨t ++ [D], by rw [List.append_assoc], fun a ha => ?_⟩, e1.keep, e1.there⟩
        rcases List.mem_append.mp ha with z | z
        · exact ht a z
        · simp at z; subst z; exact hD
      exact q _ _ _ ex (R.adopt hA nD ia) (.ref (by rw [← R.len]; simp))
    · exact q.elim
  | succ r =>
    right
    have q : Post L K m1 H1 ((match g.at_ i s with
      | none => (.bad : Dt.R (List Dt.D))
      | some x => match lcT p cf own tt c e v x s with
        | .ok (some y) s' => if ds.length < LN then lcR g (lcT p cf own tt c e v) r (i + 1) (ds ++ [y]) s' else .bad
        | .ok none s' => lcR g (lcT p cf own tt c e v) r (i + 1) ds s'
        | _ => .bad).bind fun ys s => alloc (.lst ys) s) Q (fun _ _ _ => False) := q
    cases hx : g.at_ i s with
    | none => rw [hx] at q; exact q.elim
    | some d =>
      rw [hx] at q
      obtain ⟨hg, hy⟩ := S.go m H s i d e1 R hx
      refine ⟨hg, r, rfl, fun x H' hyl => ?_⟩
      obtain ⟨e2, R2, ix, hold⟩ := hy x H' hyl
      have hA2 : H' D = some (.lst acc) := by rw [hold D (by rw [hA]; simp)]; exact hA
      have E2 : EvR K m H' (L2.wipe σ own) (wipeE v own) := ((E.mono e1).mono e2).wipe own
      rcases g_ok (p := p) (cf := cf) own tt x d _ _ s hp E2 ix with hb | ⟨v', hv, hG⟩
      · simp only [lcT, hb, bind_bad] at q
        exact q.elim
      · refine hG _ fun σ' E' hw => ⟨hw.trans wipe_wipe, ?_⟩
        simp only [lcT, hv, bind_ok] at q
        -- the element
        have elem : ∀ (m3 : List Addr) (H3 : Hp) (s3 : ST), Ext m H' m3 H3 → Rel L K m3 H3 s3 →
            Post L K m1 H1 ((match ((evE p cf e v' s3).bind fun y s => (.ok (some y) s : Dt.R (Option Dt.D))) with
              | .ok (some y) s' => if ds.length < LN then lcR g (lcT p cf own tt c e v) r (i + 1) (ds ++ [y]) s' else .bad
              | .ok none s' => lcR g (lcT p cf own tt c e v) r (i + 1) ds s'
              | _ => .bad).bind fun ys s => alloc (.lst ys) s) Q (fun _ _ _ => False) →
            tE p L K cf e W0 σ' H3 fun y H4 => ∃ acc, H4 D = some (.lst acc) ∧ acc.length < sizeLine ∧ LcW p L K cf own tt c e v g D m1 H1 Q (i + 1) r (upd H4 D (.lst (acc ++ [y]))) := by
          intro m3 H3 s3 e3 R3 q
          refine ⟨m3, v', s3, R3, E'.mono e3, ?_⟩
          cases er : evE p cf e v' s3 with
          | bad => rw [er] at q; exact q.elim
          | exc c fs s4 => rw [er] at q; exact q.elim
          | ok y s4 =>
            rw [er, bind_ok] at q
            simp only at q
            split at q
            · rename_i hz
              intro m4 u H4 e4 R4 i4
              have nD3 : D ∉ m3 := e3.notin hA2 nD
              have nD4 : D ∉ m4 := e4.notin (e3.keep D _ hA2 nD) nD3
              have hA4 : H4 D = some (.lst acc) := e4.keep D _ (e3.keep D _ hA2 nD) nD3
              refine ⟨acc, hA4, by rw [LN_eq, ia.len]; exact hz, m4, s4, acc ++ [u], ds ++ [y], ?_, R4.off hA4 nD4, upd_same, nD4, ?_, q⟩
              · have ex := e1.trans (e2.trans (e3.trans e4))
                exact ⟨ex.pre, fun a ho h n => by rw [upd_ne (ne_of_none h hD)]; exact ex.keep a ho h n, fun a h => by
                  by_cases z : a = D
                  · subst z; rw [upd_same]; simp
                  · rw [upd_ne z]; exact ex.there a h⟩
              · exact ((((ia.mono e2).mono e3).mono e4).app (.cons i4 .nil)).off hA4
            · exact q.elim
        cases c with
        | none => exact iteT (B := LcW p L K cf own tt none e v g D m1 H1 Q (i + 1) r H') (elem m H' s (.refl _ _) R2 q)
        | some c =>
          simp only at q
          show tT p L K cf c W0 σ' H' _
          refine ⟨m, v', s, R2, E', ?_⟩
          show PostG L K m H' ((evE p cf c v' s).bind fun x s => lift (truth s x) s) _ _
          cases er : evE p cf c v' s with
          | bad => rw [er] at q; exact q.elim
          | exc c fs s4 => rw [er] at q; exact q.elim
          | ok d3 s3 =>
            rw [er, bind_ok] at q
            rw [bind_ok]
            cases et : truth s3 d3 with
            | none => rw [et] at q; exact q.elim
            | some j =>
              rw [et, lift_some, bind_ok] at q
              intro m3 H3 e3 R3
              cases j with
              | true => exact iteT (elem m3 H3 s3 e3 R3 q)
              | false =>
                refine iteF ?_
                have hA3 : H3 D = some (.lst acc) := e3.keep D _ hA2 nD
                exact ⟨m3, s3, acc, ds, e1.trans (e2.trans e3), R3, hA3, e3.notin hA2 nD, (ia.mono e2).mono e3, q⟩
/-- a comprehension's reading -/
theorem lc_arm {own : List Nat} {tt : Tg} {it : Dt.It} {c : Option E} {e : E} (hp : plainT own tt = true) {σ : L2.St} {H : Hp} {Q : VK} (h : tE p L X.K cf (.lc own tt it c e) W σ H Q) :
    tLc (tI p L X.K cf it W) (gOf X.K tt) (tC p L X.K cf c) (tE p L X.K cf e W0) own σ H Q := by
  obtain ⟨m, v, s, R, E, q⟩ := h
  rw [evE_lc] at q
  refine ⟨m, v, s, R, E, ?_⟩
  cases er : evI p cf it v s with
  | bad => rw [er] at q; exact q.elim
  | exc _ _ _ => rw [er] at q; exact q
  | ok g s1 =>
    rw [er, bind_ok] at q
    intro m1 H1 e1 R1 J S D hD
    cases hz : g.size s1 with
    | none => rw [hz] at q; exact q.elim
    | some n =>
      rw [hz] at q
      simp only at q
      refine ⟨fun i r H => LcW p L X.K cf own tt c e v g D m1 H1 Q i r H, ⟨n, m1, s1, [], [], .laid hD, R1.laid hD, upd_same, fun z => R1.there z hD, .nil, ?_⟩, fun i r H hW => ?_⟩
      · have q := Post.mono e1 q
        cases q2 : (lcR g (lcT p cf own tt c e v) n 0 [] s1) with
        | bad => rw [q2] at q; exact q.elim
        | ok ys s2 => rw [q2] at q; exact q
        | exc cc fs s2 => exact absurd q2 (lcR_nox _ _ _ _ _ _ _)
      · rcases lc_turn hD S (E.mono e1) hp hW with h | ⟨h1, r', hr, h2⟩
        · exact .inl h
        · exact .inr ⟨h1, fun H' => LcW p L X.K cf own tt c e v g D m1 H1 Q (i + 1) r' H', fun H' w => ⟨r', by omega, w⟩, h2⟩
end
end Dt
namespace Dt
open PySem PySem.Spec PyProof.Rows L2
section
variable {p : Pg} {wf : Nat} {L : Lk} {t : CT} {k : Nat} {X : Cx} {N : List Str} {sc : Scope} {stb : Str → Bool} {W : WX} {pos apos : Pos} {a b c e o : Expr} {ca cb cc ce co : E} {cf : CF}
variable {es : List Expr} {ces : List E} {tg : Expr}
/-! ### methods of built-in types -/
def bmN : Bm → Str
  | .append => "append" | .pop => "pop" | .extend => "extend" | .split => "split" | .join => "join" | .count => "count" | .index => "index" | .get => "get"
def bmTy : Bm → String
  | .split => "str" | .join => "str" | .count => "str" | .get => "dict" | _ => "list"
theorem bmT_ok {m : Bm} {ms : List Addr} {H : Hp} {s : ST} {x : V} {d : D} (R : Rel L X.K ms H s) (i : IsD X.K ms H x d) (h : bmT m s d = true) : tyV X.K (bmTy m) x H := by
  have lst : ∀ l, d = .ref l → isLst s l = true → ∃ a vs, x = .ref a ∧ H a = some (.lst vs) := by
    intro l e hl
    subst e
    obtain ⟨xs, hx⟩ := lst_of hl
    cases i with
    | @ref a _ ha =>
      obtain ⟨vs, h1, _⟩ := R.at_ l _ a hx ha
      exact ⟨a, vs, rfl, h1⟩
  cases m with
  | append =>
    cases d with
    | ref l => obtain ⟨a, vs, rfl, h1⟩ := lst l rfl h; exact .inl ⟨rfl, vs, .of h1⟩
    | _ => cases h
  | pop =>
    cases d with
    | ref l => obtain ⟨a, vs, rfl, h1⟩ := lst l rfl h; exact .inl ⟨rfl, vs, .of h1⟩
    | _ => cases h
  | extend =>
    cases d with
    | ref l => obtain ⟨a, vs, rfl, h1⟩ := lst l rfl h; exact .inl ⟨rfl, vs, .of h1⟩
    | _ => cases h
  | split => cases i <;> first | rfl | cases h
  | join => cases i <;> first | rfl | cases h
  | count => cases i <;> first | rfl | cases h
  | index => cases i <;> cases h
  | get => cases i <;> cases h
theorem evE_bm {m : Bm} {v : EV} {s : ST} : evE p cf (.bm m co ces) v s = (evE p cf co v s).bind fun x s => if bmT m s x = true then (evL p cf ces v s).bind fun xs s => bmV m x xs s else .bad := rfl
theorem bm_arm {m : Bm} {σ : L2.St} {H : Hp} {Q : VK} (h : tE p L X.K cf (.bm m co ces) W σ H Q) : tBM X.K (bmTy m) (rM L X.K (bmV m)) (tE p L X.K cf co W) (tL p L X.K cf ces W) σ H Q := by
  obtain ⟨ms, v, st, R, E, q⟩ := h
  rw [evE_bm] at q
  refine ⟨ms, v, st, R, E, (Post.bindV q).imp (fun x H1 ⟨m1, d1, s1, e1, R1, i1, er1, q1⟩ => ?_) fun _ _ _ z => z⟩
  split at q1
  · rename_i hb
    refine ⟨bmT_ok R1 i1 hb, m1, v, s1, R1, E.mono e1, ?_⟩
    cases er : evL p cf ces v s1 with
    | bad => rw [er] at q1; exact q1.elim
    | exc _ _ _ => rw [er] at q1; exact q1
    | ok ds s2 =>
      rw [er] at q1
      intro m2 us H2 e2 R2 i2
      exact ⟨m2, d1, ds, s2, R2, i1.mono e2, i2, (Post.mono e2 q1).nox fun c fs s => bmV_nox c fs s⟩
  · exact q1.elim
theorem s_bm (m : Bm) (hm : m ≠ .index ∧ m ≠ .get ∧ m ≠ .pop) (hb : okBase o = true) (ho : PE X o (tE p L X.K cf co W)) (ha : PA X (e :: es) (tL p L X.K cf ces W)) (hs : ∀ y ∈ e :: es, ∀ a b, y ≠ .Starred a b) (hn : (e :: es).length < 30)
    (hl : (apos.endLine == pos.line) = true) : PE X (.Call (.Attribute o (bmN m) apos) (e :: es) [] pos) (tE p L X.K cf (.bm m co ces) W) := by
  have h1 : starEach (e :: es) X.env = (false, eval e X.env) :: starEach es X.env := star_ok (hs e List.mem_cons_self)
  have h2 : (backTo pos (starEach es X.env)).any (·.1) = false := stars_ok fun y hy => hs y (List.mem_cons_of_mem _ hy)
  have h3 : ((backTo pos (starEach (e :: es) X.env)).all (fun x => !x.1) && (backToKw pos (keywordEach [] X.env)).all (fun x => x.1.isSome) && decide ((e :: es).length + ([] : List Keyword).length + (if ([] : List Keyword).isEmpty then 0 else 1) < 30)) = true := by
    rw [stars_all hs]
    show (true && true && decide ((e :: es).length + 0 + 0 < 30)) = true
    simpa using hn
  refine ⟨fun pins s σ H Q I h => ?_⟩
  have h := bm_arm h
  cases m with
  | append => exact (pe_bm PySem.F.plainAttrs_list PySem.F.slot_list_append PySem.F.type_list_append (mt_appendD (L := L)) ho ha (base_ok hb) h3 hl h1 h2).run pins s σ H Q I h
  | extend => exact (pe_bm PySem.F.plainAttrs_list PySem.F.slot_list_extend PySem.F.type_list_extend (mt_extendD (L := L)) ho ha (base_ok hb) h3 hl h1 h2).run pins s σ H Q I h
  | split => exact (pe_bm PySem.F.plainAttrs_str PySem.F.slot_str_split PySem.F.type_str_split (mt_splitD (L := L)) ho ha (base_ok hb) h3 hl h1 h2).run pins s σ H Q I h
  | join => exact (pe_bm PySem.F.plainAttrs_str PySem.F.slot_str_join PySem.F.type_str_join (mt_joinD (L := L)) ho ha (base_ok hb) h3 hl h1 h2).run pins s σ H Q I h
  | count => exact (pe_bm PySem.F.plainAttrs_str PySem.F.slot_str_count PySem.F.type_str_count (mt_countD (L := L)) ho ha (base_ok hb) h3 hl h1 h2).run pins s σ H Q I h
  | pop => exact absurd rfl hm.2.2
  | index => exact absurd rfl hm.1
  | get => exact absurd rfl hm.2.1
theorem s_pop (hb : okBase o = true) (ho : PE X o (tE p L X.K cf co W)) (hl : (apos.endLine == pos.line) = true) : PE X (.Call (.Attribute o (bmN .pop) apos) [] [] pos) (tE p L X.K cf (.bm .pop co []) W) := by
  refine ⟨fun pins s σ H Q I h => (pe_bm0 PySem.F.plainAttrs_list PySem.F.slot_list_pop PySem.F.type_list_pop (mt_popD (L := L)) ho (base_ok hb) hl).run pins s σ H Q I ?_⟩
  obtain ⟨ms, v, st, R, E, q⟩ := h
  rw [evE_bm] at q
  refine ⟨ms, v, st, R, E, (Post.bindV q).imp (fun x H1 ⟨m1, d1, s1, e1, R1, i1, er1, q1⟩ => ?_) fun _ _ _ z => z⟩
  split at q1
  · rename_i hb
    exact ⟨bmT_ok R1 i1 hb, m1, d1, [], s1, R1, i1, .nil, Post.nox q1 fun c fs s => bmV_nox c fs s⟩
  · exact q1.elim
/-! ### isinstance -/
def btN : BT → String
  | .none => "NoneType" | .bool => "bool" | .int => "int" | .str => "str" | .tuple => "tuple" | .list => "list" | .dict => "dict"
theorem kit_bt {K : PySem.W.Frag} (a b : BT) : PySem.W.kitOne K (.type (btN a)) (.type (btN b)) = some (subT a b) := by
  refine kit_ty ?_
  cases a <;> cases b <;> decide +kernel
theorem kit_any {K : PySem.W.Frag} (a : BT) : ∀ bs : List BT, PySem.W.kitAny K (.type (btN a)) (bs.map fun b => .type (btN b)) = some (bs.any (subT a))
  | [] => rfl
  | b :: bs => by
    have ih := kit_any (K := K) a bs
    show PySem.W.kitAny K _ (.type (btN b) :: _) = _
    refine kitAny_cons (kit_bt a b) (fun h => ?_) fun h => ?_
    · rw [ih]; simp [h]
    · simp [h]
theorem typ_ok {m : List Addr} {H : Hp} {s : ST} {x : V} {d : D} {bt : BT} (R : Rel L X.K m H s) (i : IsD X.K m H x d) (h : typB s d = some (.inl bt)) : TyX X.K H x (.type (btN bt)) := by
  cases i with
  | non => cases h; exact .base .non
  | bl b => cases h; exact .base (.bl b)
  | int b => cases h; exact .base (.int b)
  | str b => cases h; exact .base (.str b)
  | tup h1 _ =>
    cases h
    rcases h1 with ⟨h1 | ⟨o, h1⟩, _⟩ | ⟨o, its, n, h1, h2, _⟩
    · exact .base (.tup h1)
    · exact .fTuple h1
    · exact .kTuple h1 h2
  | rol h1 _ =>
    cases h
    rcases h1 with ⟨⟨o, h1⟩, _⟩ | ⟨o, its, n, h1, h2, _⟩
    · exact .base (.frz h1)
    · exact .kList h1 h2
  | @ref a l ha =>
    simp only [typB] at h
    split at h
    · rename_i xs e
      cases h
      obtain ⟨vs, h1, _⟩ := R.at_ l _ a e ha
      exact .base (.lst h1)
    · rename_i t kvs e
      cases h
      cases t with
      | false => obtain ⟨vs, h1, _⟩ := R.at_ l _ a e ha; exact .base (.dK h1)
      | true => obtain ⟨vs, h1, _⟩ := R.at_ l _ a e ha; exact .base (.dT h1)
    · cases h
    · cases h
theorem evE_isi {ts : List BT} {v : EV} {s : ST} : evE p cf (.isi ce ts []) v s = (evE p cf ce v s).bind fun x s => match typB s x with
    | some (.inl t) => .ok (.bl (ts.any (subT t))) s
    | _ => .bad := rfl
theorem s_isi (bt : BT) (hg : Gl X "isinstance") (hm : X.mg "isinstance" = none) (ha : PE X e (tE p L X.K cf ce W)) (hc : PE X c (L2.tC (V.ty (btN bt)))) (hs : ∀ y ∈ [e, c], ∀ a b, y ≠ .Starred a b) {ppos : Pos} :
    PE X (.Call (.Name "isinstance" ppos) [e, c] [] pos) (tE p L X.K cf (.isi ce [bt] []) W) := by
  have h1 : starEach [e, c] X.env = (false, eval e X.env) :: starEach [c] X.env := star_ok (hs e List.mem_cons_self)
  have h2 : (backTo pos (starEach [c] X.env)).any (·.1) = false := stars_ok fun y hy => hs y (List.mem_cons_of_mem _ hy)
  have h4 : starEach [c] X.env = (false, eval c X.env) :: starEach [] X.env := star_ok (hs c (by simp))
  refine ⟨fun pins s σ H Q I h => (pe_callB call_isi hg hm boot_isinstance (pa_cons ha (pa_cons hc pa_nil h4) h1) (by decide) (by decide) h1 h2).run pins s σ H Q I ?_⟩
  obtain ⟨ms, v, st, R, E, q⟩ := h
  rw [evE_isi] at q
  refine ⟨ms, v, st, R, E, (Post.bindV q).imp (fun x H1 ⟨m1, d1, s1, e1, R1, i1, er1, q1⟩ => ?_) fun _ _ _ z => z⟩
  split at q1
  · rename_i bt' hb
    refine ⟨x, V.ty (btN bt), _, _, _, rfl, .ty _, typ_ok R1 i1 hb, kit_bt bt' bt, ?_⟩
    have := Post.ok q1 R1 (.bl _)
    simpa using this
  · exact q1.elim
theorem paired_bts (bts : List BT) : Paired ClsV (bts.map fun b => V.ty (btN b)) (bts.map fun b => Value.type (btN b)) := by
  induction bts with
  | nil => exact .nil
  | cons b r ih => exact .cons (.ty _) ih
theorem s_isiT (bts : List BT) {cs : List Expr} {x1 : Nat} {tpos : Pos} (hg : Gl X "isinstance") (hm : X.mg "isinstance" = none) (ha : PE X e (tE p L X.K cf ce W)) (hc : PA X cs (fun _ H Q => Q (bts.map fun b => V.ty (btN b)) H))
    (hs : ∀ a b, e ≠ .Starred a b) (hl : bts.length ≤ 1000) {ppos : Pos} : PE X (.Call (.Name "isinstance" ppos) [e, .Tuple cs x1 tpos] [] pos) (tE p L X.K cf (.isi ce bts []) W) := by
  have h1 : starEach [e, .Tuple cs x1 tpos] X.env = (false, eval e X.env) :: starEach [.Tuple cs x1 tpos] X.env := star_ok hs
  have h2 : (backTo pos (starEach [.Tuple cs x1 tpos] X.env)).any (·.1) = false := rfl
  refine ⟨fun pins s σ H Q I h => (pe_callB call_isiT hg hm boot_isinstance (pa_cons ha (pa_cons (pe_tup hc) pa_nil rfl) h1) (by decide) (by decide) h1 h2).run pins s σ H Q I ?_⟩
  obtain ⟨ms, v, st, R, E, q⟩ := h
  rw [evE_isi] at q
  refine ⟨ms, v, st, R, E, (Post.bindV q).imp (fun x H1 ⟨m1, d1, s1, e1, R1, i1, er1, q1⟩ => ?_) fun _ _ _ z => z⟩
  split at q1
  · rename_i bt' hb
    refine ⟨by rw [LN_eq, List.length_map]; show bts.length ≤ 16777216; omega, fun p hp => ?_⟩
    refine ⟨x, p, _, _, bts.map fun b => .type (btN b), _, rfl, upd_same, ?_, typ_ok (R1.laid hp) (i1.mono (.laid hp)) hb, kit_any bt' bts, ?_⟩
    · exact paired_bts bts
    · exact q1 m1 _ _ (.laid hp) (R1.laid hp) (.bl _)
  · exact q1.elim
end
end Dt
namespace Dt
open PySem PySem.Spec PyProof.Rows L2
/-! ### comprehensions -/
def stbB (scope sc : Scope) : Str → Bool := fun x => decide ((relS scope sc).names.lookup x = some .local) || (decide (scope.names.lookup x = some .cell) && decide ((relS scope sc).names.lookup x = some .cell))
def notSet : Expr → Bool
  | .Set .. => false
  | _ => true
theorem fold_ok {e : Expr} (h : notSet e = true) (env : Env) (x : Value) : foldedSetIterable e env x = pure x := by
  cases e <;> first | rfl | cases h
section
variable {p : Pg} {wf : Nat} {L : Lk} {t : CT} {k : Nat} {X : Cx} {N : List Str} {sc : Scope} {stb : Str → Bool} {W : WX} {pos apos : Pos} {a b c e o : Expr} {ca cb cc ce co : E} {cf : CF}
variable {es : List Expr} {ces : List E} {tg : Expr}
theorem Xok.blk (ok : Xok p wf L t k X N sc stb W) {scope : Scope} (s : Shared) (H : Hp) (C : Addr) (cl : List (Str × Addr)) (fp : List Addr) :
    Xok p wf L t k (X.blk s H scope (compEnvC scope cl C X.env) fp) N (relS scope sc) (stbB scope sc) W0 where
  fa := ok.fa
  hN := ok.hN
  nd := ok.nd
  hsc := by rw [← ok.hsc]; rfl
  calm := ok.calm
  room := ok.room
  tk := takes0
  fn := fun x h => by
    unfold stbB at h
    simp only [Bool.or_eq_true, Bool.and_eq_true, decide_eq_true_eq] at h
    rcases h with h | ⟨h1, h2⟩
    · exact ⟨.inr h, .inl h⟩
    · exact ⟨.inl (by show (scope.names.lookup x == some .cell) = true; rw [h1]; rfl), .inr h2⟩
theorem s_lc (ok : Xok p wf L t k X N sc stb W) {elt iter : Expr} {ifs : List Expr} {scope : Scope} {own : List (Str × Nat)} {tt : Tg} {it : Dt.It} {co : Option E} {ce : E} (hb : blkC N sc scope own = true) (hp : plainT (own.map (·.2)) tt = true)
    (hi : PI X tg iter (tI p L X.K cf it W)) (hs : notSet iter = true)
    (hg : ∀ X', Xok p wf L t k X' N (relS scope sc) (stbB scope sc) W0 → PG X' tg (gOf X'.K tt)) (ht : ∀ X', Xok p wf L t k X' N (relS scope sc) (stbB scope sc) W0 → PTs X' ifs (tC p L X'.K cf co))
    (he : ∀ X', Xok p wf L t k X' N (relS scope sc) (stbB scope sc) W0 → PE X' elt (tE p L X'.K cf ce W0)) :
    PE X (.ListComp elt [⟨tg, iter, ifs, 0⟩] scope pos) (tE p L X.K cf (.lc (own.map (·.2)) tt it co ce) W) := by
  refine ⟨fun pins s σ H Q I h => (pe_lc (g := gOf X.K tt) (tt := tC p L X.K cf co) (te := tE p L X.K cf ce W0) ok.calm (by rw [ok.hN]; exact ok.nd) hi (by rw [ok.hN, ok.hsc]; exact blkOk_by hb) (fun s H C cl fp => hg _ (ok.blk s H C cl fp)) (fun s H C cl fp => ht _ (ok.blk s H C cl fp)) (fun s H C cl fp => he _ (ok.blk s H C cl fp)) (fold_ok hs X.env)).run pins s σ H Q I ?_⟩
  exact lc_arm hp h
end
/-! ### statements -/
def PostS (L : Lk) (K : PySem.W.Frag) (m : List Addr) (H : Hp) (r : Rs) (D : Ends) (W : WX) : Prop := match r with
  | .nx v s => ∀ m' H' σ', Ext m H m' H' → Rel L K m' H' s → EvR K m' H' σ' v → D.nx σ' H'
  | .bk v s => ∀ m' H' σ', Ext m H m' H' → Rel L K m' H' s → EvR K m' H' σ' v → D.bk σ' H'
  | .ct v s => ∀ m' H' σ', Ext m H m' H' → Rel L K m' H' s → EvR K m' H' σ' v → D.ct σ' H'
  | .rt d s => ∀ m' u H', Ext m H m' H' → Rel L K m' H' s → IsD K m' H' u d → D.rt u H'
  | .xc c fs v s => ∀ m' d H' σ', Ext m H m' H' → Rel L K m' H' s → EvR K m' H' σ' v → ExcR L K m' H' fs d → W (.ref (L.cA c)) d σ' H'
  | .bad => False
section
variable (p : Pg) (wf : Nat) (L : Lk) (K : PySem.W.Frag) (cf : CF)
def tS (c : Sm) (W : WX) : TS := fun D σ H => ∃ m v s, Rel L K m H s ∧ EvR K m H σ v ∧ PostS L K m H (evS p wf cf c v s) D W
def tB (c : List Sm) (W : WX) : TS := fun D σ H => ∃ m v s, Rel L K m H s ∧ EvR K m H σ v ∧ PostS L K m H (evB p wf cf c v s) D W
end
section
variable {L : Lk} {K : PySem.W.Frag} {m m' : List Addr} {H H' : Hp} {W : WX} {D : Ends} {σ : L2.St} {v : EV}
theorem PostS.mono {r : Rs} (e : Ext m H m' H') (h : PostS L K m H r D W) : PostS L K m' H' r D W := by
  cases r with
  | nx v s => exact fun m2 H2 σ2 e2 => h m2 H2 σ2 (e.trans e2)
  | bk v s => exact fun m2 H2 σ2 e2 => h m2 H2 σ2 (e.trans e2)
  | ct v s => exact fun m2 H2 σ2 e2 => h m2 H2 σ2 (e.trans e2)
  | rt d s => exact fun m2 u H2 e2 => h m2 u H2 (e.trans e2)
  | xc c fs v s => exact fun m2 d H2 σ2 e2 => h m2 d H2 σ2 (e.trans e2)
  | bad => exact h
/-- an expression's value, then a step -/
theorem PostS.stV {r : Dt.R Dt.D} {f : Dt.D → ST → Rs} (h : PostS L K m H (r.st v f) D W) (E : EvR K m H σ v) :
    Post L K m H r (fun u H1 => ∃ m1 d s1, Ext m H m1 H1 ∧ Rel L K m1 H1 s1 ∧ IsD K m1 H1 u d ∧ r = .ok d s1 ∧ PostS L K m1 H1 (f d s1) D W) (fun c d H => W c d σ H) := by
  cases r with
  | ok d s => exact fun m1 u H1 e R i => ⟨m1, d, s, e, R, i, rfl, h.mono e⟩
  | exc c fs s => exact fun m1 d H1 e R x => h m1 d H1 σ e R (E.mono e) x
  | bad => exact h
theorem PostS.stG {α : Type} {r : Dt.R α} {f : α → ST → Rs} (h : PostS L K m H (r.st v f) D W) (E : EvR K m H σ v) :
    PostG L K m H r (fun m1 H1 d s1 => Ext m H m1 H1 ∧ Rel L K m1 H1 s1 ∧ r = .ok d s1 ∧ PostS L K m1 H1 (f d s1) D W) (fun c d H => W c d σ H) := by
  cases r with
  | ok d s => exact fun m1 H1 e R => ⟨e, R, rfl, h.mono e⟩
  | exc c fs s => exact fun m1 d H1 e R x => h m1 d H1 σ e R (E.mono e) x
  | bad => exact h
theorem PostS.nx {s : ST} (h : PostS L K m H (.nx v s) D W) (R : Rel L K m H s) (E : EvR K m H σ v) : D.nx σ H := h m H σ (.refl _ _) R E
/-- no exception can be: any wish -/
theorem PostG.nox {α : Type} {r : Dt.R α} {Q : List Addr → Hp → α → ST → Prop} {W' W2 : XK} (h : PostG L K m H r Q W') (hn : ∀ c fs s, r ≠ .exc c fs s) : PostG L K m H r Q W2 := by
  cases r with
  | ok d s => exact h
  | exc c fs s => exact absurd rfl (hn c fs s)
  | bad => exact h
theorem setV_nox {x y z : Dt.D} {s : ST} (c : Nat) (fs : List (Nat × Dt.D)) (s' : ST) : setV x y z s ≠ .exc c fs s' := by
  unfold setV
  repeat' split
  all_goals simp
theorem augV_nox {o : Bop} {x y : Dt.D} {s : ST} (c : Nat) (fs : List (Nat × Dt.D)) (s' : ST) : augV o x y s ≠ .exc c fs s' := by
  unfold augV
  repeat' split
  all_goals simp
theorem setF_nox {p : Pg} {x z : Dt.D} {f : Nat} {s : ST} (c : Nat) (fs : List (Nat × Dt.D)) (s' : ST) : setF p x f z s ≠ .exc c fs s' := by
  unfold setF
  repeat' split
  all_goals simp
end
section
variable {p : Pg} {wf : Nat} {L : Lk} {t : CT} {k : Nat} {X : Cx} {N : List Str} {sc : Scope} {stb : Str → Bool} {W : WX} {pos apos : Pos} {a b c e o : Expr} {ca cb cc ce co : E} {cf : CF}
variable {es : List Expr} {ces : List E} {tg : Expr} {body body2 : List Stmt} {cb1 cb2 : List Sm} {st : Stmt} {cs : Sm}
theorem b_nil : PSs X [] (tB p wf L X.K cf [] W) := by
  refine ⟨fun pins s σ H D I h => pss_nil.run pins s σ H D I ?_⟩
  obtain ⟨m, v, s, R, E, q⟩ := h
  exact PostS.nx q R E
theorem evB_cons {v : EV} {s : ST} : evB p wf cf (cs :: cb1) v s = (evS p wf cf cs v s).seq fun v s => evB p wf cf cb1 v s := rfl
theorem b_cons (h1 : PS X st (tS p wf L X.K cf cs W)) (h2 : PSs X body (tB p wf L X.K cf cb1 W)) : PSs X (st :: body) (tB p wf L X.K cf (cs :: cb1) W) := by
  refine ⟨fun pins s σ H D I h => (pss_cons h1 h2).run pins s σ H D I ?_⟩
  obtain ⟨m, v, s, R, E, q⟩ := h
  rw [evB_cons] at q
  refine ⟨m, v, s, R, E, ?_⟩
  cases er : evS p wf cf cs v s with
  | nx v1 s1 =>
    rw [er, seq_nx] at q
    exact fun m1 H1 σ1 e1 R1 E1 => ⟨m1, v1, s1, R1, E1, q.mono e1⟩
  | bk v1 s1 => rw [er] at q; exact q
  | ct v1 s1 => rw [er] at q; exact q
  | rt d s1 => rw [er] at q; exact q
  | xc c fs v1 s1 => rw [er] at q; exact q
  | bad => rw [er] at q; exact q
/-! simple ones -/
theorem st_brk : PS X (.Break pos) (tS p wf L X.K cf .brk W) := ⟨fun pins s σ H D I ⟨m, v, st, R, E, q⟩ => ps_break.run pins s σ H D I (q m H σ (.refl _ _) R E)⟩
theorem st_cnt : PS X (.Continue pos) (tS p wf L X.K cf .cnt W) := ⟨fun pins s σ H D I ⟨m, v, st, R, E, q⟩ => ps_continue.run pins s σ H D I (q m H σ (.refl _ _) R E)⟩
theorem st_pss : PS X (.Pass pos) (tS p wf L X.K cf .pss W) := ⟨fun pins s σ H D I ⟨m, v, st, R, E, q⟩ => ps_pass.run pins s σ H D I (q m H σ (.refl _ _) R E)⟩
theorem st_doc {x j pos'} : PS X (.Expr (.Constant (.str x) j pos') pos) (tS p wf L X.K cf .pss W) := ⟨fun pins s σ H D I ⟨m, v, st, R, E, q⟩ => ps_doc.run pins s σ H D I (q m H σ (.refl _ _) R E)⟩
theorem st_retN : PS X (.Return none pos) (tS p wf L X.K cf .retN W) := ⟨fun pins s σ H D I ⟨m, v, st, R, E, q⟩ => ps_retN.run pins s σ H D I (q m .non H (.refl _ _) R .non)⟩
theorem st_ex (he : PE X e (tE p L X.K cf ce W)) (hc : isComp e = false) : PS X (.Expr e pos) (tS p wf L X.K cf (.ex ce) W) := by
  refine ⟨fun pins s σ H D I h => (ps_expr he (swaps_ok hc)).run pins s σ H D I ?_⟩
  obtain ⟨m, v, s, R, E, q⟩ := h
  exact ⟨m, v, s, R, E, (PostS.stV q E).imp (fun u H1 ⟨m1, d, s1, e1, R1, i1, _, q1⟩ => PostS.nx q1 R1 (E.mono e1)) fun _ _ _ z => z⟩
theorem st_ret (he : PE X e (tE p L X.K cf ce W)) : PS X (.Return (some e) pos) (tS p wf L X.K cf (.ret ce) W) := by
  refine ⟨fun pins s σ H D I h => (ps_ret he).run pins s σ H D I ?_⟩
  obtain ⟨m, v, s, R, E, q⟩ := h
  exact ⟨m, v, s, R, E, (PostS.stV q E).imp (fun u H1 ⟨m1, d, s1, e1, R1, i1, _, q1⟩ => q1 m1 u H1 (.refl _ _) R1 i1) fun _ _ _ z => z⟩
theorem st_if (hc : PT X c (tT p L X.K cf cc W)) (h1 : PSs X body (tB p wf L X.K cf cb1 W)) (h2 : PSs X body2 (tB p wf L X.K cf cb2 W)) : PS X (.If c body body2 pos) (tS p wf L X.K cf (.ifs cc cb1 cb2) W) := by
  refine ⟨fun pins s σ H D I h => (ps_if hc h1 h2).run pins s σ H D I ?_⟩
  obtain ⟨m, v, s, R, E, q⟩ := h
  have q : PostS L X.K m H ((evT p cf cc v s).st v fun k s => if k = true then evB p wf cf cb1 v s else evB p wf cf cb2 v s) D W := q
  refine ⟨m, v, s, R, E, ?_⟩
  have q2 := PostS.stG q E
  cases er : evT p cf cc v s with
  | bad => rw [er] at q2; exact q2.elim
  | exc _ _ _ => rw [er] at q2; exact q2
  | ok j s1 =>
    rw [er] at q2
    intro m1 H1 e1 R1
    obtain ⟨e2, R2, _, q3⟩ := q2 m1 H1 e1 R1
    cases j with
    | true => exact iteT ⟨m1, v, s1, R1, E.mono e2, q3⟩
    | false => exact iteF ⟨m1, v, s1, R1, E.mono e2, q3⟩
/-! assignments -/
theorem evS_asg {tt : Tg} {v : EV} {s : ST} : evS p wf cf (.asg tt ce) v s = (evE p cf ce v s).st v fun x s => (evG p cf tt x v s).st v fun v s => .nx v s := rfl
theorem asg_arm {tt : Tg} {own : List Nat} (hp : plainT own tt = true) {D : Ends} {σ : L2.St} {H : Hp} (h : tS p wf L X.K cf (.asg tt ce) W D σ H) : tAsg (tE p L X.K cf ce W) (gOf X.K tt) D σ H := by
  obtain ⟨m, v, s, R, E, q⟩ := h
  rw [evS_asg] at q
  refine ⟨m, v, s, R, E, (PostS.stV q E).imp (fun u H1 ⟨m1, d, s1, e1, R1, i1, _, q1⟩ => ?_) fun _ _ _ z => z⟩
  rcases g_ok (p := p) (cf := cf) own tt u d σ v s1 hp (E.mono e1) i1 with hb | ⟨v', hv, hG⟩
  · rw [hb] at q1; exact q1.elim
  · rw [hv] at q1
    exact hG _ fun σ' E' _ => PostS.nx q1 R1 E'
theorem st_asg {tt : Tg} {own : List Nat} (hp : plainT own tt = true) (he : PE X e (tE p L X.K cf ce W)) (hg : PG X tg (gOf X.K tt)) (hs : isComp e = false) (hw : swappedStores [tg] e X.env = pure none) (h1 : (assignEach [tg] X.env).map (·.2) = [assign tg X.env]) :
    PS X (.Assign [tg] e pos) (tS p wf L X.K cf (.asg tt ce) W) :=
  ⟨fun pins s σ H D I h => (ps_asg he hg (swaps_ok hs) hw h1).run pins s σ H D I (asg_arm hp h)⟩
/-- name = a comprehension on one line -/
theorem st_setlc (ok : Xok p wf L t k X N sc stb W) {i : Nat} {y : Str} {py spos : Pos} {elt iter : Expr} {ifs : List Expr} {scope : Scope} {own : List (Str × Nat)} {tt : Tg} {it : Dt.It} {co : Option E} {ce : E} (hb : blkC N sc scope own = true) (hp : plainT (own.map (·.2)) tt = true)
    (hi : PI X tg iter (tI p L X.K cf it W)) (hs : notSet iter = true) (hy : N[i]? = some y) (hl : sc.names.lookup y = some .local) (hk : sc.kind = .function) (hln : (py.line == pos.line) = true) (ha : (scope.names.any fun (n, k) => n == y && (k == .local || k == .cell)) = false)
    (hg : ∀ X', Xok p wf L t k X' N (relS scope sc) (stbB scope sc) W0 → PG X' tg (gOf X'.K tt)) (ht : ∀ X', Xok p wf L t k X' N (relS scope sc) (stbB scope sc) W0 → PTs X' ifs (tC p L X'.K cf co))
    (he : ∀ X', Xok p wf L t k X' N (relS scope sc) (stbB scope sc) W0 → PE X' elt (tE p L X'.K cf ce W0)) :
    PS X (.Assign [.Name y py] (.ListComp elt [⟨tg, iter, ifs, 0⟩] scope pos) spos) (tS p wf L X.K cf (.asg (.name i) (.lc (own.map (·.2)) tt it co ce)) W) := by
  have hl' : X.env.scope.names.lookup y = some .local := by rw [ok.hsc]; exact hl
  refine ⟨fun pins s σ H D I h => (ps_setLc (g := gOf X.K tt) (tt := tC p L X.K cf co) (te := tE p L X.K cf ce W0) ok.calm (by rw [ok.hN]; exact ok.nd) (by rw [ok.hN]; exact hy) hl' (sw_true (by rw [ok.hsc]; exact hk) hl' hln ha) hi (by rw [ok.hN, ok.hsc]; exact blkOk_by hb)
    (fun s H C cl fp => hg _ (ok.blk s H C cl fp)) (fun s H C cl fp => ht _ (ok.blk s H C cl fp)) (fun s H C cl fp => he _ (ok.blk s H C cl fp)) (fold_ok hs X.env)).run pins s σ H D I ?_⟩
  have h := asg_arm (own := [i]) (by simp [plainT]) h
  exact lc_arm hp h
theorem sw_false {elt : Expr} {gs : List Comprehension} {scope : Scope} {y : Str} {py : Pos} {l : Nat} {env : Env} (hy : env.scope.names.lookup y ≠ some .local) : swapsWith (.ListComp elt gs scope pos) (some (.Name y py)) l env = pure false := by
  have ky : (env.kindOf y == some .local) = false := by
    rw [beq_eq_false_iff_ne]; exact hy
  unfold swapsWith
  simp only [ky, Bool.and_false, Bool.false_and]
/-- name = .., the plain way -/
theorem st_set (ok : Xok p wf L t k X N sc stb W) {i : Nat} {y : Str} {py : Pos} (hy : N[i]? = some y) (hst : stb y = true) (he : PE X e (tE p L X.K cf ce W)) (hs : swapsWith e (some (.Name y py)) pos.line X.env = pure false) :
    PS X (.Assign [.Name y py] e pos) (tS p wf L X.K cf (.asg (.name i) ce) W) := by
  obtain ⟨h1, h2⟩ := ok.fn y hst
  refine ⟨fun pins s σ H D I h => (ps_set (by rw [ok.hN]; exact ok.nd) (by rw [ok.hN]; exact hy) (by rw [ok.hsc]; exact h2) he hs (by rw [ok.hsc]; exact h1)).run pins s σ H D I (asg_arm (own := [i]) (by simp [plainT]) h)⟩
/-- o[i] = e -/
theorem evG_sub {x : Dt.D} {v : EV} {s : ST} {ci : E} : evG p cf (.sub co ci) x v s = (evE p cf co v s).bind fun y s => (evE p cf ci v s).bind fun z s => (setV y z x s).bind fun _ s => .ok v s := rfl
theorem PostS.assoc {α β : Type} {r : Dt.R α} {f : α → ST → Dt.R β} {g : β → ST → Rs} {v : EV} : (r.bind f).st v g = r.st v fun a s => (f a s).st v g := by cases r <;> rfl
theorem st_sub {ci : E} {i : Expr} {tpos : Pos} (ho : PE X o (tE p L X.K cf co W)) (hi : PE X i (tE p L X.K cf ci W)) (hsl : ∀ x y z w, i ≠ .Slice x y z w) (he : PE X e (tE p L X.K cf ce W)) :
    PS X (.Assign [.Subscript o i tpos] e pos) (tS p wf L X.K cf (.asg (.sub co ci) ce) W) := by
  have hg : PG X (.Subscript o i tpos) (gSub (tE p L X.K cf co W) (tE p L X.K cf ci W) (rSetD L X.K)) := pg_sub ho hi set_D (fun v => by cases i <;> first | rfl | exact absurd rfl (hsl _ _ _ _))
  have hsw : swapsWithSole [.Subscript o i tpos] e pos.line X.env = pure false := by cases e <;> rfl
  have hw : swappedStores [.Subscript o i tpos] e X.env = pure none := by cases e <;> rfl
  refine ⟨fun pins s σ H D I h => (ps_asg he hg hsw hw).run pins s σ H D I ?_⟩
  obtain ⟨m, v, s, R, E, q⟩ := h
  rw [evS_asg] at q
  refine ⟨m, v, s, R, E, (PostS.stV q E).imp (fun u H1 ⟨m1, d, s1, e1, R1, i1, _, q1⟩ => ?_) fun _ _ _ z => z⟩
  rw [evG_sub, PostS.assoc] at q1
  refine ⟨m1, v, s1, R1, E.mono e1, (PostS.stV q1 (E.mono e1)).imp (fun u2 H2 ⟨m2, d2, s2, e2, R2, i2, _, q2⟩ => ?_) fun _ _ _ z => z⟩
  rw [PostS.assoc] at q2
  have E2 := (E.mono e1).mono e2
  refine ⟨m2, v, s2, R2, E2, (PostS.stV q2 E2).imp (fun u3 H3 ⟨m3, d3, s3, e3, R3, i3, _, q3⟩ => ?_) fun _ _ _ z => z⟩
  rw [PostS.assoc] at q3
  have E3 := E2.mono e3
  refine ⟨m3, d2, d3, d, s3, R3, i2.mono e3, i3, (i1.mono e2).mono e3, ?_⟩
  cases er : setV d2 d3 d s3 with
  | bad => rw [er] at q3; exact q3.elim
  | exc c fs s' => exact absurd er (setV_nox c fs s')
  | ok u s4 =>
    rw [er, st_ok, st_ok] at q3
    exact fun H4 e4 R4 => PostS.nx (q3.mono e4) R4 (E3.mono e4)
end
end Dt
namespace Dt
open PySem PySem.Spec PyProof.Rows L2
section
variable {p : Pg} {wf : Nat} {L : Lk} {t : CT} {k : Nat} {X : Cx} {N : List Str} {sc : Scope} {stb : Str → Bool} {W : WX} {pos apos : Pos} {a b c e o : Expr} {ca cb cc ce co : E} {cf : CF}
variable {es : List Expr} {ces : List E} {tg : Expr} {body body2 : List Stmt} {cb1 cb2 : List Sm} {st : Stmt} {cs : Sm}
/-! ### fields -/
/-- a field is stored -/
theorem setF_arm (F : FactsX p wf L t X k) {m : List Addr} {H : Hp} {s : ST} {x y : V} {d z : Dt.D} {f : Nat} (R : Rel L X.K m H s) (i : IsD X.K m H x d) (iz : IsD X.K m H y z) {u : Unit} {s' : ST} (q : setF p d f z s = .ok u s') :
    ∃ a C dx fs, x = .ref a ∧ H a = some (.ins (L.cA C) dx fs) ∧ clsOf s d = some C ∧ Cls X.K (L.cA C) ∧ NoAttr X.K (L.cA C) (L.fN f) ∧ fs.length < 1000 ∧
      Ext m H m (upd H a (.ins (L.cA C) dx (putF (L.fN f) y fs))) ∧ Rel L X.K m (upd H a (.ins (L.cA C) dx (putF (L.fN f) y fs))) s' := by
  cases i with
  | @ref a l ha =>
    simp only [setF] at q
    split at q
    · rename_i C fs e
      split at q
      · rename_i c hc
        split at q
        · rename_i hk
          simp only [Bool.and_eq_true, decide_eq_true_eq, List.contains_iff_mem] at hk
          cases q
          obtain ⟨dx, fs', h1, h2, h3⟩ := R.at_ l _ a e ha
          have hm : f ∈ L.cF C := by rw [F.cF C c hc]; exact hk.1
          obtain ⟨c1, n1⟩ := F.own C f hm
          have ex : Ext m H m (upd H a (.ins (L.cA C) dx (putF (L.fN f) y fs'))) := Ext.write (List.mem_of_getElem? ha)
          refine ⟨a, C, dx, fs', rfl, h1, by simp only [clsOf, e], c1, n1, by rw [h2.len]; omega, ex, R.write ha ⟨dx, _, upd_same, (h2.put iz).mono ex, fun w hw => ?_⟩⟩
          rcases putA_mem hw with e2 | ⟨w2, h4, e2⟩
          · rw [e2]; exact hm
          · rw [← e2]; exact h3 w2 h4
        · cases q
      · cases q
    · cases q
  | _ => cases q
theorem evG_fld {x : Dt.D} {f : Nat} {v : EV} {s : ST} : evG p cf (.fld co f) x v s = (evE p cf co v s).bind fun y s => (setF p y f x s).bind fun _ s => .ok v s := rfl
theorem st_fld (F : FactsX p wf L t X k) {f : Nat} {x : Str} (hf : L.fN f = x) (ho : PE X o (tE p L X.K cf co W)) (he : PE X e (tE p L X.K cf ce W)) :
    PS X (.Assign [.Attribute o x apos] e pos) (tS p wf L X.K cf (.asg (.fld co f) ce) W) := by
  subst hf
  have hsw : swapsWith e (some (.Attribute o (L.fN f) apos)) pos.line X.env = pure false := by cases e <;> rfl
  refine ⟨fun pins s σ H D I h => (ps_fld ho he hsw).run pins s σ H D I ?_⟩
  obtain ⟨m, v, s, R, E, q⟩ := h
  rw [evS_asg] at q
  refine ⟨m, v, s, R, E, (PostS.stV q E).imp (fun u H1 ⟨m1, d, s1, e1, R1, i1, _, q1⟩ => ?_) fun _ _ _ z => z⟩
  rw [evG_fld, PostS.assoc] at q1
  refine ⟨m1, v, s1, R1, E.mono e1, (PostS.stV q1 (E.mono e1)).imp (fun u2 H2 ⟨m2, d2, s2, e2, R2, i2, _, q2⟩ => ?_) fun _ _ _ z => z⟩
  rw [PostS.assoc] at q2
  have E2 := (E.mono e1).mono e2
  cases er : setF p d2 f d s2 with
  | bad => rw [er] at q2; exact q2.elim
  | exc c fs s' => exact absurd er (setF_nox c fs s')
  | ok u s3 =>
    rw [er, st_ok, st_ok] at q2
    obtain ⟨a, C, dx, fs, ex, h1, _, h2, h3, h4, e3, R3⟩ := setF_arm F R2 i2 (i1.mono e2) er
    exact ⟨a, _, dx, fs, ex, h1, h2, h3, h4, PostS.nx (q2.mono e3) R3 (E2.mono e3)⟩
/-! ### augmented assignments -/
def rIpD (L : Lk) (K : PySem.W.Frag) (op : Bop) : V → V → Hp → VK → Prop := fun x y H Q => ∃ m dx dy s, Rel L K m H s ∧ IsD K m H x dx ∧ IsD K m H y dy ∧ Post L K m H (augV op dx dy s) Q (fun _ _ _ => False)
theorem ip_D (op : Bop) : PIp X (bopO op) (rIpD L X.K op) := by
  intro pins s σ H x y v u Q I r1 r2 h
  obtain ⟨m, dx, dy, st, R, ix, iy, q⟩ := h
  cases op with
  | add =>
    cases ix with
    | int i =>
      cases iy with
      | int j => exact ip_add pins s σ H _ _ v u Q I r1 r2 ⟨i, j, rfl, rfl, Post.ok q R (.int _)⟩
      | _ => exact q.elim
    | str i =>
      cases iy with
      | str j =>
        simp only [augV] at q
        split at q
        · rename_i hz
          exact in_addS pins s σ H _ _ v u Q I r1 r2 ⟨i, j, rfl, rfl, by rw [LN_eq]; exact hz, Post.ok q R (.str _)⟩
        · exact q.elim
      | _ => exact q.elim
    | _ => cases iy <;> exact q.elim
  | sub =>
    cases ix with
    | int i =>
      cases iy with
      | int j => exact ip_sub pins s σ H _ _ v u Q I r1 r2 ⟨i, j, rfl, rfl, Post.ok q R (.int _)⟩
      | _ => exact q.elim
    | _ => cases iy <;> exact q.elim
  | mul => cases ix <;> cases iy <;> exact q.elim
  | fdiv => cases ix <;> cases iy <;> exact q.elim
  | mod => cases ix <;> cases iy <;> exact q.elim
  | pow => cases ix <;> cases iy <;> exact q.elim
  | band => cases ix <;> cases iy <;> exact q.elim
  | shr => cases ix <;> cases iy <;> exact q.elim
theorem st_aug (ok : Xok p wf L t k X N sc stb W) {i : Nat} {y : Str} {py : Pos} (op : Bop) (hy : N[i]? = some y) (hst : stb y = true) (he : PE X e (tE p L X.K cf ce W)) : PS X (.AugAssign (.Name y py) (bopO op) e pos) (tS p wf L X.K cf (.aug i op ce) W) := by
  obtain ⟨h1, h2⟩ := ok.fn y hst
  refine ⟨fun pins s σ H D I h => (ps_aug (by rw [ok.hN]; exact ok.nd) (by rw [ok.hN]; exact hy) (by rw [ok.hsc]; exact h2) he (ip_D (L := L) op) (by rw [ok.hsc]; exact h1)).run pins s σ H D I ?_⟩
  obtain ⟨m, v, s, R, E, q⟩ := h
  have q : PostS L X.K m H (match getE v i with
    | some x => (evE p cf ce v s).st v fun y s => (augV op x y s).st v fun z s => .nx (v.set i (some z)) s
    | none => .bad) D W := q
  cases hx : getE v i with
  | none => rw [hx] at q; exact q.elim
  | some x =>
    rw [hx] at q
    obtain ⟨u, hu, iu⟩ := E.at_ i x hx
    refine ⟨u, hu, m, v, s, R, E, (PostS.stV q E).imp (fun w H1 ⟨m1, d, s1, e1, R1, i1, _, q1⟩ => ?_) fun _ _ _ z => z⟩
    refine ⟨m1, x, d, s1, R1, iu.mono e1, i1, ((PostS.stV q1 (E.mono e1)).nox fun c fs s => augV_nox c fs s).imp (fun z H2 ⟨m2, d2, s2, e2, R2, i2, _, q2⟩ => ?_) fun _ _ _ z => z⟩
    exact PostS.nx q2 R2 (((E.mono e1).mono e2).set i2 i)
theorem clsOf_ok {m : List Addr} {H : Hp} {s : ST} {a : Addr} {d : Dt.D} {C : Nat} {K : PySem.W.Frag} (R : Rel L K m H s) (i : IsD K m H (.ref a) d) (h : clsOf s d = some C) : ∃ dx fs fs', H a = some (.ins (L.cA C) dx fs) ∧ FsR L K m H fs fs' := by
  cases i with
  | @ref _ l ha =>
    simp only [clsOf] at h
    split at h
    · rename_i C' fs e
      cases h
      obtain ⟨dx, fs', h1, h2, h3⟩ := R.at_ l _ a e ha
      exact ⟨dx, fs', fs, h1, h2⟩
    · cases h
  | _ => cases h
theorem st_augF (F : FactsX p wf L t X k) {f : Nat} {x : Str} (hf : L.fN f = x) (op : Bop) (ho : PE X o (tE p L X.K cf co W)) (he : PE X e (tE p L X.K cf ce W)) :
    PS X (.AugAssign (.Attribute o x apos) (bopO op) e pos) (tS p wf L X.K cf (.augF co f op ce) W) := by
  subst hf
  refine ⟨fun pins s σ H D I h => (ps_fldaug ho he (rd := rIpD L X.K op) (ip_D (L := L) op)).run pins s σ H D I ?_⟩
  obtain ⟨m, v, s, R, E, q⟩ := h
  have q : PostS L X.K m H ((evE p cf co v s).st v fun x s0 => (fldV x f s0).st v fun a s1 => (evE p cf ce v s1).st v fun y s => (augV op a y s).st v fun z s => if clsOf s0 x = clsOf s x then (setF p x f z s).st v fun _ s => .nx v s else .bad) D W := q
  refine ⟨m, v, s, R, E, (PostS.stV q E).imp (fun u H1 ⟨m1, d, s1, e1, R1, i1, _, q1⟩ => ?_) fun _ _ _ z => z⟩
  have E1 := E.mono e1
  have hq := (PostS.stV q1 E1).nox (W' := fun _ _ _ => False) fun c fs s => fldV_nox c fs s
  obtain ⟨a, C, dx, fs, w, ex, h1, h2, h3, h4, q2⟩ := fld_arm F R1 i1 hq
  subst ex
  refine ⟨a, C, dx, fs, w, rfl, h1, h2, h3, h4, ?_⟩
  obtain ⟨m2, d2, s2, e2, R2, i2, _, q3⟩ := q2
  have E2 := E1.mono e2
  refine ⟨m2, v, s2, R2, E2, (PostS.stV q3 E2).imp (fun y H3 ⟨m3, d3, s3, e3, R3, i3, _, q4⟩ => ?_) fun _ _ _ z => z⟩
  have E3 := E2.mono e3
  refine ⟨m3, d2, d3, s3, R3, i2.mono e3, i3, ((PostS.stV q4 E3).nox fun c fs s => augV_nox c fs s).imp (fun z H4 ⟨m4, d4, s4, e4, R4, i4, _, q5⟩ => ?_) fun _ _ _ z => z⟩
  have E4 := E3.mono e4
  split at q5
  · rename_i hcl
    cases er : setF p d f d4 s4 with
    | bad => rw [er] at q5; exact q5.elim
    | exc c fs s' => exact absurd er (setF_nox c fs s')
    | ok u s5 =>
      rw [er, st_ok] at q5
      have ia := ((i1.mono e2).mono e3).mono e4
      obtain ⟨a', C', dx', fs', ex, g1, gc, g2, g3, g4, e5, R5⟩ := setF_arm F R4 ia i4 er
      cases ex
      rw [gc] at hcl
      obtain ⟨dx2, fs2, _, k1, _⟩ := clsOf_ok R1 i1 hcl
      rw [h1] at k1
      cases k1
      exact ⟨dx', fs', g1, g4, PostS.nx (q5.mono e5) R5 (E4.mono e5)⟩
  · exact q5.elim
/-! ### loops -/
theorem st_while (hp : PassesOwn (model X.prog X.w) X.A X.env X.xe) (hc : PT X c (tT p L X.K cf cc W)) (h1 : PSs X body (tB p wf L X.K cf cb1 W)) : PS X (.While c body [] pos) (tS p wf L X.K cf (.whl cc cb1) W) := by
  refine ⟨fun pins s σ H D I h => (ps_while hp hc h1).run pins s σ H D I ?_⟩
  obtain ⟨m, v, s, R, E, q⟩ := h
  have q : PostS L X.K m H (whlR (evT p cf cc) (evB p wf cf cb1) wf v s) D W := q
  refine ⟨fun n σ H => ∃ m v s, Rel L X.K m H s ∧ EvR X.K m H σ v ∧ PostS L X.K m H (whlR (evT p cf cc) (evB p wf cf cb1) n v s) D W, ⟨wf, m, v, s, R, E, q⟩, ?_⟩
  rintro n σ1 H1 ⟨m1, v1, s1, R1, E1, q1⟩
  cases n with
  | zero => exact q1.elim
  | succ n =>
    have q1 : PostS L X.K m1 H1 ((evT p cf cc v1 s1).st v1 fun k s => if k = true then match evB p wf cf cb1 v1 s with
      | .nx v' s' => whlR (evT p cf cc) (evB p wf cf cb1) n v' s'
      | .ct v' s' => whlR (evT p cf cc) (evB p wf cf cb1) n v' s'
      | .bk v' s' => .nx v' s'
      | q => q
    else .nx v1 s) D W := q1
    refine ⟨m1, v1, s1, R1, E1, ?_⟩
    have q2 := PostS.stG q1 E1
    cases er : evT p cf cc v1 s1 with
    | bad => rw [er] at q2; exact q2.elim
    | exc _ _ _ => rw [er] at q2; exact q2
    | ok j s2 =>
      rw [er] at q2
      intro m2 H2 e2 R2
      obtain ⟨e3, R3, _, q3⟩ := q2 m2 H2 e2 R2
      cases j with
      | true =>
        rw [if_pos rfl] at q3
        refine iteT ⟨fun σ' H' => ∃ m v s, Rel L X.K m H' s ∧ EvR X.K m H' σ' v ∧ PostS L X.K m H' (whlR (evT p cf cc) (evB p wf cf cb1) n v s) D W, fun σ' H' h => ⟨n, Nat.lt_succ_self n, h⟩, m2, v1, s2, R2, E1.mono e2, ?_⟩
        cases eb : evB p wf cf cb1 v1 s2 with
        | nx v' s' => rw [eb] at q3; exact fun m4 H4 σ4 e4 R4 E4 => ⟨m4, v', s', R4, E4, q3.mono e4⟩
        | ct v' s' => rw [eb] at q3; exact fun m4 H4 σ4 e4 R4 E4 => ⟨m4, v', s', R4, E4, q3.mono e4⟩
        | bk v' s' => rw [eb] at q3; exact q3
        | rt d s' => rw [eb] at q3; exact q3
        | xc c fs v' s' => rw [eb] at q3; exact q3
        | bad => rw [eb] at q3; exact q3
      | false =>
        rw [if_neg Bool.false_ne_true] at q3
        exact iteF (PostS.nx q3 R2 (E1.mono e2))
/-- the rest of a for -/
def ForW (p : Pg) (wf : Nat) (L : Lk) (K : PySem.W.Frag) (cf : CF) (tt : Tg) (b : List Sm) (g : Src) (m1 : List Addr) (H1 : Hp) (D : Ends) (W : WX) (i r : Nat) (σ : L2.St) (H : Hp) : Prop :=
  ∃ m v s, Ext m1 H1 m H ∧ Rel L K m H s ∧ EvR K m H σ v ∧ PostS L K m H (forR g (fun x v s => (evG p cf tt x v s).st v fun v s => evB p wf cf b v s) r i v s) D W
theorem st_for (hp : PassesOwn (model X.prog X.w) X.A X.env X.xe) (hc : X.calm = true) {tt : Tg} {it : Dt.It} {iter : Expr} {own : List Nat} (hpl : plainT own tt = true) (hi : PI X tg iter (tI p L X.K cf it W)) (hg : PG X tg (gOf X.K tt)) (h1 : PSs X body (tB p wf L X.K cf cb1 W))
    (hs : notSet iter = true) : PS X (.For tg iter body [] pos) (tS p wf L X.K cf (.fr tt it cb1) W) := by
  refine ⟨fun pins s σ H D I h => (ps_for hp hc hi hg h1 (fold_ok hs X.env)).run pins s σ H D I ?_⟩
  obtain ⟨m, v, s, R, E, q⟩ := h
  have q : PostS L X.K m H ((evI p cf it v s).st v fun g s => match g.size s with
    | some n => forR g (fun x v s => (evG p cf tt x v s).st v fun v s => evB p wf cf cb1 v s) n 0 v s
    | none => .bad) D W := q
  refine ⟨m, v, s, R, E, ?_⟩
  have q2 := PostS.stG q E
  cases er : evI p cf it v s with
  | bad => rw [er] at q2; exact q2.elim
  | exc _ _ _ => rw [er] at q2; exact q2
  | ok g s1 =>
    rw [er] at q2
    intro m1 H1 e1 R1 J S
    obtain ⟨_, _, _, q3⟩ := q2 m1 H1 e1 R1
    cases hz : g.size s1 with
    | none => rw [hz] at q3; exact q3.elim
    | some n =>
      rw [hz] at q3
      refine ⟨fun i r σ H => ForW p wf L X.K cf tt cb1 g m1 H1 D W i r σ H, ⟨n, m1, v, s1, .refl _ _, R1, E.mono e1, q3⟩, ?_⟩
      rintro i r σ2 H2 ⟨m2, v2, s2, e2, R2, E2, q4⟩
      cases r with
      | zero =>
        left
        have q4 : PostS L X.K m2 H2 (if g.size s2 = some i then .nx v2 s2 else .bad) D W := q4
        split at q4
        · rename_i hz2
          exact ⟨S.stop m2 H2 s2 i e2 R2 hz2, PostS.nx q4 R2 E2⟩
        · exact q4.elim
      | succ r =>
        right
        have q4 : PostS L X.K m2 H2 (match g.at_ i s2 with
          | none => .bad
          | some x => match (evG p cf tt x v2 s2).st v2 fun v s => evB p wf cf cb1 v s with
            | .nx v' s' => forR g (fun x v s => (evG p cf tt x v s).st v fun v s => evB p wf cf cb1 v s) r (i + 1) v' s'
            | .ct v' s' => forR g (fun x v s => (evG p cf tt x v s).st v fun v s => evB p wf cf cb1 v s) r (i + 1) v' s'
            | .bk v' s' => .nx v' s'
            | q => q) D W := q4
        cases hx : g.at_ i s2 with
        | none => rw [hx] at q4; exact q4.elim
        | some d =>
          rw [hx] at q4
          obtain ⟨hg1, hy⟩ := S.go m2 H2 s2 i d e2 R2 hx
          refine ⟨hg1, fun σ' H' => ForW p wf L X.K cf tt cb1 g m1 H1 D W (i + 1) r σ' H', fun σ' H' h => ⟨r, Nat.lt_succ_self r, h⟩, fun x H3 hyl => ?_⟩
          obtain ⟨e3, R3, ix, _⟩ := hy x H3 hyl
          have E3 := E2.mono e3
          rcases g_ok (p := p) (cf := cf) own tt x d σ2 v2 s2 hpl E3 ix with hb | ⟨v', hv, hG⟩
          · simp only [hb, st_bad] at q4
            exact q4.elim
          · refine hG _ fun σ' E' _ => ?_
            simp only [hv, st_ok] at q4
            refine ⟨m2, v', s2, R3, E', ?_⟩
            have q5 := PostS.mono e3 q4
            have e4 := e2.trans e3
            cases eb : evB p wf cf cb1 v' s2 with
            | nx v5 s5 => rw [eb] at q5; exact fun m6 H6 σ6 e6 R6 E6 => ⟨m6, v5, s5, e4.trans e6, R6, E6, q5.mono e6⟩
            | ct v5 s5 => rw [eb] at q5; exact fun m6 H6 σ6 e6 R6 E6 => ⟨m6, v5, s5, e4.trans e6, R6, E6, q5.mono e6⟩
            | bk v5 s5 => rw [eb] at q5; exact q5
            | rt d5 s5 => rw [eb] at q5; exact q5
            | xc c fs v5 s5 => rw [eb] at q5; exact q5
            | bad => rw [eb] at q5; exact q5
end
end Dt
namespace Dt
open PySem PySem.Spec PyProof.Rows L2
/-! ### from the program's form to the small syntax: expressions -/
structure QC where
  N : List Str
  sc : Scope
  stb : Str → Bool
def guardO {α : Type} (b : Bool) (x : Option α) : Option α := if b = true then x else none
theorem guardO_eq {α : Type} {b : Bool} {x : Option α} {y : α} : guardO b x = some y ↔ b = true ∧ x = some y := by
  unfold guardO
  cases b <;> simp
def ixOf (N : List Str) (x : Str) : Option Nat := match N.findIdx? (· == x) with
  | some i => if N[i]? = some x then some i else none
  | none => none
theorem ixOf_ok {N : List Str} {x : Str} {i : Nat} (h : ixOf N x = some i) : N[i]? = some x := by
  unfold ixOf at h
  split at h
  · split at h
    · cases h; assumption
    · cases h
  · cases h
def visB (sc : Scope) (x : Str) : Bool := match sc.names.lookup x with
  | some .local => true
  | some .cell => true
  | some .free => true
  | _ => false
theorem visB_ok {sc : Scope} {x : Str} (h : visB sc x = true) : Vis sc x := by
  unfold visB at h
  split at h
  · rename_i e; exact .inl e
  · rename_i e; exact .inr (.inl e)
  · rename_i e; exact .inr (.inr e)
  · cases h
def glB (sc : Scope) (x : Str) : Bool := (match sc.names.lookup x with
  | some .globalImplicit => true
  | _ => false) && !(x == ("__debug__" : Str))
theorem glB_ok {p : Pg} {wf : Nat} {L : Lk} {t : CT} {k : Nat} {X : Cx} {N : List Str} {sc : Scope} {stb : Str → Bool} {W : WX} (ok : Xok p wf L t k X N sc stb W) {x : Str} (h : glB sc x = true) : Gl X x ∧ (x == ("__debug__" : Str)) = false := by
  unfold glB at h
  simp only [Bool.and_eq_true, Bool.not_eq_true'] at h
  obtain ⟨h1, h2⟩ := h
  refine ⟨?_, h2⟩
  show X.env.scope.names.lookup x = _
  rw [ok.hsc]
  split at h1
  · assumption
  · cases h1
def cName (t : CT) (Q : QC) (x : Str) : Option E :=
  if visB Q.sc x = true then guardO (!(x == ("__debug__" : Str)) && !(x == ("__classdict__" : Str))) ((ixOf Q.N x).map .var)
  else guardO (glB Q.sc x) ((t.cons.lookup x).map .con)
def cCon : Const → Option E
  | .none => some (.con .non)
  | .bool b => some (.con (.bl b))
  | .int i => some (.con (.int i))
  | .str x => some (.con (.str x))
  | _ => none
def bopOf : Operator → Option Bop
  | .Add => some .add | .Sub => some .sub | .Mult => some .mul | .FloorDiv => some .fdiv | .Mod => some .mod | .Pow => some .pow | .BitAnd => some .band | .RShift => some .shr
  | _ => none
theorem bopOf_ok {o : Operator} {b : Bop} (h : bopOf o = some b) : bopO b = o := by
  cases o <;> cases h <;> rfl
def copOf (o : CmpOp) (b : Expr) : Option Cop := match o with
  | .Eq => some .eq | .NotEq => some .ne | .Lt => some .lt | .LtE => some .le | .Gt => some .gt | .GtE => some .ge | .In => some .isin | .NotIn => some .notin
  | .Is => match b with
    | .Constant .none _ _ => some .isN
    | .Constant (.bool _) _ _ => some .isB
    | _ => none
  | .IsNot => match b with
    | .Constant .none _ _ => some .notN
    | .Constant (.bool _) _ _ => some .notB
    | _ => none
theorem copOf_ok {o : CmpOp} {b : Expr} {c : Cop} (h : copOf o b = some c) : copO c = o := by
  unfold copOf at h
  repeat' split at h
  all_goals first | (cases h; done) | (cases h; rfl)
def isSetE : Expr → Bool
  | .Set .. => true
  | _ => false
theorem isSetE_ok {e : Expr} (h : isSetE e = false) : ∀ x y z, e ≠ .Set x y z := by
  intro x y z rfl_; subst rfl_; cases h
def isSliceE : Expr → Bool
  | .Slice .. => true
  | _ => false
theorem isSliceE_ok {e : Expr} (h : isSliceE e = false) : ∀ x y z w, e ≠ .Slice x y z w := by
  intro x y z w rfl_; subst rfl_; cases h
def isStarE : Expr → Bool
  | .Starred .. => true
  | _ => false
theorem isStarE_ok {e : Expr} (h : isStarE e = false) : ∀ x y, e ≠ .Starred x y := by
  intro x y rfl_; subst rfl_; cases h
def cLf (f : Expr → Option E) : List Expr → Option (List E)
  | [] => some []
  | e :: es => guardO (!isStarE e) ((f e).bind fun c => (cLf f es).bind fun cs => some (c :: cs))
def boF (f : Expr → Option E) (op : BoolOp) : List Expr → Option E
  | [] => none
  | [a] => f a
  | a :: b :: r => (f a).bind fun ca => (boF f op (b :: r)).bind fun cb => some (match op with
    | .And => .and ca cb
    | .Or => .or ca cb)
def cOf (f : Expr → Option E) : Option Expr → Option (Option E)
  | none => some none
  | some e => (f e).map some
def stepT (Q : QC) (g : Expr → Option Tg) : Expr → Option Tg
  | .Name x _ => guardO (Q.stb x) ((ixOf Q.N x).map .name)
  | .Tuple es _ _ => guardO (es.all fun e => !isStarE e) ((es.mapM g).map .tup)
  | _ => none
def cTg (Q : QC) : Expr → Option Tg := stepT Q (stepT Q (stepT Q fun _ => none))
def bfOf (x : Str) : Option Bf := [Bf.len, .int, .max, .min, .tuple, .list, .all, .any, .sum, .abs, .str, .repr].find? fun b => bfN b == x
theorem bfOf_ok {x : Str} {b : Bf} (h : bfOf x = some b) : bfN b = x ∧ b ≠ .sorted := by
  unfold bfOf at h
  have h2 := List.find?_some (p := fun b => bfN b == x) h
  refine ⟨eq_of_beq h2, ?_⟩
  have := List.mem_of_find?_eq_some h
  rintro rfl
  simp at this
def bmOf (x : Str) : Option Bm := [Bm.append, .extend, .split, .join, .count].find? fun b => bmN b == x
theorem bmOf_ok {x : Str} {b : Bm} (h : bmOf x = some b) : bmN b = x ∧ b ≠ .index ∧ b ≠ .get ∧ b ≠ .pop := by
  unfold bmOf at h
  have := List.mem_of_find?_eq_some h
  have h2 := List.find?_some (p := fun b => bmN b == x) h
  refine ⟨eq_of_beq h2, ?_, ?_, ?_⟩ <;> (rintro rfl; simp at this)
def btOf (t : CT) (sc : Scope) (x : Str) : Option BT := guardO (glB sc x && t.free.contains x) ([BT.bool, .int, .str, .tuple, .list, .dict].find? fun b => btN b == x)
theorem btOf_ok {t : CT} {sc : Scope} {x : Str} {b : BT} (h : btOf t sc x = some b) : glB sc x = true ∧ x ∈ t.free ∧ btN b = x ∧ b ≠ .none := by
  unfold btOf at h
  rw [guardO_eq] at h
  simp only [Bool.and_eq_true, List.contains_iff_mem] at h
  have := List.mem_of_find?_eq_some h.2
  have h2 := List.find?_some (p := fun b => (btN b : Str) == x) h.2
  refine ⟨h.1.1, h.1.2, eq_of_beq h2, ?_⟩
  rintro rfl
  simp at this
def btE (t : CT) (sc : Scope) : Expr → Option BT
  | .Name x _ => btOf t sc x
  | _ => none
def cIsi (t : CT) (f : Expr → Option E) (sc : Scope) : List Expr → Option E
  | [e, .Tuple cs _ _] => guardO (!isStarE e && decide (cs.length ≤ 1000)) ((f e).bind fun c => (cs.mapM (btE t sc)).bind fun bts => some (.isi c bts []))
  | [e, c] => guardO (!isStarE e) ((f e).bind fun ce => (btE t sc c).bind fun bt => some (.isi ce [bt] []))
  | _ => none
def cCall (t : CT) (p : Pg) (f : Expr → Option E) (Q : QC) (x : Str) (es : List Expr) : Option E := guardO (glB Q.sc x) (match t.fns.lookup x with
  | some g => (cLf f es).map (.call g)
  | none => match t.clss.lookup x with
    | some C => match p.cls[C]? with
      | some cl => guardO (cl.init.isSome && cl.exc.isNone) ((cLf f es).map (.new C))
      | none => none
    | none => guardO (t.free.contains x) (if x == ("isinstance" : Str) then cIsi t f Q.sc es else (bfOf x).bind fun b => guardO (!es.isEmpty) ((cLf f es).map (.bf b))))
def cMeth (t : CT) (f : Expr → Option E) (o : Expr) (m : Str) (ap : Pos) (es : List Expr) (pos : Pos) : Option E := guardO (okBase o && (ap.endLine == pos.line)) ((f o).bind fun co => match t.mts.lookup m with
  | some i => guardO (decide (es.length < 30)) ((cLf f es).map (.meth co i))
  | none => if m == ("pop" : Str) then guardO es.isEmpty (some (.bm .pop co [])) else (bmOf m).bind fun b => guardO (!es.isEmpty && decide (es.length < 30)) ((cLf f es).map (.bm b co)))
def isTup : Expr → Bool
  | .Tuple .. => true
  | _ => false
def isM1 : Expr → Bool
  | .UnaryOp .USub (.Constant (.int 1) _ _) _ => true
  | _ => false
def cIt (t : CT) (f : Expr → Option E) (Q : QC) (tg : Expr) (it : Expr) : Option Dt.It := match it with
  | .Call (.Name x _) es [] _ => if (glB Q.sc x && t.free.contains x) = true then
      (if x == ("range" : Str) then (match es with
        | [b] => guardO (!isStarE b) ((f b).map fun c => .rng none c none)
        | [a, b] => guardO (!isStarE a && !isStarE b) ((f a).bind fun ca => (f b).map fun cb => .rng (some ca) cb none)
        | _ => none)
      else if x == ("enumerate" : Str) then (match es with
        | [b] => guardO (!isStarE b && isTup tg) ((f b).map .enum)
        | _ => none)
      else if x == ("zip" : Str) then (match es with
        | [a, b] => guardO (!isStarE a && !isStarE b && isTup tg) ((f a).bind fun ca => (f b).map fun cb => .zip ca cb)
        | _ => none)
      else (f it).map .seq)
    else (f it).map .seq
  | _ => guardO (notSet it) ((f it).map .seq)
def tgNames : Nat → Expr → List Str
  | 0, _ => []
  | n + 1, e => match e with
    | .Name x _ => [x]
    | .Tuple es _ _ => es.flatMap (tgNames n)
    | _ => []
def ownOf (N : List Str) (tg : Expr) : List (Str × Nat) := (tgNames 4 tg).filterMap fun x => (ixOf N x).map fun i => (x, i)
def blkQ (Q : QC) (scope : Scope) : QC := ⟨Q.N, relS scope Q.sc, stbB scope Q.sc⟩
structure LcP where
  own : List (Str × Nat)
  tt : Tg
  it : Dt.It
  co : Option E
  ce : E
def cLc (t : CT) (f : Bool → QC → Expr → Option E) (Q : QC) (elt tg iter : Expr) (ifs : List Expr) (scope : Scope) : Option LcP :=
  (cTg (blkQ Q scope) tg).bind fun tt => (cIt t (f false Q) Q tg iter).bind fun it => (match ifs with
    | [] => some none
    | [c] => (f true (blkQ Q scope) c).map some
    | _ => none).bind fun co => (f false (blkQ Q scope) elt).bind fun ce =>
  guardO (blkC Q.N Q.sc scope (ownOf Q.N tg) && plainT ((ownOf Q.N tg).map Prod.snd) tt && notSet iter) (some ⟨ownOf Q.N tg, tt, it, co, ce⟩)
def LcP.e (q : LcP) : E := .lc (q.own.map Prod.snd) q.tt q.it q.co q.ce
def stepE (t : CT) (p : Pg) (f : Bool → QC → Expr → Option E) (m : Bool) (Q : QC) (e : Expr) : Option E := match e with
  | .Name x _ => cName t Q x
  | .Constant c _ _ => cCon c
  | .BinOp a o b _ => (bopOf o).bind fun ob => (f false Q a).bind fun ca => (f false Q b).bind fun cb => some (.bop ob ca cb)
  | .UnaryOp .Not a _ => (f m Q a).map .not
  | .UnaryOp .USub a _ => (f false Q a).map .neg
  | .BoolOp op vs _ => boF (f m Q) op vs
  | .IfExp c a b _ => guardO (!m) ((f true Q c).bind fun cc => (f false Q a).bind fun ca => (f false Q b).bind fun cb => some (.ife cc ca cb))
  | .Compare a [o] [b] _ => guardO (!isSetE b) ((copOf o b).bind fun oc => (f false Q a).bind fun ca => (f false Q b).bind fun cb => some (.cmp oc ca cb))
  | .Compare a [o, o2] [b, c] _ => guardO (!isSetE c) ((copOf o b).bind fun oc => (copOf o2 c).bind fun oc2 => (f false Q a).bind fun ca => (f false Q b).bind fun cb => (f false Q c).bind fun cc => some (.chain oc oc2 ca cb cc))
  | .Tuple es _ _ => (cLf (f false Q) es).map .tup
  | .List es _ => (cLf (f false Q) es).map .lst
  | .Subscript a (.Slice lo hi none _) _ => (f false Q a).bind fun ca => (cOf (f false Q) lo).bind fun cl => (cOf (f false Q) hi).bind fun ch => some (.slc ca cl ch)
  | .Subscript a b _ => guardO (!isSliceE b) ((f false Q a).bind fun ca => (f false Q b).bind fun cb => some (.idx ca cb))
  | .Attribute o x _ => guardO (okBase o) ((t.flds.lookup x).bind fun fi => (f false Q o).bind fun co => some (.fld co fi))
  | .Call (.Name x _) es [] _ => cCall t p (f false Q) Q x es
  | .Call (.Attribute o mm ap) es [] pos => cMeth t (f false Q) o mm ap es pos
  | .ListComp elt [⟨tg, iter, ifs, 0⟩] scope _ => (cLc t f Q elt tg iter ifs scope).map LcP.e
  | _ => none
def cE (t : CT) (p : Pg) : Nat → Bool → QC → Expr → Option E
  | 0 => fun _ _ _ => none
  | n + 1 => stepE t p (cE t p n)
end Dt
namespace Dt
open PySem PySem.Spec PyProof.Rows L2
section
variable {p : Pg} {wf : Nat} {L : Lk} {t : CT} {k : Nat} {X : Cx} {N : List Str} {sc : Scope} {stb : Str → Bool} {W : WX} {pos apos : Pos} {a b c e o : Expr} {ca cb cc ce co : E} {cf : CF}
variable {es : List Expr} {ces : List E} {tg : Expr}
theorem Xok.un (ok : Xok p wf L t k X N sc stb W) : X.A.units + 65 < cLine := by have := ok.room.un; omega
theorem cName_ok (ok : Xok p wf L t k X N sc stb W) {x : Str} (h : cName t ⟨N, sc, stb⟩ x = some ce) : PE X (.Name x pos) (tE p L X.K cf ce W) := by
  unfold cName at h
  split at h
  · rename_i hv
    simp only [guardO_eq, Option.map_eq_some_iff, Bool.and_eq_true, Bool.not_eq_true'] at h
    obtain ⟨⟨h1, h2⟩, i, hi, rfl⟩ := h
    exact s_var (by rw [ok.hN]; exact ixOf_ok hi) (by rw [ok.hsc]; exact visB_ok hv) h1 h2
  · simp only [guardO_eq, Option.map_eq_some_iff] at h
    obtain ⟨h1, d, hd, rfl⟩ := h
    obtain ⟨u, v, hm, r, hi⟩ := ok.fa.cons x d hd
    obtain ⟨hg, hdb⟩ := glB_ok ok h1
    exact s_con (hi · ·) (pe_glob hg hm r hdb)
theorem cCon_ok {c : Const} {j : Nat} (h : cCon c = some ce) : PE X (.Constant c j pos) (tE p L X.K cf ce W) := by
  cases c <;> cases h
  · exact s_con (fun _ _ => .non) pe_non
  · exact s_con (fun _ _ => .bl _) pe_bl
  · exact s_con (fun _ _ => .int _) pe_int
  · exact s_con (fun _ _ => .str _) pe_str
theorem cLf_ok {f : Expr → Option E} (hf : ∀ e c, f e = some c → PE X e (tE p L X.K cf c W)) : ∀ {es : List Expr} {ces : List E}, cLf f es = some ces → PA X es (tL p L X.K cf ces W) ∧ ∀ y ∈ es, ∀ a b, y ≠ .Starred a b
  | [], ces, h => by cases h; exact ⟨s_nil, by simp⟩
  | e :: es, ces, h => by
    unfold cLf at h
    simp only [guardO_eq, Option.bind_eq_some_iff, Option.some.injEq, Bool.not_eq_true'] at h
    obtain ⟨h1, c, hc, cs, hcs, rfl⟩ := h
    obtain ⟨g1, g2⟩ := cLf_ok hf hcs
    refine ⟨s_cons (hf _ _ hc) g1 (isStarE_ok h1), fun y hy => ?_⟩
    rcases List.mem_cons.mp hy with rfl | hy
    · exact isStarE_ok h1
    · exact g2 y hy
theorem boF_ok {f : Expr → Option E} (hf : ∀ e c, f e = some c → PE X e (tE p L X.K cf c W)) {op : BoolOp} : ∀ {es : List Expr} {c : E}, boF f op es = some c → PE X (.BoolOp op es pos) (tE p L X.K cf c W)
  | [], c, h => by cases h
  | [a], c, h => pe_one (hf _ _ h)
  | a :: b :: r, c, h => by
    unfold boF at h
    simp only [Option.bind_eq_some_iff, Option.some.injEq] at h
    obtain ⟨ca, ha, cb, hb, rfl⟩ := h
    have ih := boF_ok hf hb
    cases op with
    | And => exact s_and (hf _ _ ha) ih
    | Or => exact s_or (hf _ _ ha) ih
theorem boF_pw {f : Expr → Option E} (hf : ∀ e c, f e = some c → PT X e (tT p L X.K cf c W)) {op : BoolOp} : ∀ {es : List Expr} {c : E}, boF f op es = some c → PW X (.BoolOp op es pos) (tT p L X.K cf c W)
  | [], c, h => by cases h
  | [a], c, h => by
    cases op with
    | And => exact pw_and1 (hf _ _ h)
    | Or => exact pw_or1 (hf _ _ h)
  | a :: b :: r, c, h => by
    unfold boF at h
    simp only [Option.bind_eq_some_iff, Option.some.injEq] at h
    obtain ⟨ca, ha, cb, hb, rfl⟩ := h
    have ih := boF_pw hf hb
    cases op with
    | And => exact t_and (hf _ _ ha) ih
    | Or => exact t_or (hf _ _ ha) ih
theorem cOf_ok {f : Expr → Option E} (hf : ∀ e c, f e = some c → PE X e (tE p L X.K cf c W)) {oe : Option Expr} {oc : Option E} (h : cOf f oe = some oc) : PO X oe (tO p L X.K cf oc W) := by
  cases oe with
  | none => cases h; exact s_none
  | some e =>
    simp only [cOf, Option.map_eq_some_iff] at h
    obtain ⟨c, hc, rfl⟩ := h
    exact s_some (hf _ _ hc)
/-! targets -/
theorem aE_cons {e : Expr} (h : isStarE e = false) (es : List Expr) (env : Env) : assignEach (e :: es) env = (false, assign e env) :: assignEach es env := by
  cases e <;> first | rfl | cases h
theorem aE_len (env : Env) : ∀ es : List Expr, (assignEach es env).length = es.length
  | [] => rfl
  | e :: es => by
    have := aE_len env es
    cases e <;> simp [assignEach, this]
theorem aE_none (env : Env) : ∀ es : List Expr, (es.all fun e => !isStarE e) = true → (assignEach es env).findIdx? (·.1) = none
  | [], _ => rfl
  | e :: es, h => by
    simp only [List.all_cons, Bool.and_eq_true, Bool.not_eq_true'] at h
    rw [aE_cons h.1]
    simp [List.findIdx?_cons, aE_none env es (by simpa using h.2)]
theorem mapM_pgs {g : Expr → Option Tg} (hg : ∀ e tt, g e = some tt → PG X e (gOf X.K tt)) : ∀ {es : List Expr} {ts : List Tg}, (es.all fun e => !isStarE e) = true → es.mapM g = some ts → PGs X es (gsOf X.K ts) ∧ es.length = ts.length
  | [], ts, _, h => by simp at h; subst h; exact ⟨pgs_nil, rfl⟩
  | e :: es, ts, ha, h => by
    simp only [List.all_cons, Bool.and_eq_true, Bool.not_eq_true'] at ha
    rw [List.mapM_cons] at h
    simp only [Option.bind_eq_bind, Option.bind_eq_some_iff, Option.pure_def, Option.some.injEq] at h
    obtain ⟨t1, h1, tr, h2, rfl⟩ := h
    obtain ⟨g1, g2⟩ := mapM_pgs hg (by simpa using ha.2) h2
    exact ⟨pgs_cons (hg _ _ h1) g1 (by rw [aE_cons ha.1]; rfl), by simp [g2]⟩
theorem stepT_ok (ok : Xok p wf L t k X N sc stb W) {g : Expr → Option Tg} (hg : ∀ e tt, g e = some tt → PG X e (gOf X.K tt)) {e : Expr} {tt : Tg} (h : stepT ⟨N, sc, stb⟩ g e = some tt) : PG X e (gOf X.K tt) := by
  unfold stepT at h
  split at h
  · simp only [guardO_eq, Option.map_eq_some_iff] at h
    obtain ⟨h1, i, hi, rfl⟩ := h
    obtain ⟨g1, g2⟩ := ok.fn _ h1
    exact pg_name (by rw [ok.hN]; exact ok.nd) (by rw [ok.hN]; exact ixOf_ok hi) (by rw [ok.hsc]; exact g2) (by rw [ok.hsc]; exact g1)
  · simp only [guardO_eq, Option.map_eq_some_iff] at h
    obtain ⟨h1, ts, hts, rfl⟩ := h
    obtain ⟨g1, g2⟩ := mapM_pgs hg h1 hts
    exact pg_tup ok.calm g1 (by rw [aE_len, g2]) (aE_none _ _ h1)
  · cases h
theorem cTg_ok (ok : Xok p wf L t k X N sc stb W) {e : Expr} {tt : Tg} (h : cTg ⟨N, sc, stb⟩ e = some tt) : PG X e (gOf X.K tt) :=
  stepT_ok ok (fun _ _ h => stepT_ok ok (fun _ _ h => stepT_ok ok (fun _ _ h => by cases h) h) h) h
/-! calls -/
theorem boot_bt {bt : BT} (h : bt ≠ .none) : bootBuiltins (btN bt) = some (.type (btN bt)) := by
  cases bt <;> first | exact absurd rfl h | kernel_rfl
theorem btE_ok (ok : Xok p wf L t k X N sc stb W) {c : Expr} {bt : BT} (h : btE t sc c = some bt) : PE X c (L2.tC (V.ty (btN bt))) := by
  unfold btE at h
  split at h
  · obtain ⟨h1, h2, rfl, h4⟩ := btOf_ok h
    obtain ⟨hg, hdb⟩ := glB_ok ok h1
    exact pe_bltn hg (ok.fa.free _ h2) (boot_bt h4) rfl (by cases bt <;> decide) hdb
  · cases h
theorem btEs_ok (ok : Xok p wf L t k X N sc stb W) : ∀ {cs : List Expr} {bts : List BT}, cs.mapM (btE t sc) = some bts → PA X cs (fun _ H Q => Q (bts.map fun b => V.ty (btN b)) H) ∧ cs.length = bts.length
  | [], bts, h => by simp at h; subst h; exact ⟨pa_nil, rfl⟩
  | c :: cs, bts, h => by
    rw [List.mapM_cons] at h
    simp only [Option.bind_eq_bind, Option.bind_eq_some_iff, Option.pure_def, Option.some.injEq] at h
    obtain ⟨b1, h1, br, h2, rfl⟩ := h
    obtain ⟨g1, g2⟩ := btEs_ok ok h2
    have hst : starEach (c :: cs) X.env = (false, eval c X.env) :: starEach cs X.env := star_ok fun a b => by
      rintro rfl; cases h1
    exact ⟨pa_cons (btE_ok ok h1) g1 hst, by simp [g2]⟩
theorem cIsi_ok (ok : Xok p wf L t k X N sc stb W) {f : Expr → Option E} (hf : ∀ e c, f e = some c → PE X e (tE p L X.K cf c W)) (hg : Gl X "isinstance") (hm : X.mg "isinstance" = none) {ppos : Pos} (h : cIsi t f sc es = some ce) :
    PE X (.Call (.Name "isinstance" ppos) es [] pos) (tE p L X.K cf ce W) := by
  unfold cIsi at h
  split at h
  · rename_i e cs x1 tpos
    simp only [guardO_eq, Option.bind_eq_some_iff, Option.some.injEq, Bool.and_eq_true, Bool.not_eq_true', decide_eq_true_eq] at h
    obtain ⟨⟨h1, h2⟩, c, hc, bts, hb, rfl⟩ := h
    obtain ⟨g1, g2⟩ := btEs_ok ok hb
    exact s_isiT bts hg hm (hf _ _ hc) g1 (isStarE_ok h1) (by omega)
  · rename_i e c _
    simp only [guardO_eq, Option.bind_eq_some_iff, Option.some.injEq, Bool.not_eq_true'] at h
    obtain ⟨h1, ce, hc, bt, hb, rfl⟩ := h
    refine s_isi bt hg hm (hf _ _ hc) (btE_ok ok hb) ?_
    intro y hy
    simp only [List.mem_cons, List.not_mem_nil, or_false] at hy
    rcases hy with rfl | rfl
    · exact isStarE_ok h1
    · rintro a b rfl; cases hb
  · cases h
theorem cCall_ok (ok : Xok p wf L t k X N sc stb W) {f : Expr → Option E} (hf : ∀ e c, f e = some c → PE X e (tE p L X.K (callF p wf k) c W)) {x : Str} {ppos : Pos} (h : cCall t p f ⟨N, sc, stb⟩ x es = some ce) :
    PE X (.Call (.Name x ppos) es [] pos) (tE p L X.K (callF p wf k) ce W) := by
  unfold cCall at h
  rw [guardO_eq] at h
  obtain ⟨h0, h⟩ := h
  obtain ⟨hg, hdb⟩ := glB_ok ok h0
  split at h
  · rename_i g hx
    simp only [Option.map_eq_some_iff] at h
    obtain ⟨cs, hcs, rfl⟩ := h
    obtain ⟨g1, g2⟩ := cLf_ok hf hcs
    cases es with
    | nil => cases hcs; exact s_call0 ok hx hg hdb
    | cons e r => exact s_call ok hx hg hdb g1 g2
  · split at h
    · rename_i C hx
      split at h
      · rename_i cl hC
        simp only [guardO_eq, Option.map_eq_some_iff, Bool.and_eq_true] at h
        obtain ⟨⟨h1, h2⟩, cs, hcs, rfl⟩ := h
        obtain ⟨fi, hfi⟩ := Option.isSome_iff_exists.mp h1
        have hex : cl.exc = none := by simpa using h2
        obtain ⟨g1, g2⟩ := cLf_ok hf hcs
        cases es with
        | nil => cases hcs; exact s_new0 ok hx hC hfi hex hg hdb
        | cons e r => exact s_new ok hx hC hfi hex hg hdb g1 g2
      · cases h
    · rw [guardO_eq] at h
      obtain ⟨h1, h⟩ := h
      have hm : X.mg x = none := ok.fa.free x (by simpa using h1)
      split at h
      · rename_i hi
        have := eq_of_beq hi
        subst this
        exact cIsi_ok ok hf hg hm h
      · simp only [Option.bind_eq_some_iff, guardO_eq, Option.map_eq_some_iff] at h
        obtain ⟨b, hb, hne, cs, hcs, rfl⟩ := h
        obtain ⟨rfl, hns⟩ := bfOf_ok hb
        obtain ⟨g1, g2⟩ := cLf_ok hf hcs
        cases es with
        | nil => cases hne
        | cons e r => exact s_bf ok.calm b hns hg hm g1 g2
theorem cMeth_ok (ok : Xok p wf L t k X N sc stb W) {f : Expr → Option E} (hf : ∀ e c, f e = some c → PE X e (tE p L X.K (callF p wf k) c W)) {m : Str} (h : cMeth t f o m apos es pos = some ce) :
    PE X (.Call (.Attribute o m apos) es [] pos) (tE p L X.K (callF p wf k) ce W) := by
  unfold cMeth at h
  simp only [guardO_eq, Option.bind_eq_some_iff, Bool.and_eq_true] at h
  obtain ⟨⟨hb, hl⟩, co, hco, h⟩ := h
  have ho := hf _ _ hco
  split at h
  · rename_i i hx
    simp only [guardO_eq, Option.map_eq_some_iff, decide_eq_true_eq] at h
    obtain ⟨h1, cs, hcs, rfl⟩ := h
    obtain ⟨g1, g2⟩ := cLf_ok hf hcs
    cases es with
    | nil => cases hcs; exact s_meth0 ok hx hb ho hl
    | cons e r => exact s_meth ok hx hb ho g1 g2 h1 hl
  · split at h
    · rename_i hp
      have := eq_of_beq hp
      subst this
      simp only [guardO_eq, Option.some.injEq] at h
      obtain ⟨h1, rfl⟩ := h
      cases es with
      | nil => exact s_pop hb ho hl
      | cons e r => cases h1
    · simp only [Option.bind_eq_some_iff, guardO_eq, Option.map_eq_some_iff, Bool.and_eq_true, decide_eq_true_eq] at h
      obtain ⟨b, hbm, ⟨hne, h1⟩, cs, hcs, rfl⟩ := h
      obtain ⟨rfl, hns⟩ := bmOf_ok hbm
      obtain ⟨g1, g2⟩ := cLf_ok hf hcs
      cases es with
      | nil => cases hne
      | cons e r => exact s_bm b hns hb ho g1 g2 h1 hl
theorem cIt_ok (ok : Xok p wf L t k X N sc stb W) {f : Expr → Option E} (hf : ∀ e c, f e = some c → PE X e (tE p L X.K (callF p wf k) c W)) {it : Expr} {ci : Dt.It} (h : cIt t f ⟨N, sc, stb⟩ tg it = some ci) : PI X tg it (tI p L X.K (callF p wf k) ci W) := by
  have sq : (f it).map .seq = some ci → PI X tg it (tI p L X.K (callF p wf k) ci W) := by
    intro h
    simp only [Option.map_eq_some_iff] at h
    obtain ⟨c, hc, rfl⟩ := h
    exact i_seq (hf _ _ hc)
  have p1 : ∀ {b c}, isStarE b = false → f b = some c → PA X [b] (tL p L X.K (callF p wf k) [c] W) := fun h1 h2 => s_cons (hf _ _ h2) s_nil (isStarE_ok h1)
  have p2 : ∀ {a b ca cb}, isStarE a = false → isStarE b = false → f a = some ca → f b = some cb → PA X [a, b] (tL p L X.K (callF p wf k) [ca, cb] W) := fun h1 h2 h3 h4 => s_cons (hf _ _ h3) (p1 h2 h4) (isStarE_ok h1)
  unfold cIt at h
  split at h
  · rename_i x ppos es ps
    split at h
    · rename_i h0
      simp only [Bool.and_eq_true, List.contains_iff_mem] at h0
      obtain ⟨hg, hdb⟩ := glB_ok ok h0.1
      have hm : X.mg x = none := ok.fa.free x h0.2
      split at h
      · rename_i hi
        have := eq_of_beq hi
        subst this
        split at h
        · simp only [guardO_eq, Option.map_eq_some_iff, Bool.not_eq_true'] at h
          obtain ⟨h1, c, hc, rfl⟩ := h
          exact i_rng1 hg hm (isStarE_ok h1) (p1 h1 hc)
        · simp only [guardO_eq, Option.bind_eq_some_iff, Option.map_eq_some_iff, Bool.and_eq_true, Bool.not_eq_true'] at h
          obtain ⟨⟨h1, h2⟩, ca, hca, cb, hcb, rfl⟩ := h
          exact i_rng2 hg hm (isStarE_ok h1) (isStarE_ok h2) (p2 h1 h2 hca hcb)
        · cases h
      · split at h
        · rename_i hi
          have := eq_of_beq hi
          subst this
          split at h
          · simp only [guardO_eq, Option.map_eq_some_iff, Bool.and_eq_true, Bool.not_eq_true'] at h
            obtain ⟨⟨h1, h2⟩, c, hc, rfl⟩ := h
            cases tg with
            | Tuple elts kk tpos => exact i_enum hg hm (isStarE_ok h1) (p1 h1 hc)
            | _ => cases h2
          · cases h
        · split at h
          · rename_i hi
            have := eq_of_beq hi
            subst this
            split at h
            · simp only [guardO_eq, Option.bind_eq_some_iff, Option.map_eq_some_iff, Bool.and_eq_true, Bool.not_eq_true'] at h
              obtain ⟨⟨⟨h1, h2⟩, h3⟩, ca, hca, cb, hcb, rfl⟩ := h
              cases tg with
              | Tuple elts kk tpos => exact i_zip hg hm (isStarE_ok h1) (isStarE_ok h2) (p2 h1 h2 hca hcb)
              | _ => cases h3
            · cases h
          · exact sq h
    · exact sq h
  · rw [guardO_eq] at h
    exact sq h.2
end
/-! ### one step -/
structure Snd (p : Pg) (wf : Nat) (L : Lk) (t : CT) (f : Bool → QC → Expr → Option E) : Prop where
  pe : ∀ {k : Nat} {X : Cx} {N : List Str} {sc : Scope} {stb : Str → Bool} {W : WX}, Xok p wf L t k X N sc stb W → ∀ {e : Expr} {c : E}, f false ⟨N, sc, stb⟩ e = some c → PE X e (tE p L X.K (callF p wf k) c W)
  pt : ∀ {k : Nat} {X : Cx} {N : List Str} {sc : Scope} {stb : Str → Bool} {W : WX}, Xok p wf L t k X N sc stb W → ∀ {e : Expr} {c : E}, f true ⟨N, sc, stb⟩ e = some c → PT X e (tT p L X.K (callF p wf k) c W)
section
variable {p : Pg} {wf : Nat} {L : Lk} {t : CT} {k : Nat} {X : Cx} {N : List Str} {sc : Scope} {stb : Str → Bool} {W : WX} {pos apos : Pos} {a b c e o : Expr} {ca cb cc ce co : E} {cf : CF}
variable {es : List Expr} {ces : List E} {tg : Expr} {f : Bool → QC → Expr → Option E}
/-- what a comprehension's parts are -/
structure LcOk (p : Pg) (wf : Nat) (L : Lk) (t : CT) (k : Nat) (X : Cx) (N : List Str) (sc : Scope) (W : WX) (tg iter elt : Expr) (ifs : List Expr) (scope : Scope) (q : LcP) : Prop where
  hb : blkC N sc scope q.own = true
  hp : plainT (q.own.map (·.2)) q.tt = true
  hs : notSet iter = true
  hi : PI X tg iter (tI p L X.K (callF p wf k) q.it W)
  hg : ∀ X', Xok p wf L t k X' N (relS scope sc) (stbB scope sc) W0 → PG X' tg (gOf X'.K q.tt)
  ht : ∀ X', Xok p wf L t k X' N (relS scope sc) (stbB scope sc) W0 → PTs X' ifs (Dt.tC p L X'.K (callF p wf k) q.co)
  he : ∀ X', Xok p wf L t k X' N (relS scope sc) (stbB scope sc) W0 → PE X' elt (tE p L X'.K (callF p wf k) q.ce W0)
theorem cLc_ok (S : Snd p wf L t f) (ok : Xok p wf L t k X N sc stb W) {elt iter : Expr} {ifs : List Expr} {scope : Scope} {q : LcP} (h : cLc t f ⟨N, sc, stb⟩ elt tg iter ifs scope = some q) : LcOk p wf L t k X N sc W tg iter elt ifs scope q := by
  unfold cLc at h
  simp only [Option.bind_eq_some_iff, guardO_eq, Option.some.injEq, Bool.and_eq_true] at h
  obtain ⟨tt, htt, it, hit, oc, hoc, ce, hce, ⟨⟨h1, h2⟩, h3⟩, rfl⟩ := h
  refine ⟨h1, h2, h3, cIt_ok ok (fun e c => S.pe ok) hit, fun X' ok' => cTg_ok ok' htt, fun X' ok' => ?_, fun X' ok' => S.pe ok' hce⟩
  split at hoc
  · cases hoc; exact pts_nil
  · simp only [Option.map_eq_some_iff] at hoc
    obtain ⟨c, hc, rfl⟩ := hoc
    exact pts_one (S.pt ok' hc)
  · cases hoc
theorem stepE_pe (S : Snd p wf L t f) (ok : Xok p wf L t k X N sc stb W) {m : Bool} (hm : m = false ∨ isTst e = false) (h : stepE t p f m ⟨N, sc, stb⟩ e = some ce) : PE X e (tE p L X.K (callF p wf k) ce W) := by
  have hf : ∀ e c, f false ⟨N, sc, stb⟩ e = some c → PE X e (tE p L X.K (callF p wf k) c W) := fun e c => S.pe ok
  unfold stepE at h
  split at h
  · exact cName_ok ok h
  · exact cCon_ok h
  · simp only [Option.bind_eq_some_iff, Option.some.injEq] at h
    obtain ⟨ob, ho, ca, ha, cb, hb, rfl⟩ := h
    rw [← bopOf_ok ho]
    exact s_bop ob (hf _ _ ha) (hf _ _ hb)
  · rcases hm with rfl | hm
    · simp only [Option.map_eq_some_iff] at h
      obtain ⟨c, hc, rfl⟩ := h
      exact s_not (hf _ _ hc)
    · cases hm
  · simp only [Option.map_eq_some_iff] at h
    obtain ⟨c, hc, rfl⟩ := h
    exact s_neg (hf _ _ hc)
  · rcases hm with rfl | hm
    · exact boF_ok hf h
    · cases hm
  · simp only [guardO_eq, Option.bind_eq_some_iff, Option.some.injEq] at h
    obtain ⟨_, cc, hc, ca, ha, cb, hb, rfl⟩ := h
    exact s_ife (S.pt ok hc) (hf _ _ ha) (hf _ _ hb)
  · simp only [guardO_eq, Option.bind_eq_some_iff, Option.some.injEq, Bool.not_eq_true'] at h
    obtain ⟨h1, oc, ho, ca, ha, cb, hb, rfl⟩ := h
    rw [← copOf_ok ho]
    exact s_cmp ok.un oc (hf _ _ ha) (hf _ _ hb) (isSetE_ok h1)
  · simp only [guardO_eq, Option.bind_eq_some_iff, Option.some.injEq, Bool.not_eq_true'] at h
    obtain ⟨h1, oc, ho, oc2, ho2, ca, ha, cb, hb, cc, hc, rfl⟩ := h
    rw [← copOf_ok ho, ← copOf_ok ho2]
    exact s_chain ok.un oc oc2 (hf _ _ ha) (hf _ _ hb) (hf _ _ hc) (isSetE_ok h1)
  · simp only [Option.map_eq_some_iff] at h
    obtain ⟨cs, hcs, rfl⟩ := h
    exact s_tup (cLf_ok hf hcs).1
  · simp only [Option.map_eq_some_iff] at h
    obtain ⟨cs, hcs, rfl⟩ := h
    exact s_lst (cLf_ok hf hcs).1
  · simp only [Option.bind_eq_some_iff, Option.some.injEq] at h
    obtain ⟨ca, ha, cl, hl, ch, hh, rfl⟩ := h
    exact s_slc (hf _ _ ha) (cOf_ok hf hl) (cOf_ok hf hh)
  · simp only [guardO_eq, Option.bind_eq_some_iff, Option.some.injEq, Bool.not_eq_true'] at h
    obtain ⟨h1, ca, ha, cb, hb, rfl⟩ := h
    exact s_idx (hf _ _ ha) (hf _ _ hb) (isSliceE_ok h1)
  · simp only [guardO_eq, Option.bind_eq_some_iff, Option.some.injEq] at h
    obtain ⟨h1, fi, hfi, co, hco, rfl⟩ := h
    exact s_fld ok.fa (ok.fa.flds _ _ hfi) (hf _ _ hco) h1
  · exact cCall_ok ok hf h
  · exact cMeth_ok ok hf h
  · simp only [Option.map_eq_some_iff] at h
    obtain ⟨q, hq, rfl⟩ := h
    have z := cLc_ok S ok hq
    exact s_lc ok z.hb z.hp z.hi z.hs z.hg z.ht z.he
  · cases h
theorem stepE_pt (S : Snd p wf L t f) (ok : Xok p wf L t k X N sc stb W) (h : stepE t p f true ⟨N, sc, stb⟩ e = some ce) : PT X e (tT p L X.K (callF p wf k) ce W) := by
  have hf : ∀ e c, f false ⟨N, sc, stb⟩ e = some c → PE X e (tE p L X.K (callF p wf k) c W) := fun e c => S.pe ok
  cases ht : isTst e with
  | false => exact s_truth (stepE_pe S ok (.inr ht) h) ht
  | true =>
    unfold stepE at h
    split at h
    all_goals first | (cases ht; done) | skip
    · simp only [Option.map_eq_some_iff] at h
      obtain ⟨c, hc, rfl⟩ := h
      exact t_not (S.pt ok hc)
    · exact (boF_pw (fun e c => S.pt ok) h).pt
    · simp only [guardO_eq] at h
      exact absurd h.1 (by simp)
    · simp only [guardO_eq, Option.bind_eq_some_iff, Option.some.injEq, Bool.not_eq_true'] at h
      obtain ⟨h1, oc, ho, ca, ha, cb, hb, rfl⟩ := h
      rw [← copOf_ok ho]
      exact t_cmp ok.un oc (hf _ _ ha) (hf _ _ hb) (isSetE_ok h1)
    · simp only [guardO_eq, Option.bind_eq_some_iff, Option.some.injEq, Bool.not_eq_true'] at h
      obtain ⟨h1, oc, ho, oc2, ho2, ca, ha, cb, hb, cc, hc, rfl⟩ := h
      rw [← copOf_ok ho, ← copOf_ok ho2]
      exact t_chain ok.un oc oc2 (hf _ _ ha) (hf _ _ hb) (hf _ _ hc) (isSetE_ok h1)
    · cases h
theorem cE_snd : ∀ n, Snd p wf L t (cE t p n)
  | 0 => ⟨fun _ _ _ h => (by cases h), fun _ _ _ h => (by cases h)⟩
  | n + 1 => ⟨fun ok _ _ h => stepE_pe (cE_snd n) ok (.inl rfl) h, fun ok _ _ h => stepE_pt (cE_snd n) ok h⟩
end
end Dt
namespace Dt
open PySem PySem.Spec PyProof.Rows L2
/-! ### statements -/
def cAsg (t : CT) (f : Bool → QC → Expr → Option E) (Q : QC) (tg e : Expr) : Option Sm := match tg with
  | .Name y py => (ixOf Q.N y).bind fun i => (match e with
    | .ListComp elt [⟨tg', iter, ifs, 0⟩] scope lp => if Q.sc.names.lookup y = some .local
        then guardO (decide (Q.sc.kind = .function) && (py.line == lp.line) && !(scope.names.any fun (n, k) => n == y && (k == .local || k == .cell))) ((cLc t f Q elt tg' iter ifs scope).map fun q => .asg (.name i) q.e)
        else guardO (Q.stb y) ((f false Q e).map fun c => .asg (.name i) c)
    | e => guardO (Q.stb y && !isComp e) ((f false Q e).map fun c => .asg (.name i) c))
  | .Tuple es k tp => guardO (!isTup e && !isComp e) ((cTg Q (.Tuple es k tp)).bind fun tt => guardO (plainT (List.range Q.N.length) tt) ((f false Q e).map fun c => .asg tt c))
  | .Subscript o i _ => guardO (!isSliceE i) ((f false Q o).bind fun co => (f false Q i).bind fun ci => (f false Q e).map fun c => .asg (.sub co ci) c)
  | .Attribute o x _ => (t.flds.lookup x).bind fun fi => (f false Q o).bind fun co => (f false Q e).map fun c => .asg (.fld co fi) c
  | _ => none
def cAug (t : CT) (f : Bool → QC → Expr → Option E) (Q : QC) (tg : Expr) (op : Bop) (e : Expr) : Option Sm := match tg with
  | .Name y _ => guardO (Q.stb y) ((ixOf Q.N y).bind fun i => (f false Q e).map fun c => .aug i op c)
  | .Attribute o x _ => (t.flds.lookup x).bind fun fi => (f false Q o).bind fun co => (f false Q e).map fun c => .augF co fi op c
  | _ => none
def stepS (t : CT) (f : Bool → QC → Expr → Option E) (g : QC → List Stmt → Option (List Sm)) (Q : QC) (s : Stmt) : Option Sm := match s with
  | .Expr (.Constant (.str _) _ _) _ => some .pss
  | .Expr e _ => guardO (!isComp e) ((f false Q e).map .ex)
  | .Return none _ => some .retN
  | .Return (some e) _ => (f false Q e).map .ret
  | .Pass _ => some .pss
  | .Break _ => some .brk
  | .Continue _ => some .cnt
  | .If c a b _ => (f true Q c).bind fun cc => (g Q a).bind fun ca => (g Q b).bind fun cb => some (.ifs cc ca cb)
  | .While c b [] _ => (f true Q c).bind fun cc => (g Q b).bind fun cb => some (.whl cc cb)
  | .For tg it b [] _ => (cTg Q tg).bind fun tt => (cIt t (f false Q) Q tg it).bind fun ci => (g Q b).bind fun cb => guardO (plainT (List.range Q.N.length) tt && notSet it) (some (.fr tt ci cb))
  | .Assign [tg] e _ => cAsg t f Q tg e
  | .AugAssign tg op e _ => (bopOf op).bind fun ob => cAug t f Q tg ob e
  | _ => none
def cSl (h : Stmt → Option Sm) : List Stmt → Option (List Sm)
  | [] => some []
  | s :: r => (h s).bind fun c => (cSl h r).bind fun cs => some (c :: cs)
def cB (t : CT) (p : Pg) (ne : Nat) : Nat → QC → List Stmt → Option (List Sm)
  | 0 => fun _ _ => none
  | n + 1 => fun Q ss => cSl (stepS t (cE t p ne) (cB t p ne n) Q) ss
structure Sok (p : Pg) (wf : Nat) (L : Lk) (t : CT) (k : Nat) (X : Cx) (N : List Str) (sc : Scope) (stb : Str → Bool) (W : WX) : Prop where
  ok : Xok p wf L t k X N sc stb W
  pass : PassesOwn (model X.prog X.w) X.A X.env X.xe
  hs : X.stack = X.env :: X.outer
  hf : X.env.frame = some X.env.locals
structure SndS (p : Pg) (wf : Nat) (L : Lk) (t : CT) (g : QC → List Stmt → Option (List Sm)) : Prop where
  run : ∀ {k : Nat} {X : Cx} {N : List Str} {sc : Scope} {stb : Str → Bool} {W : WX}, Sok p wf L t k X N sc stb W → ∀ {ss : List Stmt} {cs : List Sm}, g ⟨N, sc, stb⟩ ss = some cs → PSs X ss (tB p wf L X.K (callF p wf k) cs W)
section
variable {p : Pg} {wf : Nat} {L : Lk} {t : CT} {k : Nat} {X : Cx} {N : List Str} {sc : Scope} {stb : Str → Bool} {W : WX} {pos apos : Pos} {a b c e o : Expr} {ca cb cc ce co : E} {cf : CF}
variable {es : List Expr} {ces : List E} {tg : Expr} {f : Bool → QC → Expr → Option E} {g : QC → List Stmt → Option (List Sm)} {cs : Sm} {st : Stmt}
theorem cAsg_ok (S : Snd p wf L t f) (ok : Xok p wf L t k X N sc stb W) (h : cAsg t f ⟨N, sc, stb⟩ tg e = some cs) : PS X (.Assign [tg] e pos) (tS p wf L X.K (callF p wf k) cs W) := by
  unfold cAsg at h
  split at h
  · rename_i y py
    simp only [Option.bind_eq_some_iff] at h
    obtain ⟨i, hi, h⟩ := h
    have hi := ixOf_ok hi
    split at h
    · rename_i elt tg' iter ifs scope lp
      split at h
      · rename_i hl
        simp only [guardO_eq, Option.map_eq_some_iff, Bool.and_eq_true, decide_eq_true_eq, Bool.not_eq_true'] at h
        obtain ⟨⟨⟨h1, h2⟩, h3⟩, q, hq, rfl⟩ := h
        have z := cLc_ok S ok hq
        exact st_setlc ok z.hb z.hp z.hi z.hs hi hl h1 h2 h3 z.hg z.ht z.he
      · rename_i hl
        simp only [guardO_eq, Option.map_eq_some_iff] at h
        obtain ⟨h1, c, hc, rfl⟩ := h
        exact st_set ok hi h1 (S.pe ok hc) (sw_false (by rw [ok.hsc]; exact hl))
    · simp only [guardO_eq, Option.map_eq_some_iff, Bool.and_eq_true, Bool.not_eq_true'] at h
      obtain ⟨⟨h1, h2⟩, c, hc, rfl⟩ := h
      exact st_set ok hi h1 (S.pe ok hc) (swaps_ok h2)
  · simp only [guardO_eq, Option.bind_eq_some_iff, Option.map_eq_some_iff, Bool.and_eq_true, Bool.not_eq_true'] at h
    obtain ⟨⟨h1, h2⟩, tt, htt, h3, c, hc, rfl⟩ := h
    exact st_asg h3 (S.pe ok hc) (cTg_ok ok htt) h2 (by cases e <;> first | rfl | cases h1) rfl
  · simp only [guardO_eq, Option.bind_eq_some_iff, Option.map_eq_some_iff, Bool.not_eq_true'] at h
    obtain ⟨h1, co, hco, ci, hci, c, hc, rfl⟩ := h
    exact st_sub (S.pe ok hco) (S.pe ok hci) (isSliceE_ok h1) (S.pe ok hc)
  · simp only [Option.bind_eq_some_iff, Option.map_eq_some_iff] at h
    obtain ⟨fi, hfi, co, hco, c, hc, rfl⟩ := h
    exact st_fld ok.fa (ok.fa.flds _ _ hfi) (S.pe ok hco) (S.pe ok hc)
  · cases h
theorem cAug_ok (S : Snd p wf L t f) (ok : Xok p wf L t k X N sc stb W) {op : Bop} (h : cAug t f ⟨N, sc, stb⟩ tg op e = some cs) : PS X (.AugAssign tg (bopO op) e pos) (tS p wf L X.K (callF p wf k) cs W) := by
  unfold cAug at h
  split at h
  · simp only [guardO_eq, Option.bind_eq_some_iff, Option.map_eq_some_iff] at h
    obtain ⟨h1, i, hi, c, hc, rfl⟩ := h
    exact st_aug ok op (ixOf_ok hi) h1 (S.pe ok hc)
  · simp only [Option.bind_eq_some_iff, Option.map_eq_some_iff] at h
    obtain ⟨fi, hfi, co, hco, c, hc, rfl⟩ := h
    exact st_augF ok.fa (ok.fa.flds _ _ hfi) op (S.pe ok hco) (S.pe ok hc)
  · cases h
theorem stepS_ok (S : Snd p wf L t f) (G : SndS p wf L t g) (so : Sok p wf L t k X N sc stb W) (h : stepS t f g ⟨N, sc, stb⟩ st = some cs) : PS X st (tS p wf L X.K (callF p wf k) cs W) := by
  have ok := so.ok
  unfold stepS at h
  split at h
  · cases h; exact st_doc
  · simp only [guardO_eq, Option.map_eq_some_iff, Bool.not_eq_true'] at h
    obtain ⟨h1, c, hc, rfl⟩ := h
    exact st_ex (S.pe ok hc) h1
  · cases h; exact st_retN
  · simp only [Option.map_eq_some_iff] at h
    obtain ⟨c, hc, rfl⟩ := h
    exact st_ret (S.pe ok hc)
  · cases h; exact st_pss
  · cases h; exact st_brk
  · cases h; exact st_cnt
  · simp only [Option.bind_eq_some_iff, Option.some.injEq] at h
    obtain ⟨cc, hc, ca, ha, cb, hb, rfl⟩ := h
    exact st_if (S.pt ok hc) (G.run so ha) (G.run so hb)
  · simp only [Option.bind_eq_some_iff, Option.some.injEq] at h
    obtain ⟨cc, hc, cb, hb, rfl⟩ := h
    exact st_while so.pass (S.pt ok hc) (G.run so hb)
  · simp only [Option.bind_eq_some_iff, guardO_eq, Option.some.injEq, Bool.and_eq_true] at h
    obtain ⟨tt, htt, ci, hci, cb, hb, ⟨h1, h2⟩, rfl⟩ := h
    exact st_for so.pass ok.calm h1 (cIt_ok ok (fun e c => S.pe ok) hci) (cTg_ok ok htt) (G.run so hb) h2
  · exact cAsg_ok S ok h
  · simp only [Option.bind_eq_some_iff] at h
    obtain ⟨ob, ho, h⟩ := h
    rw [← bopOf_ok ho]
    exact cAug_ok S ok h
  · cases h
theorem cSl_ok {h : Stmt → Option Sm} (hh : ∀ s c, h s = some c → PS X s (tS p wf L X.K cf c W)) : ∀ {ss : List Stmt} {cs : List Sm}, cSl h ss = some cs → PSs X ss (tB p wf L X.K cf cs W)
  | [], cs, e => by cases e; exact b_nil
  | s :: r, cs, e => by
    unfold cSl at e
    simp only [Option.bind_eq_some_iff, Option.some.injEq] at e
    obtain ⟨c, hc, cr, hr, rfl⟩ := e
    exact b_cons (hh _ _ hc) (cSl_ok hh hr)
theorem cB_snd (ne : Nat) : ∀ n, SndS p wf L t (cB t p ne n)
  | 0 => ⟨fun _ _ _ h => (by cases h)⟩
  | n + 1 => ⟨fun so _ _ h => cSl_ok (fun s c h => stepS_ok (cE_snd ne) (cB_snd ne n) so h) h⟩
end
/-! ### a def -/
def stbF (sc : Scope) : Str → Bool := fun x => decide (sc.names.lookup x = some .local) || decide (sc.names.lookup x = some .cell)
theorem start_ev {K : PySem.W.Frag} {m : List Addr} {H : Hp} {N : List Str} {vs : List V} {ds : List D} {np ns : Nat} (r : IsDs K m H vs ds) (h1 : ds.length = np) (h2 : ns = N.length) : EvR K m H (L2.start N vs) (ds.map some ++ List.replicate (ns - np) none) := by
  unfold L2.start
  subst h1 h2
  refine ⟨by simp [r.len], fun i d h => ?_⟩
  rw [getE_some] at h
  by_cases hi : i < ds.length
  · rw [List.getElem?_append_left (by simpa using hi), List.getElem?_map] at h
    cases e : ds[i]? with
    | none => rw [e] at h; cases h
    | some d' =>
      rw [e] at h
      cases h
      obtain ⟨v, hv, iv⟩ := r.get e
      refine ⟨v, ?_, iv⟩
      rw [List.getElem?_append_left (by simp [r.len]; exact hi), List.getElem?_map, hv]
      rfl
  · rw [List.getElem?_append_right (by simpa using hi)] at h
    have := List.mem_of_getElem? h
    have := List.eq_of_mem_replicate this
    cases this
section
variable {p : Pg} {wf : Nat} {L : Lk} {t : CT} {k : Nat} {P : Program} {w : World} {K : PySem.W.Frag} {mg : Str → Option Value} {base : Heap}
theorem spF_len {f : Nat} {d : Df} (hd : p.defs[f]? = some d) {vs : List V} {H : Hp} {Q : VK} {E : XK} (h : spF p wf L K k f vs H Q E) : vs.length = d.np := by
  obtain ⟨m, ds, s, R, i, q⟩ := h
  cases k with
  | zero => exact q.elim
  | succ k =>
    have q : Post L K m H (match p.defs[f]? with
      | some d => if ds.length = d.np then match evB p wf (callF p wf k) d.body (ds.map some ++ List.replicate (d.ns - d.np) none) s with
          | .nx _ s => .ok .non s
          | .rt x s => .ok x s
          | .xc c fs _ s => .exc c fs s
          | _ => .bad
        else .bad
      | none => .bad) Q E := q
    rw [hd] at q
    simp only at q
    split at q
    · rename_i hl; rw [i.len]; exact hl
    · exact q.elim
theorem fnOk0 {a : Addr} {fd : FuncData} {ps : List Str} {f : Nat} : FnOk P w K mg base (L2.CX P w) 0 a fd ps (spF p wf L K 0 f) :=
  ⟨fun vs H Q E h => by obtain ⟨_, _, _, _, _, q⟩ := h; exact q.elim, fun A outer s H args us vs Q E _ _ _ _ h => by obtain ⟨_, _, _, _, _, q⟩ := h; exact q.elim⟩
/-- a def keeps its promise -/
theorem fnOkS {ne nb : Nat} {x qual : Str} {params : Arguments} {body : List Stmt} {scope : Scope} {a : Addr} {fd : FuncData} {ps N : List Str} {i : Nat} {d : Df} (F : FunD K x qual params body scope [] [] a fd) (S : FnScope N ps scope)
    (hd : p.defs[i]? = some d) (hp : d.np = ps.length) (hn : d.ns = N.length) (hc : cB t p ne nb ⟨N, scope, stbF scope⟩ body = some d.body) (Fa : Facts p wf L t P w K mg base k) :
    FnOk P w K mg base (L2.CX P w) (2 * (k + 1)) a fd ps (spF p wf L K (k + 1) i) := by
  show FnOk P w K mg base (L2.CX P w) ((2 * k + 1) + 1) a fd ps (spF p wf L K (k + 1) i)
  refine F.ok S (fun vs H Q E h => (spF_len hd h).trans hp) (fun cdv A outer s H vs Q E hr h => ?_)
  refine ⟨tB p wf L K (callF p wf k) d.body (fun cls dx _ H => E cls dx H), ?_, ?_⟩
  · refine (cB_snd ne nb).run (X := cxOf (L2.CX P w) P w K mg base N qual scope a cdv A outer s H E) ⟨⟨Fa, rfl, S.nd, rfl, rfl, hr, takes_of rfl rfl rfl rfl, fun x hx => ⟨.inl rfl, ?_⟩⟩, passes_of rfl, rfl, rfl⟩ hc
    unfold stbF at hx
    simp only [Bool.or_eq_true, decide_eq_true_eq] at hx
    exact hx
  · obtain ⟨m, ds, st, R, iv, q⟩ := h
    have q : Post L K m H (match p.defs[i]? with
      | some d => if ds.length = d.np then match evB p wf (callF p wf k) d.body (ds.map some ++ List.replicate (d.ns - d.np) none) st with
          | .nx _ s => .ok .non s
          | .rt x s => .ok x s
          | .xc c fs _ s => .exc c fs s
          | _ => .bad
        else .bad
      | none => .bad) Q E := q
    rw [hd] at q
    simp only at q
    split at q
    · rename_i hl
      refine ⟨m, _, st, R, start_ev iv hl hn, ?_⟩
      cases er : evB p wf (callF p wf k) d.body (ds.map some ++ List.replicate (d.ns - d.np) none) st with
      | nx v s2 => rw [er] at q; exact fun m' H' σ' e R' E' => q m' .non H' e R' .non
      | rt x s2 => rw [er] at q; exact fun m' u H' e R' i => q m' u H' e R' i
      | xc c fs v s2 => rw [er] at q; exact fun m' dd H' σ' e R' E' x => q m' dd H' e R' x
      | bk v s2 => rw [er] at q; exact q.elim
      | ct v s2 => rw [er] at q; exact q.elim
      | bad => rw [er] at q; exact q.elim
    · exact q.elim
/-- a def that is read -/
def DefOk (p : Pg) (t : CT) (ne nb : Nat) (K : PySem.W.Frag) (i : Nat) (a : Addr) (fd : FuncData) (ps : List Str) : Prop := ∃ (x qual : Str) (params : Arguments) (body : List Stmt) (scope : Scope) (N : List Str) (d : Df),
  FunD K x qual params body scope [] [] a fd ∧ FnScope N ps scope ∧ p.defs[i]? = some d ∧ d.np = ps.length ∧ d.ns = N.length ∧ cB t p ne nb ⟨N, scope, stbF scope⟩ body = some d.body ∧ (∀ (s : Shared) (us : List Value), us.length = ps.length → BindsTo s fd ⟨us, []⟩ (ps.zip us))
theorem DefOk.fn {ne nb i : Nat} {a : Addr} {fd : FuncData} {ps : List Str} (h : DefOk p t ne nb K i a fd ps) (Fa : ∀ j, k = j + 1 → Facts p wf L t P w K mg base j) : FnOk P w K mg base (L2.CX P w) (2 * k) a fd ps (spF p wf L K k i) := by
  obtain ⟨x, qual, params, body, scope, N, d, F, S, hd, h1, h2, h3, hb⟩ := h
  cases k with
  | zero => exact fnOk0
  | succ k => exact fnOkS F S hd h1 h2 h3 (Fa k rfl)
theorem DefOk.kp {ne nb i : Nat} {a : Addr} {fd : FuncData} {ps : List Str} (h : DefOk p t ne nb K i a fd ps) : PySem.W.keepIn K (.ref a) = true := by
  obtain ⟨x, qual, params, body, scope, N, d, F, _⟩ := h
  exact F.kp
theorem DefOk.bd {ne nb i : Nat} {a : Addr} {fd : FuncData} {ps : List Str} (h : DefOk p t ne nb K i a fd ps) : Binds K fd ps [] := by
  obtain ⟨x, qual, params, body, scope, N, d, F, S, hd, h1, h2, h3, hb⟩ := h
  intro s us _ hl
  rw [List.append_nil] at hl ⊢
  exact hb s us hl
theorem DefOk.bind1 {ne nb i : Nat} {a : Addr} {fd : FuncData} {x : Str} (h : DefOk p t ne nb K i a fd [x]) (s : Shared) (u : Value) : BindsTo s fd ⟨[u], []⟩ [(x, u)] := by
  obtain ⟨y, qual, params, body, scope, N, d, F, S, hd, h1, h2, h3, hb⟩ := h
  exact hb s [u] rfl
/-- what is known, without the calls -/
structure Stat (p : Pg) (L : Lk) (t : CT) (ne nb : Nat) (K : PySem.W.Frag) (mg : Str → Option Value) : Prop where
  cF : ∀ (C : Nat) (c : Cl), p.cls[C]? = some c → L.cF C = c.flds
  fns : ∀ x f, t.fns.lookup x = some f → ∃ a fd ps, mg x = some (.ref a) ∧ DefOk p t ne nb K f a fd ps
  clss : ∀ x C, t.clss.lookup x = some C → mg x = some (.ref (L.cA C)) ∧ ∀ c f, p.cls[C]? = some c → c.init = some f → c.exc = none → ∃ a fd ps, Mk K (L.cA C) a ∧ DefOk p t ne nb K f a fd ps
  own : ∀ (C f : Nat), f ∈ L.cF C → Cls K (L.cA C) ∧ NoAttr K (L.cA C) (L.fN f)
  cons : ∀ x d, t.cons.lookup x = some d → ∃ u v, mg x = some u ∧ RelV v u ∧ ∀ m H, IsD K m H v d
  flds : ∀ x f, t.flds.lookup x = some f → L.fN f = x
  mts : ∀ x i, t.mts.lookup x = some i → ∀ (C : Nat) (c : Cl) (f : Nat), p.cls[C]? = some c → c.meths.lookup i = some f →
    Cls K (L.cA C) ∧ ∃ a fd ps, Meth K (L.cA C) x a ∧ DefOk p t ne nb K f a fd ps ∧ ∀ j ∈ L.cF C, L.fN j ≠ x
  free : ∀ x ∈ t.free, mg x = none
theorem Stat.facts {ne nb : Nat} (S : Stat p L t ne nb K mg) : ∀ k, Facts p wf L t P w K mg base k := by
  intro k
  induction k with
  | zero =>
    have z : ∀ {i a fd ps}, DefOk p t ne nb K i a fd ps → FnOk P w K mg base (L2.CX P w) (2 * 0) a fd ps (spF p wf L K 0 i) := fun h => h.fn fun j e => by cases e
    exact ⟨S.cF, fun x f h => let ⟨a, fd, ps, h1, h2⟩ := S.fns x f h; ⟨a, fd, ps, h1, h2.kp, z h2, h2.bd⟩,
      fun x C h => let ⟨h1, h2⟩ := S.clss x C h; ⟨h1, fun c f e1 e2 e3 => let ⟨a, fd, ps, g1, g2⟩ := h2 c f e1 e2 e3; ⟨a, fd, ps, g1, z g2, g2.bd⟩⟩, S.own, S.cons, S.flds,
      fun x i h C c f e1 e2 => let ⟨g1, a, fd, ps, g2, g3, g4⟩ := S.mts x i h C c f e1 e2; ⟨g1, a, fd, ps, g2, z g3, g3.bd, g4⟩, S.free⟩
  | succ k ih =>
    have z : ∀ {i a fd ps}, DefOk p t ne nb K i a fd ps → FnOk P w K mg base (L2.CX P w) (2 * (k + 1)) a fd ps (spF p wf L K (k + 1) i) := fun h => h.fn fun j e => by cases e; exact ih
    exact ⟨S.cF, fun x f h => let ⟨a, fd, ps, h1, h2⟩ := S.fns x f h; ⟨a, fd, ps, h1, h2.kp, z h2, h2.bd⟩,
      fun x C h => let ⟨h1, h2⟩ := S.clss x C h; ⟨h1, fun c f e1 e2 e3 => let ⟨a, fd, ps, g1, g2⟩ := h2 c f e1 e2 e3; ⟨a, fd, ps, g1, z g2, g2.bd⟩⟩, S.own, S.cons, S.flds,
      fun x i h C c f e1 e2 => let ⟨g1, a, fd, ps, g2, g3, g4⟩ := S.mts x i h C c f e1 e2; ⟨g1, a, fd, ps, g2, z g3, g3.bd, g4⟩, S.free⟩
end
end Dt
namespace Dt
open PySem PySem.Spec PyProof.Rows L2
/-! ### the head -/
def fNof (fl : List Str) (i : Nat) : Str := match fl[i]? with
  | some x => x
  | none => ⟨Array.replicate (i + 1000) 0⟩
theorem fNof_inj {fl : List Str} (h1 : fl.Nodup) (h2 : (fl.all fun x => decide (x.cps.size < 1000)) = true) (i j : Nat) (h : fNof fl i = fNof fl j) : i = j := by
  have h2 : ∀ x ∈ fl, x.cps.size < 1000 := fun x hx => by simpa using List.all_eq_true.mp h2 x hx
  cases e1 : fl[i]? with
  | some x =>
    cases e2 : fl[j]? with
    | some y =>
      simp only [fNof, e1, e2] at h
      subst h
      obtain ⟨q1, e1⟩ := List.getElem?_eq_some_iff.mp e1
      obtain ⟨q2, e2⟩ := List.getElem?_eq_some_iff.mp e2
      exact (List.getElem_inj h1).mp (e1.trans e2.symm)
    | none =>
      simp only [fNof, e1, e2] at h
      have := h2 x (List.mem_of_getElem? e1)
      rw [h] at this
      simp at this
      omega
  | none =>
    cases e2 : fl[j]? with
    | some y =>
      simp only [fNof, e1, e2] at h
      have := h2 y (List.mem_of_getElem? e2)
      rw [← h] at this
      simp at this
      omega
    | none =>
      simp only [fNof, e1, e2] at h
      have := congrArg (fun z : Str => z.cps.size) h
      simp at this
      exact this
def mkLk (p : Pg) (cn fl : List Str) (h1 : fl.Nodup) (h2 : (fl.all fun x => decide (x.cps.size < 1000)) = true) (K : PySem.W.Frag) : Lk where
  cA := fun C => match cn[C]? with
    | some x => He.ga K x
    | none => 0
  fN := fNof fl
  cF := fun C => match p.cls[C]? with
    | some c => c.flds
    | none => []
  inj := fNof_inj h1 h2
theorem ac {α : Type} {P : α → Prop} {a : α} {l : List α} (h : P a) (r : ∀ q ∈ l, P q) : ∀ q ∈ a :: l, P q := fun q hq => (List.mem_cons.mp hq).elim (fun e => e ▸ h) (r q)
theorem an {α : Type} {P : α → Prop} : ∀ q ∈ ([] : List α), P q := fun q hq => by cases hq
theorem lk_all {β : Type} {P : Str × β → Prop} {l : List (Str × β)} (h : ∀ q ∈ l, P q) {x : Str} {v : β} (e : l.lookup x = some v) : P (x, v) := h _ (PySem.mem_of_lookup e)
theorem fnScope_of {N ps : List Str} {sc : Scope} (h : (decide (sc.kind = .function) && !sc.isCoroutine && !sc.isGenerator && decide N.Nodup && decide (N.take ps.length = ps) && (ps.all fun x => stbF sc x) && (sc.names.all fun y => decide (y.2 ≠ .free))) = true) : FnScope N ps sc := by
  simp only [Bool.and_eq_true, decide_eq_true_eq, Bool.not_eq_true', List.all_eq_true] at h
  obtain ⟨⟨⟨⟨⟨⟨h1, h2⟩, h3⟩, h4⟩, h5⟩, h6⟩, h7⟩ := h
  exact ⟨h1, h2, h3, h4, h5, fun x hx => by simpa [stbF] using h6 x hx, h7⟩
/-- a def by the head's datum -/
theorem def_of {p : Pg} {t : CT} {ne nb : Nat} {K : PySem.W.Frag} {fa : List He.Fa} {fn : List He.DefD} (c : He.SaysD fa fn K) {i : Nat} {d : He.DefD} (hd : fn[i]? = some d) (h1 : d.dfl = []) (h2 : d.kwd = []) {ps N : List Str} {df : Df}
    (hs : (decide (d.scope.kind = .function) && !d.scope.isCoroutine && !d.scope.isGenerator && decide N.Nodup && decide (N.take ps.length = ps) && (ps.all fun x => stbF d.scope x) && (d.scope.names.all fun y => decide (y.2 ≠ .free))) = true)
    {j : Nat} (hj : p.defs[j]? = some df) (hp : df.np = ps.length) (hn : df.ns = N.length) (hc : cB t p ne nb ⟨N, d.scope, stbF d.scope⟩ d.body = some df.body)
    (hb : ∀ (kV doc pm : Value) (an : Option Addr) (cdv ct : Value) (us : List Value), us.length = ps.length → bindArgs (PySem.W.fnOf d.name d.qual d.params d.body d.scope .none kV doc pm an cdv ct) ⟨us, []⟩ = pure (ps.zip us)) :
    ∃ fd, DefOk p t ne nb K j (He.fAd K d.at_) fd ps := by
  obtain ⟨fd, F⟩ := c.def_ i hd
  have e1 : d.dvs K = [] := by unfold He.DefD.dvs; rw [h1]; rfl
  have e2 : d.kws K = [] := by unfold He.DefD.kws; rw [h2]; rfl
  rw [e1, e2] at F
  exact ⟨fd, _, _, _, _, _, N, df, F, fnScope_of hs, hj, hp, hn, hc, F.bindsA hb⟩
/-- THE END: the law's def, read -/
theorem end_of {p : Pg} {t : CT} {ne nb wf lv : Nat} {L : Lk} {K : PySem.W.Frag} {mg : Str → Option Value} {P : Program} {w : World} (S : Stat p L t ne nb K mg) {f n : Nat} {x : Str} {a : Addr} {fd : FuncData} (hF : DefOk p t ne nb K f a fd [x])
    (hl : ∀ ns : List Int, ns.length ≤ n → ∃ s', callF p wf lv f [.rol (ns.map .int)] [] = .ok (.bl true) s') :
    (∀ (H : Hp) (b : Addr) (ns : List Int), ns.length ≤ n → Only H → SqL K H b (ns.map V.int) → spF p wf L K lv f [.ref b] H (fun v _ => v = .bl true) fun _ _ _ => False) ∧
      ∀ base : Heap, K.In base → base.Ns mainGlobals mg → FnOk P w K mg base (L2.CX P w) (2 * lv) a fd [x] (spF p wf L K lv f) := by
  refine ⟨fun H b ns hn hO hS => ?_, fun base _ _ => hF.fn fun j _ => S.facts j⟩
  obtain ⟨s', e⟩ := hl ns hn
  have intsR : ∀ (m : List Addr) (ns : List Int), IsDs K m H (ns.map V.int) (ns.map D.int) := by
    intro m ns
    induction ns with
    | nil => exact .nil
    | cons i r ih => exact .cons (.int i) ih
  have ra : RolAt K [] H b (ns.map V.int) := by
    rcases hS with (h | h) | h
    · rcases hO b with z | ⟨o, xs, z⟩
      · rw [z] at h; cases h
      · rw [z] at h; cases h
    · exact .inl ⟨h, by simp⟩
    · exact .inr h
  refine ⟨[], [.rol (ns.map .int)], [], ⟨List.nodup_nil, rfl, fun l o a h => by simp at h⟩, .cons (.rol ra (intsR _ _)) .nil, ?_⟩
  rw [e]
  intro m' u H' _ _ i
  cases i
  rfl
theorem walkD {l : PySem.W.OpenLaw} {n k : Nat} {q : Program} {loose : List Str} {XP : (Str → Option Value) → Heap → Prop} {YP : World → Heap → Prop} {d : DefRec} {x : Str}
    (hn : l.most = some n) (hn2 : n ≤ sizeLine) (hdf : d.params.defaults = []) (hr : Room k callerA)
    (F : ∀ (w : World) (mg : Str → Option Value) (fa : Addr) (h : Heap), YP w h → h.Ns mainGlobals mg → mg d.name = some (.ref fa) →
      ∃ (K : PySem.W.Frag) (fd : FuncData) (sp : Sp), K.In h ∧ (∀ (s : Shared) (u : Value), BindsTo s fd ⟨[u], []⟩ [(x, u)]) ∧
        (∀ (H : Hp) (a : Addr) (ns : List Int), ns.length ≤ n → Only H → SqL K H a (ns.map V.int) → sp [.ref a] H (fun v _ => v = .bl true) fun _ _ _ => False) ∧
        ∀ base : Heap, K.In base → base.Ns mainGlobals mg → FnOk l.prog w K mg base (L2.CX l.prog w) k fa fd [x] sp) :
    PySem.W.WalkO q loose XP YP l.row.toRowW d [] (fun f vs => PySem.call f vs) := by
  refine Att.attach_call hn hdf fun w s₀ s₁ mg mb fa o pm cd doc a vs ns G Y ho hd hcd hmg hobj hints hlen hg => ?_
  obtain ⟨K, fd, sp, KX, hb, hsp, hF⟩ := F w mg fa _ Y G.T.g hmg
  exact law_call KX G.T.g G.T.b G.T.builtins G.T.nolimit hg hobj hints (Nat.le_trans hlen hn2) hr hF hb (fun H hO hS => hsp H a ns hlen hO hS) fun H e s' h => by
    obtain ⟨_, _, _, _, _, _, _, _, _, _, _, _, z⟩ := h
    exact z
end Dt
namespace DtE
open PySem Dt
/-! ### reading a text: the equations -/
section
variable {α β : Type} {p : Pg} {w : Nat} {cf : CF} {v : EV} {s : ST}
@[simp] theorem LN_ : LN = 16777216 := rfl
def kBop (p : Pg) (cf : CF) (o : Bop) (b : E) (v : EV) (x : D) (s : ST) : R D := (evE p cf b v s).bind (bopV o x)
def kNeg (x : D) (s : ST) : R D := match x with
  | .int i => .ok (.int (-i)) s
  | _ => .bad
def kCmp (p : Pg) (cf : CF) (o : Cop) (b : E) (v : EV) (x : D) (s : ST) : R D := (evE p cf b v s).bind (cmpV o x)
def kCh3 (p : Pg) (cf : CF) (q : Cop) (c : E) (v : EV) (y k : D) (s : ST) : R D := match k with
  | .bl true => (evE p cf c v s).bind (cmpV q y)
  | .bl false => .ok (.bl false) s
  | _ => .bad
def kCh2 (p : Pg) (cf : CF) (o q : Cop) (c : E) (v : EV) (x y : D) (s : ST) : R D := (cmpV o x y s).bind (kCh3 p cf q c v y)
def kCh (p : Pg) (cf : CF) (o q : Cop) (b c : E) (v : EV) (x : D) (s : ST) : R D := (evE p cf b v s).bind (kCh2 p cf o q c v x)
def kAnd2 (p : Pg) (cf : CF) (b : E) (v : EV) (x : D) (k : Bool) (s : ST) : R D := if k = true then evE p cf b v s else .ok x s
def kAnd (p : Pg) (cf : CF) (b : E) (v : EV) (x : D) (s : ST) : R D := (lift (truth s x) s).bind (kAnd2 p cf b v x)
def kOr2 (p : Pg) (cf : CF) (b : E) (v : EV) (x : D) (k : Bool) (s : ST) : R D := if k = true then .ok x s else evE p cf b v s
def kOr (p : Pg) (cf : CF) (b : E) (v : EV) (x : D) (s : ST) : R D := (lift (truth s x) s).bind (kOr2 p cf b v x)
def kNot2 (k : Bool) (s : ST) : R D := .ok (.bl (!k)) s
def kNot (x : D) (s : ST) : R D := (lift (truth s x) s).bind kNot2
def kIfe2 (p : Pg) (cf : CF) (a b : E) (v : EV) (k : Bool) (s : ST) : R D := if k = true then evE p cf a v s else evE p cf b v s
def kIfe (p : Pg) (cf : CF) (a b : E) (v : EV) (x : D) (s : ST) : R D := (lift (truth s x) s).bind (kIfe2 p cf a b v)
def kTup (xs : List D) (s : ST) : R D := if xs.length ≤ LN then .ok (.tup xs) s else .bad
def kLst (xs : List D) (s : ST) : R D := if xs.length ≤ LN then alloc (.lst xs) s else .bad
def kIdx (p : Pg) (cf : CF) (b : E) (v : EV) (x : D) (s : ST) : R D := (evE p cf b v s).bind (idxV x)
def kSlc2 (p : Pg) (cf : CF) (hi : Option E) (v : EV) (x : D) (i : Option Int) (s : ST) : R D := (evO p cf hi v s).bind (slcV x i)
def kSlc (p : Pg) (cf : CF) (lo hi : Option E) (v : EV) (x : D) (s : ST) : R D := (evO p cf lo v s).bind (kSlc2 p cf hi v x)
def kFld (f : Nat) (x : D) (s : ST) : R D := fldV x f s
def kBm (p : Pg) (cf : CF) (m : Bm) (es : List E) (v : EV) (x : D) (s : ST) : R D := if bmT m s x = true then (evL p cf es v s).bind (bmV m x) else .bad
def kIsi (ts : List BT) (x : D) (s : ST) : R D := match typB s x with
  | some (.inl t) => .ok (.bl (ts.any (subT t))) s
  | _ => .bad
def kL2 (x : D) (xs : List D) (s : ST) : R (List D) := .ok (x :: xs) s
def kL (p : Pg) (cf : CF) (es : List E) (v : EV) (x : D) (s : ST) : R (List D) := (evL p cf es v s).bind (kL2 x)
def kO (x : D) (s : ST) : R (Option Int) := match x with
  | .int i => .ok (some i) s
  | _ => .bad
def kG3 (v : EV) (_ : Unit) (s : ST) : R EV := .ok v s
def kG2 (x : D) (v : EV) (y z : D) (s : ST) : R EV := (setV y z x s).bind (kG3 v)
def kG (p : Pg) (cf : CF) (i : E) (x : D) (v : EV) (y : D) (s : ST) : R EV := (evE p cf i v s).bind (kG2 x v y)
def kGf (p : Pg) (f : Nat) (x : D) (v : EV) (y : D) (s : ST) : R EV := (setF p y f x s).bind (kG3 v)
def kT (x : D) (s : ST) : R Bool := lift (truth s x) s
def kNx (v : EV) (s : ST) : Rs := .nx v s
def kAsg (p : Pg) (cf : CF) (t : Tg) (v : EV) (x : D) (s : ST) : Rs := (evG p cf t x v s).st v kNx
def kEx (v : EV) (_ : D) (s : ST) : Rs := .nx v s
def kRt (x : D) (s : ST) : Rs := .rt x s
def kIf (p : Pg) (w : Nat) (cf : CF) (a b : List Sm) (v : EV) (k : Bool) (s : ST) : Rs := if k = true then evB p w cf a v s else evB p w cf b v s
def turnF (p : Pg) (w : Nat) (cf : CF) (t : Tg) (b : List Sm) (x : D) (v : EV) (s : ST) : Rs := (evG p cf t x v s).st v (evB p w cf b)
def kFr (p : Pg) (w : Nat) (cf : CF) (t : Tg) (b : List Sm) (v : EV) (g : Src) (s : ST) : Rs := match g.size s with
  | some n => forR g (turnF p w cf t b) n 0 v s
  | none => .bad
def kSq (x : D) (s : ST) : R Src := match x with
  | .tup xs => .ok (.fix xs) s
  | .rol xs => .ok (.fix xs) s
  | .ref l => if isLst s l = true then .ok (.list l) s else .bad
  | .str z => .ok (.fix (z.cps.toList.map fun c => .str ⟨#[c]⟩)) s
  | _ => .bad
def kR1 (y : D) (s : ST) : R Src := match y with
  | .int j => if rgOk j = true then .ok (.fix (rangeU 0 j)) s else .bad
  | _ => .bad
def kR3 (x y : D) (s : ST) : R Src := match x, y with
  | .int i, .int j => if (rgOk i && rgOk j) = true then .ok (.fix (rangeU i j)) s else .bad
  | _, _ => .bad
def kR2 (p : Pg) (cf : CF) (b : E) (v : EV) (x : D) (s : ST) : R Src := (evE p cf b v s).bind (kR3 x)
@[simp] theorem e_var {i : Nat} : evE p cf (.var i) v s = lift (getE v i) s := rfl
@[simp] theorem e_con {d : D} : evE p cf (.con d) v s = .ok d s := rfl
@[simp] theorem e_bop {o : Bop} {a b : E} : evE p cf (.bop o a b) v s = (evE p cf a v s).bind (kBop p cf o b v) := rfl
@[simp] theorem e_neg {a : E} : evE p cf (.neg a) v s = (evE p cf a v s).bind kNeg := rfl
@[simp] theorem e_cmp {o : Cop} {a b : E} : evE p cf (.cmp o a b) v s = (evE p cf a v s).bind (kCmp p cf o b v) := rfl
@[simp] theorem e_chain {o q : Cop} {a b c : E} : evE p cf (.chain o q a b c) v s = (evE p cf a v s).bind (kCh p cf o q b c v) := rfl
@[simp] theorem e_and {a b : E} : evE p cf (.and a b) v s = (evE p cf a v s).bind (kAnd p cf b v) := rfl
@[simp] theorem e_or {a b : E} : evE p cf (.or a b) v s = (evE p cf a v s).bind (kOr p cf b v) := rfl
@[simp] theorem e_not {a : E} : evE p cf (.not a) v s = (evE p cf a v s).bind kNot := rfl
@[simp] theorem e_ife {c a b : E} : evE p cf (.ife c a b) v s = (evE p cf c v s).bind (kIfe p cf a b v) := rfl
@[simp] theorem e_tup {es : List E} : evE p cf (.tup es) v s = (evL p cf es v s).bind kTup := rfl
@[simp] theorem e_lst {es : List E} : evE p cf (.lst es) v s = (evL p cf es v s).bind kLst := rfl
@[simp] theorem e_idx {a b : E} : evE p cf (.idx a b) v s = (evE p cf a v s).bind (kIdx p cf b v) := rfl
@[simp] theorem e_slc {a : E} {lo hi : Option E} : evE p cf (.slc a lo hi) v s = (evE p cf a v s).bind (kSlc p cf lo hi v) := rfl
@[simp] theorem e_call {f : Nat} {es : List E} : evE p cf (.call f es) v s = (evL p cf es v s).bind (cf f) := rfl
@[simp] theorem e_fld {o : E} {f : Nat} : evE p cf (.fld o f) v s = (evE p cf o v s).bind (kFld f) := rfl
@[simp] theorem e_bf {b : Bf} {es : List E} : evE p cf (.bf b es) v s = (evL p cf es v s).bind (bfV b) := rfl
@[simp] theorem e_bm {m : Bm} {o : E} {es : List E} : evE p cf (.bm m o es) v s = (evE p cf o v s).bind (kBm p cf m es v) := rfl
@[simp] theorem e_isi {e : E} {ts : List BT} {cs : List Nat} : evE p cf (.isi e ts cs) v s = (evE p cf e v s).bind (kIsi ts) := rfl
@[simp] theorem l_nil : evL p cf [] v s = .ok [] s := rfl
@[simp] theorem l_cons {e : E} {es : List E} : evL p cf (e :: es) v s = (evE p cf e v s).bind (kL p cf es v) := rfl
@[simp] theorem o_none : evO p cf none v s = .ok none s := rfl
@[simp] theorem o_some {e : E} : evO p cf (some e) v s = (evE p cf e v s).bind kO := rfl
@[simp] theorem g_name {i : Nat} {x : D} : evG p cf (.name i) x v s = if i < v.length then .ok (v.set i (some x)) s else .bad := rfl
@[simp] theorem g_sub {o i : E} {x : D} : evG p cf (.sub o i) x v s = (evE p cf o v s).bind (kG p cf i x v) := rfl
@[simp] theorem g_fld {o : E} {f : Nat} {x : D} : evG p cf (.fld o f) x v s = (evE p cf o v s).bind (kGf p f x v) := rfl
@[simp] theorem t_def {c : E} : evT p cf c v s = (evE p cf c v s).bind kT := rfl
@[simp] theorem s_asg {t : Tg} {e : E} : evS p w cf (.asg t e) v s = (evE p cf e v s).st v (kAsg p cf t v) := rfl
@[simp] theorem s_ex {e : E} : evS p w cf (.ex e) v s = (evE p cf e v s).st v (kEx v) := rfl
@[simp] theorem s_ret {e : E} : evS p w cf (.ret e) v s = (evE p cf e v s).st v kRt := rfl
@[simp] theorem s_retN : evS p w cf .retN v s = .rt .non s := rfl
@[simp] theorem s_ifs {c : E} {a b : List Sm} : evS p w cf (.ifs c a b) v s = (evT p cf c v s).st v (kIf p w cf a b v) := rfl
@[simp] theorem s_whl {c : E} {b : List Sm} : evS p w cf (.whl c b) v s = whlR (evT p cf c) (evB p w cf b) w v s := rfl
@[simp] theorem s_fr {t : Tg} {it : It} {b : List Sm} : evS p w cf (.fr t it b) v s = (evI p cf it v s).st v (kFr p w cf t b v) := rfl
@[simp] theorem s_brk : evS p w cf .brk v s = .bk v s := rfl
@[simp] theorem s_cnt : evS p w cf .cnt v s = .ct v s := rfl
@[simp] theorem s_pss : evS p w cf .pss v s = .nx v s := rfl
@[simp] theorem b_nil : evB p w cf [] v s = .nx v s := rfl
@[simp] theorem b_cons {m : Sm} {ms : List Sm} : evB p w cf (m :: ms) v s = (evS p w cf m v s).seq (evB p w cf ms) := rfl
@[simp] theorem i_seq {e : E} : evI p cf (.seq e) v s = (evE p cf e v s).bind kSq := rfl
@[simp] theorem i_rng1 {b : E} : evI p cf (.rng none b none) v s = (evE p cf b v s).bind kR1 := rfl
@[simp] theorem i_rng2 {a b : E} : evI p cf (.rng (some a) b none) v s = (evE p cf a v s).bind (kR2 p cf b v) := rfl
/-! the steps -/
@[simp] theorem kBop_ {o : Bop} {b : E} {x : D} : kBop p cf o b v x s = (evE p cf b v s).bind (bopV o x) := rfl
@[simp] theorem kNeg_ {i : Int} : kNeg (.int i) s = .ok (.int (-i)) s := rfl
@[simp] theorem kCmp_ {o : Cop} {b : E} {x : D} : kCmp p cf o b v x s = (evE p cf b v s).bind (cmpV o x) := rfl
@[simp] theorem kCh_ {o q : Cop} {b c : E} {x : D} : kCh p cf o q b c v x s = (evE p cf b v s).bind (kCh2 p cf o q c v x) := rfl
@[simp] theorem kCh2_ {o q : Cop} {c : E} {x y : D} : kCh2 p cf o q c v x y s = (cmpV o x y s).bind (kCh3 p cf q c v y) := rfl
@[simp] theorem kCh3_ {q : Cop} {c : E} {y : D} {k : Bool} : kCh3 p cf q c v y (.bl k) s = if k = true then (evE p cf c v s).bind (cmpV q y) else .ok (.bl false) s := by cases k <;> rfl
@[simp] theorem kAnd_ {b : E} {x : D} : kAnd p cf b v x s = (lift (truth s x) s).bind (kAnd2 p cf b v x) := rfl
@[simp] theorem kAnd2_ {b : E} {x : D} {k : Bool} : kAnd2 p cf b v x k s = if k = true then evE p cf b v s else .ok x s := rfl
@[simp] theorem kOr_ {b : E} {x : D} : kOr p cf b v x s = (lift (truth s x) s).bind (kOr2 p cf b v x) := rfl
@[simp] theorem kOr2_ {b : E} {x : D} {k : Bool} : kOr2 p cf b v x k s = if k = true then .ok x s else evE p cf b v s := rfl
@[simp] theorem kNot_ {x : D} : kNot x s = (lift (truth s x) s).bind kNot2 := rfl
@[simp] theorem kNot2_ {k : Bool} : kNot2 k s = .ok (.bl (!k)) s := rfl
@[simp] theorem kIfe_ {a b : E} {x : D} : kIfe p cf a b v x s = (lift (truth s x) s).bind (kIfe2 p cf a b v) := rfl
@[simp] theorem kIfe2_ {a b : E} {k : Bool} : kIfe2 p cf a b v k s = if k = true then evE p cf a v s else evE p cf b v s := rfl
@[simp] theorem kTup_ {xs : List D} : kTup xs s = if xs.length ≤ LN then .ok (.tup xs) s else .bad := rfl
@[simp] theorem kLst_ {xs : List D} : kLst xs s = if xs.length ≤ LN then .ok (.ref s.length) (s ++ [.lst xs]) else .bad := rfl
@[simp] theorem kIdx_ {b : E} {x : D} : kIdx p cf b v x s = (evE p cf b v s).bind (idxV x) := rfl
@[simp] theorem kSlc_ {lo hi : Option E} {x : D} : kSlc p cf lo hi v x s = (evO p cf lo v s).bind (kSlc2 p cf hi v x) := rfl
@[simp] theorem kSlc2_ {hi : Option E} {x : D} {i : Option Int} : kSlc2 p cf hi v x i s = (evO p cf hi v s).bind (slcV x i) := rfl
@[simp] theorem kFld_ {f : Nat} {x : D} : kFld f x s = fldV x f s := rfl
@[simp] theorem kBm_ {m : Bm} {es : List E} {x : D} : kBm p cf m es v x s = if bmT m s x = true then (evL p cf es v s).bind (bmV m x) else .bad := rfl
@[simp] theorem kIsi_ {ts : List BT} {x : D} : kIsi ts x s = match typB s x with
  | some (.inl t) => .ok (.bl (ts.any (subT t))) s
  | _ => .bad := rfl
@[simp] theorem kL_ {es : List E} {x : D} : kL p cf es v x s = (evL p cf es v s).bind (kL2 x) := rfl
@[simp] theorem kL2_ {xs : List D} {x : D} : kL2 x xs s = .ok (x :: xs) s := rfl
@[simp] theorem kO_ {i : Int} : kO (.int i) s = .ok (some i) s := rfl
@[simp] theorem kG_ {i : E} {x y : D} : kG p cf i x v y s = (evE p cf i v s).bind (kG2 x v y) := rfl
@[simp] theorem kG2_ {x y z : D} : kG2 x v y z s = (setV y z x s).bind (kG3 v) := rfl
@[simp] theorem kG3_ {u : Unit} : kG3 v u s = .ok v s := rfl
@[simp] theorem kGf_ {f : Nat} {x y : D} : kGf p f x v y s = (setF p y f x s).bind (kG3 v) := rfl
@[simp] theorem kT_ {x : D} : kT x s = lift (truth s x) s := rfl
@[simp] theorem kNx_ : kNx v s = .nx v s := rfl
@[simp] theorem kAsg_ {t : Tg} {x : D} : kAsg p cf t v x s = (evG p cf t x v s).st v kNx := rfl
@[simp] theorem kEx_ {x : D} : kEx v x s = .nx v s := rfl
@[simp] theorem kRt_ {x : D} : kRt x s = .rt x s := rfl
@[simp] theorem kIf_ {a b : List Sm} {k : Bool} : kIf p w cf a b v k s = if k = true then evB p w cf a v s else evB p w cf b v s := rfl
@[simp] theorem turnF_ {t : Tg} {b : List Sm} {x : D} : turnF p w cf t b x v s = (evG p cf t x v s).st v (evB p w cf b) := rfl
theorem kFr_ {t : Tg} {b : List Sm} {g : Src} : kFr p w cf t b v g s = match g.size s with
  | some n => forR g (turnF p w cf t b) n 0 v s
  | none => .bad := rfl
@[simp] theorem kFr_fix {t : Tg} {b : List Sm} {xs : List D} : kFr p w cf t b v (.fix xs) s = forR (.fix xs) (turnF p w cf t b) xs.length 0 v s := rfl
theorem kFr_lst {t : Tg} {b : List Sm} {l : Nat} {xs : List D} (h : s[l]? = some (.lst xs)) : kFr p w cf t b v (.list l) s = forR (.list l) (turnF p w cf t b) xs.length 0 v s := by simp [kFr, Src.size, itemsOf, h]
@[simp] theorem kSq_tup {xs : List D} : kSq (.tup xs) s = .ok (.fix xs) s := rfl
@[simp] theorem kSq_rol {xs : List D} : kSq (.rol xs) s = .ok (.fix xs) s := rfl
@[simp] theorem kSq_str {z : Str} : kSq (.str z) s = .ok (.fix (z.cps.toList.map fun c => .str ⟨#[c]⟩)) s := rfl
theorem kSq_lst {l : Nat} {xs : List D} (h : s[l]? = some (.lst xs)) : kSq (.ref l) s = .ok (.list l) s := by simp [kSq, isLst, h]
@[simp] theorem kR1_ {j : Int} : kR1 (.int j) s = if rgOk j = true then .ok (.fix (rangeU 0 j)) s else .bad := rfl
@[simp] theorem kR2_ {b : E} {x : D} : kR2 p cf b v x s = (evE p cf b v s).bind (kR3 x) := rfl
@[simp] theorem kR3_ {i j : Int} : kR3 (.int i) (.int j) s = if (rgOk i && rgOk j) = true then .ok (.fix (rangeU i j)) s else .bad := rfl
/-! operators -/
@[simp] theorem v_add {i j : Int} : bopV .add (.int i) (.int j) s = .ok (.int (i + j)) s := rfl
@[simp] theorem v_sub {i j : Int} : bopV .sub (.int i) (.int j) s = .ok (.int (i - j)) s := rfl
@[simp] theorem v_mul {i j : Int} : bopV .mul (.int i) (.int j) s = if (isLt64 i || isLt64 j) = true then .ok (.int (i * j)) s else .bad := rfl
@[simp] theorem v_fdiv {i j : Int} : bopV .fdiv (.int i) (.int j) s = if 0 < j ∧ j < 1073741824 then .ok (.int (i / j)) s else .bad := rfl
@[simp] theorem v_mod {i j : Int} : bopV .mod (.int i) (.int j) s = if 0 < j then .ok (.int (i % j)) s else .bad := rfl
@[simp] theorem v_pow {i j : Int} : bopV .pow (.int i) (.int j) s = if 0 ≤ j ∧ j ≤ 1000000 ∧ i.natAbs < 2 ^ 64 then .ok (.int (i ^ j.toNat)) s else .bad := rfl
@[simp] theorem v_adds {a b : Str} : bopV .add (.str a) (.str b) s = if a.length + b.length ≤ LN then .ok (.str (a ++ b)) s else .bad := rfl
@[simp] theorem v_addt {a b : List D} : bopV .add (.tup a) (.tup b) s = if a.length + b.length ≤ LN then .ok (.tup (a ++ b)) s else .bad := rfl
@[simp] theorem c_eq {x y : D} : cmpV .eq x y s = match eqD s x y with
    | some b => .ok (.bl b) s
    | none => .bad := rfl
@[simp] theorem c_ne {x y : D} : cmpV .ne x y s = match eqD s x y with
    | some b => .ok (.bl (!b)) s
    | none => .bad := rfl
@[simp] theorem c_lt {i j : Int} : cmpV .lt (.int i) (.int j) s = .ok (.bl (decide (i < j))) s := rfl
@[simp] theorem c_le {i j : Int} : cmpV .le (.int i) (.int j) s = .ok (.bl (decide (i ≤ j))) s := rfl
@[simp] theorem c_gt {i j : Int} : cmpV .gt (.int i) (.int j) s = .ok (.bl (decide (j < i))) s := rfl
@[simp] theorem c_ge {i j : Int} : cmpV .ge (.int i) (.int j) s = .ok (.bl (decide (j ≤ i))) s := rfl
@[simp] theorem c_isB {a b : Bool} : cmpV .isB (.bl a) (.bl b) s = .ok (.bl (decide (a = b))) s := rfl
@[simp] theorem c_notB {a b : Bool} : cmpV .notB (.bl a) (.bl b) s = .ok (.bl (!decide (a = b))) s := rfl
@[simp] theorem c_in {x y : D} : cmpV .isin x y s = match inD s x y with
    | some b => .ok (.bl b) s
    | none => .bad := rfl
@[simp] theorem c_notin {x y : D} : cmpV .notin x y s = match inD s x y with
    | some b => .ok (.bl (!b)) s
    | none => .bad := rfl
@[simp] theorem q_int {i j : Int} : eqD s (.int i) (.int j) = some (decide (i = j)) := rfl
@[simp] theorem q_str {i j : Str} : eqD s (.str i) (.str j) = some (decide (i = j)) := rfl
@[simp] theorem q_non : eqD s .non .non = some true := rfl
@[simp] theorem tr_non : truth s .non = some false := rfl
@[simp] theorem tr_bl {b : Bool} : truth s (.bl b) = some b := rfl
@[simp] theorem tr_int {i : Int} : truth s (.int i) = some (i != 0) := rfl
@[simp] theorem tr_tup {xs : List D} : truth s (.tup xs) = some (!xs.isEmpty) := rfl
@[simp] theorem ty_non : typB s .non = some (.inl .none) := rfl
@[simp] theorem ty_bl {b : Bool} : typB s (.bl b) = some (.inl .bool) := rfl
@[simp] theorem ty_int {b : Int} : typB s (.int b) = some (.inl .int) := rfl
@[simp] theorem ty_str {b : Str} : typB s (.str b) = some (.inl .str) := rfl
@[simp] theorem ty_tup {b : List D} : typB s (.tup b) = some (.inl .tuple) := rfl
@[simp] theorem ty_rol {b : List D} : typB s (.rol b) = some (.inl .list) := rfl
theorem ty_lst {l : Nat} {xs : List D} (h : s[l]? = some (.lst xs)) : typB s (.ref l) = some (.inl .list) := by simp [typB, h]
@[simp] theorem bf_lstr {z : Str} : bfV .len [.str z] s = if z.length ≤ LN then .ok (.int z.length) s else .bad := rfl
@[simp] theorem bf_ltup {z : List D} : bfV .len [.tup z] s = .ok (.int z.length) s := rfl
@[simp] theorem bf_lrol {z : List D} : bfV .len [.rol z] s = .ok (.int z.length) s := rfl
theorem bf_lref {l : Nat} {xs : List D} (h : s[l]? = some (.lst xs)) : bfV .len [.ref l] s = .ok (.int xs.length) s := by simp [bfV, itemsOf, h]
@[simp] theorem bf_int {i : Int} : bfV .int [.int i] s = .ok (.int i) s := rfl
@[simp] theorem bf_ibl {i : Bool} : bfV .int [.bl i] s = .ok (.int (if i then 1 else 0)) s := rfl
@[simp] theorem bf_max {i j : Int} : bfV .max [.int i, .int j] s = .ok (.int (if j > i then j else i)) s := rfl
@[simp] theorem bf_min {i j : Int} : bfV .min [.int i, .int j] s = .ok (.int (if j < i then j else i)) s := rfl
@[simp] theorem bf_rbl {b : Bool} : bfV .repr [.bl b] s = .ok (.str (if b then "True" else "False")) s := rfl
theorem ix_lst {l : Nat} {xs : List D} {i : Int} (h : s[l]? = some (.lst xs)) : idxV (.ref l) (.int i) s = lift (L2.atI xs i) s := by simp [idxV, itemsOf, h]
@[simp] theorem ix_rol {xs : List D} {i : Int} : idxV (.rol xs) (.int i) s = lift (L2.atI xs i) s := rfl
@[simp] theorem ix_tup {xs : List D} {i : Int} : idxV (.tup xs) (.int i) s = lift (L2.atI xs i) s := rfl
theorem set_lst {l : Nat} {xs : List D} {i : Int} {d : D} {j : Nat} (h : s[l]? = some (.lst xs)) (hj : L2.ixN xs.length i = some j) : setV (.ref l) (.int i) d s = .ok () (s.set l (.lst (xs.set j d))) := by simp [setV, h, hj]
@[simp] theorem al_ {o : OB} : alloc o s = .ok (.ref s.length) (s ++ [o]) := rfl
@[simp] theorem gE0 {x : Option D} {v : EV} : getE (x :: v) 0 = x := by cases x <;> rfl
@[simp] theorem gES {x : Option D} {v : EV} {n : Nat} : getE (x :: v) (n + 1) = getE v n := by simp [getE]
end
/-! a store whose l-th is known -/
section
variable {s : ST} {l : Nat} {xs : List D} {i : Int} {d : D}
theorem ixS (h : l < s.length) : idxV (.ref l) (.int i) (s.set l (.lst xs)) = lift (L2.atI xs i) (s.set l (.lst xs)) := ix_lst (by rw [List.getElem?_set_self h])
theorem setS (h : l < s.length) : setV (.ref l) (.int i) d (s.set l (.lst xs)) = match L2.ixN xs.length i with
    | some j => .ok () (s.set l (.lst (xs.set j d)))
    | none => .bad := by
  cases e : L2.ixN xs.length i with
  | some j => rw [set_lst (by rw [List.getElem?_set_self h]) e, List.set_set]
  | none => simp [setV, List.getElem?_set_self h, e]
theorem asS (h : s[l]? = some (.lst xs)) : s = s.set l (.lst xs) := by
  obtain ⟨q, e⟩ := List.getElem?_eq_some_iff.mp h
  rw [← e, List.set_getElem_self]
end
/-! ### calls -/
def kRun : Rs → R D
  | .nx _ s => .ok .non s
  | .rt x s => .ok x s
  | .xc c fs _ s => .exc c fs s
  | _ => .bad
@[simp] theorem kRun_nx {v : EV} {s : ST} : kRun (.nx v s) = .ok .non s := rfl
@[simp] theorem kRun_rt {x : D} {s : ST} : kRun (.rt x s) = .ok x s := rfl
@[simp] theorem kRun_xc {c : Nat} {fs : List (Nat × D)} {v : EV} {s : ST} : kRun (.xc c fs v s) = .exc c fs s := rfl
theorem callF_eq {p : Pg} {w k f : Nat} {as : List D} {s : ST} {d : Df} (hd : p.defs[f]? = some d) (hl : as.length = d.np) : callF p w (k + 1) f as s = kRun (evB p w (callF p w k) d.body (as.map some ++ List.replicate (d.ns - d.np) none) s) := by
  show runF p w (callF p w k) f as s = _
  unfold runF
  rw [hd]
  simp only
  rw [if_pos hl]
  cases evB p w (callF p w k) d.body (as.map some ++ List.replicate (d.ns - d.np) none) s <;> rfl
/-! ### loops -/
theorem forR_inv {g : Src} {turn : D → EV → ST → Rs} {n : Nat} (I : Nat → EV → ST → Prop) (hz : ∀ v s, I n v s → g.size s = some n)
    (ht : ∀ i v s, i < n → I i v s → ∃ x, g.at_ i s = some x ∧ ∃ v' s', (turn x v s = .nx v' s' ∨ turn x v s = .ct v' s') ∧ I (i + 1) v' s') : ∀ r i v s, i + r = n → I i v s → ∃ v' s', forR g turn r i v s = .nx v' s' ∧ I n v' s'
  | 0, i, v, s, e, h => by
    have : i = n := by omega
    subst this
    exact ⟨v, s, by unfold forR; rw [if_pos (hz v s h)], h⟩
  | r + 1, i, v, s, e, h => by
    obtain ⟨x, hx, v', s', hq, h'⟩ := ht i v s (by omega) h
    obtain ⟨v2, s2, e2, h2⟩ := forR_inv I hz ht r (i + 1) v' s' (by omega) h'
    refine ⟨v2, s2, ?_, h2⟩
    unfold forR
    rw [hx]
    simp only
    rcases hq with q | q <;> rw [q] <;> exact e2
/-- what is kept of the store -/
structure Keep (c : Nat → Prop) (s s' : ST) : Prop where
  len : s.length ≤ s'.length
  at_ : ∀ i, i < s.length → ¬ c i → s'[i]? = s[i]?
theorem Keep.refl (c : Nat → Prop) (s : ST) : Keep c s s := ⟨Nat.le_refl _, fun _ _ _ => rfl⟩
theorem Keep.trans {c : Nat → Prop} {s s1 s2 : ST} (a : Keep c s s1) (b : Keep c s1 s2) : Keep c s s2 :=
  ⟨Nat.le_trans a.len b.len, fun i h n => (b.at_ i (Nat.lt_of_lt_of_le h a.len) n).trans (a.at_ i h n)⟩
theorem Keep.push {c : Nat → Prop} {s : ST} {o : OB} : Keep c s (s ++ [o]) := ⟨by simp, fun i h _ => by rw [List.getElem?_append_left h]⟩
theorem Keep.set {c : Nat → Prop} {s : ST} {l : Nat} {o : OB} (h : c l) : Keep c s (s.set l o) := ⟨by simp, fun i _ n => by rw [List.getElem?_set_ne]; rintro rfl; exact n h⟩
theorem Keep.some {c : Nat → Prop} {s s' : ST} (k : Keep c s s') {i : Nat} {o : OB} (h : s[i]? = some o) (n : ¬ c i) : s'[i]? = some o := (k.at_ i (List.getElem?_eq_some_iff.mp h).1 n).trans h
end DtE
namespace Lw
open PySem PySem.Spec PyProof.Rows L2 Dt PySem.W

def top (i : Nat) : Stmt := PySem.Challenge.pw_heldlive_k01_numbers.main.body.getD i (.Pass ⟨0, 0, 0, 0⟩)
def b0 : List Sm := [.ret (.and (.isi (.var 0) [.int] []) (.and (.not (.isi (.var 0) [.bool] [])) (.chain .le .le (.var 1) (.var 0) (.var 2))))]
def b1 : List Sm := [.ret (.call 0 [.var 0, .con (.int (-2147483648)), .con (.int 2147483647)])]
def b2 : List Sm := [.ret (.bop .add (.bop .mod (.bop .sub (.var 0) (.con (.int (-2147483648)))) (.con (.int 4294967296))) (.con (.int (-2147483648))))]
def b3 : List Sm := [.asg (.name 2) (.con (.int 0)), .ifs (.cmp .lt (.var 1) (.bf .len [.var 0])) [.asg (.name 2) (.bf .int [.idx (.var 0) (.var 1)])] [], .ret (.lst [.con (.int 0), .bop .add (.con (.int 503)) (.bop .mul (.con (.int 48611)) (.var 1)), .con (.int 0), .var 2])]
def b4 : List Sm := [.ifs (.cmp .lt (.var 1) (.con (.int 1))) [.ret (.con (.int 0))] [], .ifs (.cmp .eq (.idx (.var 0) (.con (.int 0))) (.con (.int 0))) [.asg (.sub (.var 0) (.con (.int 2))) (.bop .add (.idx (.var 0) (.con (.int 2))) (.con (.int 1))), .asg (.name 2) (.bop .mod (.bf .int [.bop .add (.bop .add (.bop .add (.bop .mul (.idx (.var 0) (.con (.int 1))) (.con (.int 48271))) (.bop .mul (.idx (.var 0) (.con (.int 3))) (.con (.int 69621)))) (.bop .mul (.idx (.var 0) (.con (.int 2))) (.con (.int 16807)))) (.con (.int 11))]) (.con (.int 2147483647))), .asg (.sub (.var 0) (.con (.int 0))) (.bop .add (.bop .mul (.var 2) (.con (.int 2147483629))) (.bop .mod (.bf .int [.bop .add (.bop .mul (.var 2) (.var 2)) (.idx (.var 0) (.con (.int 3)))]) (.con (.int 2147483629)))), .ifs (.and (.cmp .eq (.idx (.var 0) (.con (.int 2))) (.con (.int 1))) (.cmp .ge (.idx (.var 0) (.con (.int 3))) (.bop .pow (.con (.int 10)) (.con (.int 18))))) [.asg (.sub (.var 0) (.con (.int 0))) (.idx (.var 0) (.con (.int 3)))] [], .asg (.sub (.var 0) (.con (.int 1))) (.var 2)] [], .asg (.name 3) (.idx (.var 0) (.con (.int 0))), .asg (.sub (.var 0) (.con (.int 0))) (.bop .fdiv (.var 3) (.var 1)), .ret (.bop .mod (.bf .int [.var 3]) (.var 1))]
def b5 : List Sm := [.ret (.idx (.var 1) (.call 4 [.var 0, .bf .len [.var 1]]))]
def b6 : List Sm := [.asg (.name 1) (.call 5 [.var 0, .lst [.con (.int 0), .con (.int 2147483647), .neg (.con (.int 2147483648)), .con (.int 4294967296), .bop .pow (.con (.int 10)) (.con (.int 20)), .neg (.bop .pow (.con (.int 10)) (.con (.int 25))), .con (.int 255)]]), .ret (.bop .add (.var 1) (.call 5 [.var 0, .lst [.con (.int 0), .con (.int 1), .neg (.con (.int 1)), .call 4 [.var 0, .bop .pow (.con (.int 10)) (.con (.int 9))]]]))]
def b7 : List Sm := [.fr (.name 1) (.rng none (.bf .max [.con (.int 1), .bf .min [.con (.int 40), .bf .len [.var 0]]]) none) [.asg (.name 2) (.call 3 [.var 0, .var 1]), .asg (.name 3) (.call 6 [.var 2]), .asg (.name 4) (.call 2 [.var 3]), .ifs (.or (.isi (.var 4) [.bool] []) (.or (.cmp .lt (.var 4) (.neg (.con (.int 2147483648)))) (.or (.cmp .gt (.var 4) (.con (.int 2147483647))) (.cmp .ne (.bop .mod (.bf .int [.bop .sub (.var 4) (.var 3)]) (.con (.int 4294967296))) (.con (.int 0)))))) [.ret (.con (.bl false))] [], .asg (.name 5) (.call 6 [.var 2]), .asg (.name 6) (.bop .add (.var 5) (.call 5 [.var 2, .lst [.con (.int 0), .con (.int 1), .call 4 [.var 2, .bop .pow (.con (.int 10)) (.con (.int 6))]]])), .ifs (.cmp .ne (.bf .repr [.call 0 [.var 3, .var 5, .var 6]]) (.bf .repr [.and (.cmp .le (.var 5) (.var 3)) (.cmp .le (.var 3) (.var 6))])) [.ret (.con (.bl false))] [], .ifs (.cmp .ne (.bf .repr [.call 1 [.var 3]]) (.bf .repr [.and (.cmp .le (.neg (.con (.int 2147483648))) (.var 3)) (.cmp .le (.var 3) (.con (.int 2147483647)))])) [.ret (.con (.bl false))] [], .fr (.name 7) (.seq (.lst [.con (.bl true), .con .non, .con (.str "1"), .tup [.con (.int 1)], .lst [.con (.int 1)], .con (.str "")])) [.ifs (.or (.cmp .notB (.call 1 [.var 7]) (.con (.bl false))) (.cmp .notB (.call 0 [.var 7, .neg (.con (.int 5)), .con (.int 5)]) (.con (.bl false)))) [.ret (.con (.bl false))] []]], .ret (.con (.bl true))]
def prog : Pg := ⟨[⟨3, 3, b0⟩, ⟨1, 1, b1⟩, ⟨1, 1, b2⟩, ⟨2, 3, b3⟩, ⟨2, 4, b4⟩, ⟨2, 2, b5⟩, ⟨1, 2, b6⟩, ⟨1, 8, b7⟩], []⟩
def ct : CT where
  fns := [("is_integer", 0), ("is_number", 1), ("wrap", 2), ("_law_bag", 3), ("_law_draw", 4), ("_law_one", 5), ("_law_integer", 6), ("law", 7)]
  clss := []
  excs := []
  cons := [("LEAST_NUMBER", .int (-2147483648)), ("MOST_NUMBER", .int 2147483647), ("SPAN", .int 4294967296)]
  flds := []
  mts := []
  free := ["bool", "int", "isinstance", "len", "max", "min", "range", "repr"]
abbrev s0 : Stmt := top 4
def d0 : He.DefD := ⟨("is_integer", none), "is_integer", "is_integer", defArgs s0, defBody s0, defScope s0, [], []⟩
abbrev s1 : Stmt := top 5
def d1 : He.DefD := ⟨("is_number", none), "is_number", "is_number", defArgs s1, defBody s1, defScope s1, [], []⟩
abbrev s2 : Stmt := top 6
def d2 : He.DefD := ⟨("wrap", none), "wrap", "wrap", defArgs s2, defBody s2, defScope s2, [], []⟩
abbrev s3 : Stmt := top 8
def d3 : He.DefD := ⟨("_law_bag", none), "_law_bag", "_law_bag", defArgs s3, defBody s3, defScope s3, [], []⟩
abbrev s4 : Stmt := top 9
def d4 : He.DefD := ⟨("_law_draw", none), "_law_draw", "_law_draw", defArgs s4, defBody s4, defScope s4, [], []⟩
abbrev s5 : Stmt := top 10
def d5 : He.DefD := ⟨("_law_one", none), "_law_one", "_law_one", defArgs s5, defBody s5, defScope s5, [], []⟩
abbrev s6 : Stmt := top 11
def d6 : He.DefD := ⟨("_law_integer", none), "_law_integer", "_law_integer", defArgs s6, defBody s6, defScope s6, [], []⟩
abbrev s7 : Stmt := top 12
def d7 : He.DefD := ⟨("law", none), "law", "law", defArgs s7, defBody s7, defScope s7, [], []⟩
def fn : List He.DefD := [d0, d1, d2, d3, d4, d5, d6, d7]
def fa : List He.Fa := [.glo "is_integer", .glo "is_number", .glo "wrap", .glo "_law_bag", .glo "_law_draw", .glo "_law_one", .glo "_law_integer", .glo "law", .free "bool", .free "int", .free "isinstance", .free "len", .free "max", .free "min", .free "range", .free "repr", .int "LEAST_NUMBER" (-2147483648), .int "MOST_NUMBER" 2147483647, .int "SPAN" 4294967296]
abbrev R : PySem.W.OpenRow := PySem.W.OpenLaw.row PySem.Challenge.rw_heldlive_k01_numbers
abbrev hk : PySem.W.Hook := He.hookD 6 fa fn
def ob (s : PySem.W.SharedT) : He.AlD := He.obsDG 6 fa fn (HandSHeadRun.getT s)
theorem ob_eq (s : PySem.W.SharedT) : ob s = hk.obs s.abs := He.obsDG_eq (HandSHeadRun.getT_eq s)
def loose : List Str := ["LEAST_NUMBER", "MOST_NUMBER", "SPAN", "is_integer", "is_number", "wrap", "_law_bag", "_law_draw", "_law_one", "_law_integer"]
set_option maxHeartbeats 0 in
theorem run (w : World) : HandSHeadRun.RunEq R (PySem.W.view R.prog [12]) hk ob 40000 loose w := by
  intro os
  kernel_rfl
theorem k0 : cB ct prog 40 12 ⟨["value", "low", "high"], d0.scope, stbF d0.scope⟩ d0.body = some b0 := by kernel_rfl
theorem ok0 {K : PySem.W.Frag} (c : He.SaysD fa fn K) : ∃ fd, DefOk prog ct 40 12 K 0 (He.fAd K d0.at_) fd ["value", "low", "high"] :=
  def_of c (i := 0) (d := d0) rfl rfl rfl (by decide +kernel) (j := 0) rfl rfl rfl k0 fun _ _ _ _ _ _ us hl => match us, hl with | [_, _, _], _ => rfl
theorem k1 : cB ct prog 40 12 ⟨["value"], d1.scope, stbF d1.scope⟩ d1.body = some b1 := by kernel_rfl
theorem ok1 {K : PySem.W.Frag} (c : He.SaysD fa fn K) : ∃ fd, DefOk prog ct 40 12 K 1 (He.fAd K d1.at_) fd ["value"] :=
  def_of c (i := 1) (d := d1) rfl rfl rfl (by decide +kernel) (j := 1) rfl rfl rfl k1 fun _ _ _ _ _ _ us hl => match us, hl with | [_], _ => rfl
theorem k2 : cB ct prog 40 12 ⟨["n"], d2.scope, stbF d2.scope⟩ d2.body = some b2 := by kernel_rfl
theorem ok2 {K : PySem.W.Frag} (c : He.SaysD fa fn K) : ∃ fd, DefOk prog ct 40 12 K 2 (He.fAd K d2.at_) fd ["n"] :=
  def_of c (i := 2) (d := d2) rfl rfl rfl (by decide +kernel) (j := 2) rfl rfl rfl k2 fun _ _ _ _ _ _ us hl => match us, hl with | [_], _ => rfl
theorem k3 : cB ct prog 40 12 ⟨["script", "k", "cell"], d3.scope, stbF d3.scope⟩ d3.body = some b3 := by kernel_rfl
theorem ok3 {K : PySem.W.Frag} (c : He.SaysD fa fn K) : ∃ fd, DefOk prog ct 40 12 K 3 (He.fAd K d3.at_) fd ["script", "k"] :=
  def_of c (i := 3) (d := d3) rfl rfl rfl (by decide +kernel) (j := 3) rfl rfl rfl k3 fun _ _ _ _ _ _ us hl => match us, hl with | [_, _], _ => rfl
theorem k4 : cB ct prog 40 12 ⟨["bag", "many", "seed", "rest"], d4.scope, stbF d4.scope⟩ d4.body = some b4 := by kernel_rfl
theorem ok4 {K : PySem.W.Frag} (c : He.SaysD fa fn K) : ∃ fd, DefOk prog ct 40 12 K 4 (He.fAd K d4.at_) fd ["bag", "many"] :=
  def_of c (i := 4) (d := d4) rfl rfl rfl (by decide +kernel) (j := 4) rfl rfl rfl k4 fun _ _ _ _ _ _ us hl => match us, hl with | [_, _], _ => rfl
theorem k5 : cB ct prog 40 12 ⟨["bag", "row"], d5.scope, stbF d5.scope⟩ d5.body = some b5 := by kernel_rfl
theorem ok5 {K : PySem.W.Frag} (c : He.SaysD fa fn K) : ∃ fd, DefOk prog ct 40 12 K 5 (He.fAd K d5.at_) fd ["bag", "row"] :=
  def_of c (i := 5) (d := d5) rfl rfl rfl (by decide +kernel) (j := 5) rfl rfl rfl k5 fun _ _ _ _ _ _ us hl => match us, hl with | [_, _], _ => rfl
theorem k6 : cB ct prog 40 12 ⟨["bag", "base"], d6.scope, stbF d6.scope⟩ d6.body = some b6 := by kernel_rfl
theorem ok6 {K : PySem.W.Frag} (c : He.SaysD fa fn K) : ∃ fd, DefOk prog ct 40 12 K 6 (He.fAd K d6.at_) fd ["bag"] :=
  def_of c (i := 6) (d := d6) rfl rfl rfl (by decide +kernel) (j := 6) rfl rfl rfl k6 fun _ _ _ _ _ _ us hl => match us, hl with | [_], _ => rfl
theorem k7 : cB ct prog 40 12 ⟨["script", "k", "bag", "n", "told", "low", "high", "odd"], d7.scope, stbF d7.scope⟩ d7.body = some b7 := by kernel_rfl
theorem ok7 {K : PySem.W.Frag} (c : He.SaysD fa fn K) : ∃ fd, DefOk prog ct 40 12 K 7 (He.fAd K d7.at_) fd ["script"] :=
  def_of c (i := 7) (d := d7) rfl rfl rfl (by decide +kernel) (j := 7) rfl rfl rfl k7 fun _ _ _ _ _ _ us hl => match us, hl with | [_], _ => rfl
def lk (K : PySem.W.Frag) : Lk := mkLk prog [] [] (by decide +kernel) (by decide +kernel) K
theorem stat {K : PySem.W.Frag} {h : Heap} {mg : Str → Option Value} (X : K.In h) (G : h.Ns mainGlobals mg) (c : He.SaysD fa fn K) : Stat prog (lk K) ct 40 12 K mg where
  cF := fun C c h => by show (match prog.cls[C]? with | some c => c.flds | none => []) = _; rw [h]
  fns := fun x f h => lk_all (P := fun q => ∃ a fd ps, mg q.1 = some (.ref a) ∧ DefOk prog ct 40 12 K q.2 a fd ps) (ac (let ⟨fd, z⟩ := ok0 c; ⟨_, fd, _, He.glo_ok X G (c.fact 0 (f := .glo "is_integer") rfl), z⟩) <| ac (let ⟨fd, z⟩ := ok1 c; ⟨_, fd, _, He.glo_ok X G (c.fact 1 (f := .glo "is_number") rfl), z⟩) <| ac (let ⟨fd, z⟩ := ok2 c; ⟨_, fd, _, He.glo_ok X G (c.fact 2 (f := .glo "wrap") rfl), z⟩) <| ac (let ⟨fd, z⟩ := ok3 c; ⟨_, fd, _, He.glo_ok X G (c.fact 3 (f := .glo "_law_bag") rfl), z⟩) <| ac (let ⟨fd, z⟩ := ok4 c; ⟨_, fd, _, He.glo_ok X G (c.fact 4 (f := .glo "_law_draw") rfl), z⟩) <| ac (let ⟨fd, z⟩ := ok5 c; ⟨_, fd, _, He.glo_ok X G (c.fact 5 (f := .glo "_law_one") rfl), z⟩) <| ac (let ⟨fd, z⟩ := ok6 c; ⟨_, fd, _, He.glo_ok X G (c.fact 6 (f := .glo "_law_integer") rfl), z⟩) <| ac (let ⟨fd, z⟩ := ok7 c; ⟨_, fd, _, He.glo_ok X G (c.fact 7 (f := .glo "law") rfl), z⟩) <| an) h
  clss := fun x C h => by cases h
  own := fun C f h => by simp [lk, mkLk, prog] at h
  cons := fun x d h => lk_all (P := fun q => ∃ u v, mg q.1 = some u ∧ RelV v u ∧ ∀ m H, IsD K m H v q.2) (ac (let ⟨t, e⟩ := He.int_ok X G (c.fact 16 (f := .int "LEAST_NUMBER" (-2147483648)) rfl); ⟨_, V.int _, e, ⟨t, rfl⟩, fun _ _ => .int _⟩) <| ac (let ⟨t, e⟩ := He.int_ok X G (c.fact 17 (f := .int "MOST_NUMBER" 2147483647) rfl); ⟨_, V.int _, e, ⟨t, rfl⟩, fun _ _ => .int _⟩) <| ac (let ⟨t, e⟩ := He.int_ok X G (c.fact 18 (f := .int "SPAN" 4294967296) rfl); ⟨_, V.int _, e, ⟨t, rfl⟩, fun _ _ => .int _⟩) <| an) h
  flds := fun x f h => lk_all (P := fun q => (lk K).fN q.2 = q.1) (an) h
  mts := fun x i h => by cases h
  free := ac (He.free_ok X G (c.fact 8 (f := .free "bool") rfl)) <| ac (He.free_ok X G (c.fact 9 (f := .free "int") rfl)) <| ac (He.free_ok X G (c.fact 10 (f := .free "isinstance") rfl)) <| ac (He.free_ok X G (c.fact 11 (f := .free "len") rfl)) <| ac (He.free_ok X G (c.fact 12 (f := .free "max") rfl)) <| ac (He.free_ok X G (c.fact 13 (f := .free "min") rfl)) <| ac (He.free_ok X G (c.fact 14 (f := .free "range") rfl)) <| ac (He.free_ok X G (c.fact 15 (f := .free "repr") rfl)) <| an
/-- the row, from the law in the small syntax -/
theorem law_of (wf : Nat) (hl : ∀ ns : List Int, ns.length ≤ 63 → ∃ s', callF prog wf 100 7 [.rol (ns.map .int)] [] = .ok (.bl true) s') : PySem.Challenge.rw_heldlive_k01_numbers.Holds := by
  w_on; o_law
  refine HandSHeadRun.head_any (r := PySem.W.OpenLaw.row PySem.Challenge.rw_heldlive_k01_numbers) (q := PySem.W.view (PySem.W.OpenLaw.row PySem.Challenge.rw_heldlive_k01_numbers).prog [12]) (H := hk) (ob := ob) (M := 40000) (loose := loose) (d := HandSHeadRun.topDef (PySem.W.OpenLaw.row PySem.Challenge.rw_heldlive_k01_numbers).prog 12) (kwd := []) ob_eq
    (by kernel_rfl) (fun s => by kernel_rfl) run (by kernel_rfl) (by kernel_rfl) (by kernel_rfl) (by rfl) (by first | assumption | decide +kernel) (by decide +kernel) ⟨rfl, rfl, rfl, rfl, rfl, by decide +kernel⟩ ?hw ?hc
  case hw => w_witness2
  case hc =>
    refine walkD (l := PySem.Challenge.rw_heldlive_k01_numbers) (n := 63) (k := 200) (x := "script") rfl (by decide) (by kernel_rfl) ⟨rfl, by decide, by decide⟩ ?F
    intro w mg fa h Y G hmg0
    obtain ⟨K, KX, c⟩ := Y
    have hmg : mg ("law" : PySem.Str) = some (.ref fa) := by
      have e : (HandSHeadRun.topDef (PySem.W.OpenLaw.row PySem.Challenge.rw_heldlive_k01_numbers).prog 12).name = ("law" : PySem.Str) := by kernel_rfl
      rw [← e]
      exact hmg0
    obtain ⟨fd, z⟩ := ok7 c
    have e := hmg.symm.trans (He.glo_ok KX G (c.fact 7 (f := .glo "law") rfl))
    cases e
    obtain ⟨g1, g2⟩ := end_of (P := (PySem.Challenge.rw_heldlive_k01_numbers).prog) (w := w) (wf := wf) (lv := 100) (stat KX G c) z hl
    exact ⟨K, fd, _, KX, fun s u => DefOk.bind1 z s u, g1, g2⟩
end Lw
namespace Lw
open PySem Dt DtE
section
variable {wf k : Nat}
theorem c0 {as : List D} {s : ST} (x y z : D) : callF prog wf (k + 1) 0 [x, y, z] s = kRun (evB prog wf (callF prog wf k) b0 [some x, some y, some z] s) := callF_eq (d := ⟨3, 3, b0⟩) rfl rfl
/-- is_integer of an int -/
theorem isint {s : ST} (i lo hi : Int) : callF prog wf (k + 1) 0 [.int i, .int lo, .int hi] s = .ok (.bl (decide (lo ≤ i ∧ i ≤ hi))) s := by
  rw [callF_eq (d := ⟨3, 3, b0⟩) rfl rfl]
  by_cases h1 : lo ≤ i <;> by_cases h2 : i ≤ hi <;> simp [b0, h1, h2, subT]
theorem wrapS {s : ST} (i : Int) : callF prog wf (k + 1) 2 [.int i] s = .ok (.int ((i - -2147483648) % 4294967296 + -2147483648)) s := by
  rw [callF_eq (d := ⟨1, 1, b2⟩) rfl rfl]
  simp [b2]
def Bag (s : ST) (l : Nat) : Prop := ∃ a b c d : Int, s[l]? = some (.lst [.int a, .int b, .int c, .int d])
theorem drawS {s : ST} {l : Nat} (hl : l < s.length) (a b c d many : Int) (h1 : 1 ≤ many) (h2 : many < 1073741824) :
    ∃ r a' b' c' : Int, callF prog wf (k + 1) 4 [.ref l, .int many] (s.set l (.lst [.int a, .int b, .int c, .int d])) = .ok (.int r) (s.set l (.lst [.int a', .int b', .int c', .int d])) ∧ 0 ≤ r ∧ r < many := by
  generalize hr : callF prog wf (k + 1) 4 [.ref l, .int many] (s.set l (.lst [.int a, .int b, .int c, .int d])) = res
  rw [callF_eq (d := ⟨2, 4, b4⟩) rfl rfl] at hr
  have n1 : ¬ many < 1 := by omega
  have n2 : 0 < many := by omega
  have fin : ∀ x : Int, 0 ≤ x % many ∧ x % many < many := fun x => ⟨Int.emod_nonneg _ (by omega), Int.emod_lt_of_pos _ n2⟩
  by_cases ha : a = 0
  · have hs : ∀ z : Int, isLt64 (z % 2147483647) = true := fun z => by
      have q1 := Int.emod_nonneg z (b := 2147483647) (by omega)
      have q2 := Int.emod_lt_of_pos z (b := 2147483647) (by omega)
      simp only [isLt64, Bool.and_eq_true, decide_eq_true_eq]
      omega
    have q1 : isLt64 48271 = true := by decide
    have q2 : isLt64 69621 = true := by decide
    have q3 : isLt64 16807 = true := by decide
    have q4 : isLt64 2147483629 = true := by decide
    by_cases hc : c + 1 = 1 <;> by_cases hd : 1000000000000000000 ≤ d <;>
    (simp [b4, n1, ixS hl, setS hl, L2.atI, L2.ixN, ha, q1, q2, q3, q4, hc, hd, n2, h2, hs] at hr
     subst hr
     exact ⟨_, _, _, _, rfl, fin _⟩)
  · simp [b4, n1, ixS hl, setS hl, L2.atI, L2.ixN, ha, n2, h2] at hr
    subst hr
    exact ⟨_, _, _, _, rfl, fin _⟩
theorem Bag.lt {s : ST} {l : Nat} (h : Bag s l) : l < s.length := by
  obtain ⟨_, _, _, _, h⟩ := h
  exact (List.getElem?_eq_some_iff.mp h).1
theorem draw {s : ST} {l : Nat} (h : Bag s l) (many : Int) (h1 : 1 ≤ many) (h2 : many < 1073741824) : ∃ (r : Int) (s' : ST), callF prog wf (k + 1) 4 [.ref l, .int many] s = .ok (.int r) s' ∧ 0 ≤ r ∧ r < many ∧ Bag s' l ∧ Keep (· = l) s s' := by
  have hlt := h.lt
  obtain ⟨a, b, c, d, h⟩ := h
  obtain ⟨r, a', b', c', e, g1, g2⟩ := drawS (wf := wf) (k := k) hlt a b c d many h1 h2
  rw [← asS h] at e
  exact ⟨r, _, e, g1, g2, ⟨a', b', c', d, by rw [List.getElem?_set_self hlt]⟩, .set rfl⟩
theorem Bag.keep {c : Nat → Prop} {s s' : ST} {l : Nat} (h : Bag s l) (k : Keep c s s') (n : ¬ c l) : Bag s' l := by
  obtain ⟨x, y, z, w, h⟩ := h
  exact ⟨x, y, z, w, k.some h n⟩
theorem atI_ok {α : Type} {xs : List α} {r : Int} (h0 : 0 ≤ r) (h : r < xs.length) : ∃ x, L2.atI xs r = some x ∧ x ∈ xs := by
  have hj : r.toNat < xs.length := by omega
  refine ⟨xs[r.toNat], ?_, List.getElem_mem hj⟩
  unfold L2.atI L2.ixN
  rw [if_pos h0, if_pos h]
  simp [hj]
/-- one of a row -/
theorem one {s : ST} {l m : Nat} {xs : List D} (h : Bag s l) (hm : s[m]? = some (.lst xs)) (hne : m ≠ l) (h1 : xs ≠ []) (h2 : xs.length < 1073741824) :
    ∃ x s', callF prog wf (k + 2) 5 [.ref l, .ref m] s = .ok x s' ∧ x ∈ xs ∧ Bag s' l ∧ Keep (· = l) s s' := by
  have hp := List.length_pos_iff.mpr h1
  obtain ⟨r, s', e, g1, g2, g3, g4⟩ := draw (wf := wf) (k := k) h xs.length (by omega) (by omega)
  obtain ⟨x, hx, hx2⟩ := atI_ok g1 g2
  refine ⟨x, s', ?_, hx2, g3, g4⟩
  rw [callF_eq (d := ⟨2, 2, b5⟩) rfl rfl]
  simp [b5, bf_lref hm, e, ix_lst (g4.some hm hne), hx]
theorem int_of {xs : List Int} {x : D} (h : x ∈ xs.map D.int) : ∃ i : Int, x = .int i := by
  obtain ⟨i, _, rfl⟩ := List.mem_map.mp h
  exact ⟨i, rfl⟩
/-- an integer -/
theorem integer {s : ST} {l : Nat} (h : Bag s l) : ∃ (z : Int) (s' : ST), callF prog wf (k + 3) 6 [.ref l] s = .ok (.int z) s' ∧ Bag s' l ∧ Keep (· = l) s s' := by
  have hlt := h.lt
  generalize hr : callF prog wf (k + 3) 6 [.ref l] s = res
  rw [callF_eq (d := ⟨1, 2, b6⟩) rfl rfl] at hr
  obtain ⟨x, s1, e1, m1, B1, K1⟩ := one (wf := wf) (k := k) (s := s ++ [.lst ([0, 2147483647, -2147483648, 4294967296, 10 ^ 20, -10 ^ 25, 255].map D.int)]) (m := s.length) (xs := [0, 2147483647, -2147483648, 4294967296, 10 ^ 20, -10 ^ 25, 255].map D.int) (h.keep (c := fun _ => False) .push id) (by simp) (by omega) (by simp) (by simp)
  obtain ⟨i, rfl⟩ := int_of m1
  obtain ⟨r, s2, e2, g1, g2, B2, K2⟩ := draw (wf := wf) (k := k + 1) B1 1000000000 (by omega) (by omega)
  obtain ⟨y, s3, e3, m3, B3, K3⟩ := one (wf := wf) (k := k) (s := s2 ++ [.lst ([0, 1, -1, r].map D.int)]) (m := s2.length) (xs := [0, 1, -1, r].map D.int) (B2.keep (c := fun _ => False) .push id) (by simp) (by have := B2.lt; omega) (by simp) (by simp)
  obtain ⟨j, rfl⟩ := int_of m3
  simp at e1 e3
  simp [b6, e1, e2, e3] at hr
  subst hr
  exact ⟨_, _, rfl, B3, (Keep.push.trans K1).trans (K2.trans (Keep.push.trans K3))⟩
end
end Lw
namespace Lw
open PySem Dt DtE
section
variable {wf k : Nat}
theorem isint_not {s : ST} {x : D} {t : BT} (lo hi : Int) (h : typB s x = some (.inl t)) (ht : t ≠ .int) : callF prog wf (k + 1) 0 [x, .int lo, .int hi] s = .ok (.bl false) s := by
  rw [callF_eq (d := ⟨3, 3, b0⟩) rfl rfl]
  cases t <;> first | exact absurd rfl ht | simp [b0, h, subT]
theorem isnum {s : ST} (i : Int) : callF prog wf (k + 2) 1 [.int i] s = .ok (.bl (decide (-2147483648 ≤ i ∧ i ≤ 2147483647))) s := by
  rw [callF_eq (d := ⟨1, 1, b1⟩) rfl rfl]
  simp [b1, isint]
theorem isnum_not {s : ST} {x : D} {t : BT} (h : typB s x = some (.inl t)) (ht : t ≠ .int) : callF prog wf (k + 2) 1 [x] s = .ok (.bl false) s := by
  rw [callF_eq (d := ⟨1, 1, b1⟩) rfl rfl]
  simp [b1, isint_not _ _ h ht]
theorem bagS {s : ST} (ns : List Int) (i : Nat) : ∃ s', callF prog wf (k + 1) 3 [.rol (ns.map .int), .int i] s = .ok (.ref s.length) s' ∧ Bag s' s.length ∧ Keep (fun _ => False) s s' := by
  have q1 : isLt64 48611 = true := by decide
  generalize hr : callF prog wf (k + 1) 3 [.rol (ns.map .int), .int i] s = res
  rw [callF_eq (d := ⟨2, 3, b3⟩) rfl rfl] at hr
  by_cases h : i < ns.length
  · have e : L2.atI (ns.map D.int) (i : Int) = some (.int ns[i]) := by
      unfold L2.atI L2.ixN
      rw [if_pos (by omega), if_pos (by simp; omega)]
      simp [h]
    simp [b3, h, e, q1] at hr
    subst hr
    exact ⟨_, rfl, ⟨_, _, _, _, by rw [List.getElem?_append_right (Nat.le_refl _)]; simp; exact ⟨rfl, rfl, rfl, rfl⟩⟩, .push⟩
  · simp [b3, h, q1] at hr
    subst hr
    exact ⟨_, rfl, ⟨_, _, _, _, by rw [List.getElem?_append_right (Nat.le_refl _)]; simp; exact ⟨rfl, rfl, rfl, rfl⟩⟩, .push⟩
def oddB : List Sm := [.ifs (.or (.cmp .notB (.call 1 [.var 7]) (.con (.bl false))) (.cmp .notB (.call 0 [.var 7, .neg (.con (.int 5)), .con (.int 5)]) (.con (.bl false)))) [.ret (.con (.bl false))] []]
theorem odd_turn {s : ST} {x : D} {t : BT} {a b c d e f g h : Option D} (hx : typB s x = some (.inl t)) (ht : t ≠ .int) :
    turnF prog wf (callF prog wf (k + 2)) (.name 7) oddB x [a, b, c, d, e, f, g, h] s = .nx [a, b, c, d, e, f, g, some x] s := by
  simp [oddB, isnum_not hx ht, isint_not _ _ hx ht]
theorem odds {s : ST} {l : Nat} {xs : List D} (hl : s[l]? = some (.lst xs)) (hx : ∀ x ∈ xs, ∃ t, typB s x = some (.inl t) ∧ t ≠ .int) {a b c d e f g h : Option D} :
    ∃ h', forR (.list l) (turnF prog wf (callF prog wf (k + 2)) (.name 7) oddB) xs.length 0 [a, b, c, d, e, f, g, h] s = .nx [a, b, c, d, e, f, g, h'] s := by
  have at_ : ∀ i, (Src.list l).at_ i s = xs[i]? := fun i => by simp [Src.at_, itemsOf, hl]
  obtain ⟨v', s', e1, ⟨h', rfl⟩, rfl⟩ := forR_inv (g := .list l) (turn := turnF prog wf (callF prog wf (k + 2)) (.name 7) oddB) (n := xs.length) (fun i v s' => (∃ h', v = [a, b, c, d, e, f, g, h']) ∧ s' = s)
    (fun v s' ⟨_, e⟩ => by rw [e]; simp [Src.size, itemsOf, hl])
    (fun i v s' hi ⟨⟨h', e1⟩, e2⟩ => by
      subst e1 e2
      obtain ⟨t, ht, hn⟩ := hx xs[i] (List.getElem_mem hi)
      exact ⟨xs[i], by rw [at_]; simp [hi], _, _, .inl (odd_turn ht hn), ⟨_, rfl⟩, rfl⟩) xs.length 0 [a, b, c, d, e, f, g, h] s (by omega) ⟨⟨h, rfl⟩, rfl⟩
  exact ⟨h', e1⟩
def lawB : List Sm := [.asg (.name 2) (.call 3 [.var 0, .var 1]), .asg (.name 3) (.call 6 [.var 2]), .asg (.name 4) (.call 2 [.var 3]), .ifs (.or (.isi (.var 4) [.bool] []) (.or (.cmp .lt (.var 4) (.neg (.con (.int 2147483648)))) (.or (.cmp .gt (.var 4) (.con (.int 2147483647))) (.cmp .ne (.bop .mod (.bf .int [.bop .sub (.var 4) (.var 3)]) (.con (.int 4294967296))) (.con (.int 0)))))) [.ret (.con (.bl false))] [], .asg (.name 5) (.call 6 [.var 2]), .asg (.name 6) (.bop .add (.var 5) (.call 5 [.var 2, .lst [.con (.int 0), .con (.int 1), .call 4 [.var 2, .bop .pow (.con (.int 10)) (.con (.int 6))]]])), .ifs (.cmp .ne (.bf .repr [.call 0 [.var 3, .var 5, .var 6]]) (.bf .repr [.and (.cmp .le (.var 5) (.var 3)) (.cmp .le (.var 3) (.var 6))])) [.ret (.con (.bl false))] [], .ifs (.cmp .ne (.bf .repr [.call 1 [.var 3]]) (.bf .repr [.and (.cmp .le (.neg (.con (.int 2147483648))) (.var 3)) (.cmp .le (.var 3) (.con (.int 2147483647)))])) [.ret (.con (.bl false))] [], .fr (.name 7) (.seq (.lst [.con (.bl true), .con .non, .con (.str "1"), .tup [.con (.int 1)], .lst [.con (.int 1)], .con (.str "")])) oddB]
theorem law_turn (ns : List Int) (i : Nat) {s : ST} {b c d e f g h : Option D} : ∃ b' c' d' e' f' g' h' s',
    turnF prog wf (callF prog wf (k + 4)) (.name 1) lawB (.int i) [some (.rol (ns.map .int)), b, c, d, e, f, g, h] s = .nx [some (.rol (ns.map .int)), b', c', d', e', f', g', h'] s' := by
  generalize hr : turnF prog wf (callF prog wf (k + 4)) (.name 1) lawB (.int i) [some (.rol (ns.map .int)), b, c, d, e, f, g, h] s = res
  obtain ⟨s1, e1, B1, K1⟩ := bagS (wf := wf) (k := k + 3) (s := s) ns i
  obtain ⟨n, s2, e2, B2, K2⟩ := integer (wf := wf) (k := k + 1) B1
  have e3 := fun s => wrapS (wf := wf) (k := k + 3) (s := s) n
  obtain ⟨lo, s4, e4, B4, K4⟩ := integer (wf := wf) (k := k + 1) B2
  obtain ⟨r, s5, e5, g1, g2, B5, K5⟩ := draw (wf := wf) (k := k + 3) B4 1000000 (by omega) (by omega)
  obtain ⟨y, s6, e6, m6, B6, K6⟩ := one (wf := wf) (k := k + 2) (s := s5 ++ [.lst ([0, 1, r].map D.int)]) (m := s5.length) (xs := [0, 1, r].map D.int) (B5.keep (c := fun _ => False) .push id) (by simp) (by have := B5.lt; omega) (by simp) (by simp)
  obtain ⟨j, rfl⟩ := int_of m6
  have e7 := fun s => isint (wf := wf) (k := k + 3) (s := s) n lo (lo + j)
  have e8 := fun s => isnum (wf := wf) (k := k + 2) (s := s) n
  have w1 : ¬ (n - -2147483648) % 4294967296 + -2147483648 < -2147483648 := by omega
  have w2 : ¬ 2147483647 < (n - -2147483648) % 4294967296 + -2147483648 := by omega
  have w3 : ((n - -2147483648) % 4294967296 + -2147483648 - n) % 4294967296 = 0 := by omega
  generalize hw : (n - -2147483648) % 4294967296 + -2147483648 = tl at *
  simp only [List.map] at e6
  -- the odd ones
  obtain ⟨h', e9⟩ := odds (wf := wf) (k := k + 2) (s := s6 ++ [.lst [.int 1], .lst [.bl true, .non, .str "1", .tup [.int 1], .ref s6.length, .str ""]]) (l := s6.length + 1) (xs := [.bl true, .non, .str "1", .tup [.int 1], .ref s6.length, .str ""]) (by simp)
    (by
      intro x hx
      simp only [List.mem_cons, List.not_mem_nil, or_false] at hx
      rcases hx with rfl | rfl | rfl | rfl | rfl | rfl
      · exact ⟨_, rfl, by simp⟩
      · exact ⟨_, rfl, by simp⟩
      · exact ⟨_, rfl, by simp⟩
      · exact ⟨_, rfl, by simp⟩
      · exact ⟨_, ty_lst (xs := [.int 1]) (by simp), by simp⟩
      · exact ⟨_, rfl, by simp⟩)
    (a := some (.rol (ns.map .int))) (b := some (.int i)) (c := some (.ref s.length)) (d := some (.int n)) (e := some (.int tl)) (f := some (.int lo)) (g := some (.int (lo + j))) (h := h)
  have hl : (s6 ++ [OB.lst [.int 1], .lst [.bl true, .non, .str "1", .tup [.int 1], .ref s6.length, .str ""]])[s6.length + 1]? = some (.lst [.bl true, .non, .str "1", .tup [.int 1], .ref s6.length, .str ""]) := by simp
  change forR (Src.list (s6.length + 1)) _ 6 0 _ _ = _ at e9
  by_cases c1 : lo ≤ n <;> by_cases c2 : n ≤ lo + j <;> by_cases c3 : -2147483648 ≤ n <;> by_cases c4 : n ≤ 2147483647 <;>
  (simp [lawB, e1, e2, e3, w1, w2, w3, e4, e5, e6, e7, e8, c1, c2, c3, c4, subT, kSq_lst hl, kFr_lst hl, e9] at hr
   subst hr
   exact ⟨_, _, _, _, _, _, _, _, rfl⟩)
theorem hz_ (x : Int) (h0 : 0 ≤ x) : ∃ m : Nat, m ≤ 40 ∧ (if (if x < 40 then x else 40) > 1 then (if x < 40 then x else 40) else 1) = (m : Int) := by
  by_cases h1 : x < 40
  · by_cases h2 : x > 1
    · exact ⟨x.toNat, by omega, by rw [if_pos h1, if_pos h2]; omega⟩
    · exact ⟨1, by omega, by rw [if_pos h1, if_neg h2]; rfl⟩
  · exact ⟨40, by omega, by rw [if_neg h1, if_pos (by omega)]; rfl⟩
theorem hr_ {m : Nat} (h : m ≤ 40) : rgOk (m : Int) = true := by
  simp [rgOk]
  omega
theorem hu_ (m : Nat) : rangeU 0 (m : Int) = (List.range m).map fun (j : Nat) => D.int (j : Int) := by simp [rangeU]
theorem hb_ : b7 = [.fr (.name 1) (.rng none (.bf .max [.con (.int 1), .bf .min [.con (.int 40), .bf .len [.var 0]]]) none) lawB, .ret (.con (.bl true))] := rfl
theorem loop (ns : List Int) (m : Nat) : ∃ v' s', forR (.fix ((List.range m).map fun (j : Nat) => D.int (j : Int))) (turnF prog wf (callF prog wf (k + 4)) (.name 1) lawB) m 0 [some (.rol (ns.map .int)), none, none, none, none, none, none, none] [] = .nx v' s' := by
  obtain ⟨v', s', e1, _⟩ := forR_inv (g := .fix ((List.range m).map fun (j : Nat) => D.int (j : Int))) (turn := turnF prog wf (callF prog wf (k + 4)) (.name 1) lawB) (n := m)
    (fun i v s => ∃ b c d e f g h, v = [some (.rol (ns.map .int)), b, c, d, e, f, g, h]) (fun v s _ => by simp [Src.size])
    (fun i v s hi ⟨b, c, d, e, f, g, h, e1⟩ => by
      subst e1
      obtain ⟨b', c', d', e', f', g', h', s', q⟩ := law_turn (wf := wf) (k := k) ns i (s := s) (b := b) (c := c) (d := d) (e := e) (f := f) (g := g) (h := h)
      exact ⟨.int i, by simp [Src.at_, hi], _, s', .inl q, b', c', d', e', f', g', h', rfl⟩) m 0 [some (.rol (ns.map .int)), none, none, none, none, none, none, none] [] (by omega) ⟨_, _, _, _, _, _, _, rfl⟩
  exact ⟨v', s', e1⟩
theorem it_ (ns : List Int) {m : Nat} (hm : m ≤ 40) (hz : (if (if ((ns.length : Nat) : Int) < 40 then ((ns.length : Nat) : Int) else 40) > 1 then (if ((ns.length : Nat) : Int) < 40 then ((ns.length : Nat) : Int) else 40) else 1) = (m : Int)) {cf : CF} {v : EV} {s : ST} :
    evI prog cf (.rng none (.bf .max [.con (.int 1), .bf .min [.con (.int 40), .bf .len [.var 0]]]) none) (some (.rol (ns.map .int)) :: v) s = .ok (.fix ((List.range m).map fun (j : Nat) => D.int (j : Int))) s := by
  have e : evE prog cf (.bf .max [.con (.int 1), .bf .min [.con (.int 40), .bf .len [.var 0]]]) (some (.rol (ns.map .int)) :: v) s =
    .ok (.int (if (if (((ns.map D.int).length : Nat) : Int) < 40 then (((ns.map D.int).length : Nat) : Int) else 40) > 1 then (if (((ns.map D.int).length : Nat) : Int) < 40 then (((ns.map D.int).length : Nat) : Int) else 40) else 1)) s := rfl
  rw [List.length_map, hz] at e
  rw [DtE.i_rng1, e, bind_ok, kR1_, if_pos (hr_ hm), hu_]
theorem lawOk2 (ns : List Int) : ∃ s', evB prog wf (callF prog wf (k + 4)) b7 [some (.rol (ns.map .int)), none, none, none, none, none, none, none] [] = .rt (.bl true) s' := by
  obtain ⟨m, hm, hz⟩ := hz_ ((ns.length : Nat) : Int) (by omega)
  obtain ⟨v', s', e1⟩ := loop (wf := wf) (k := k) ns m
  refine ⟨s', ?_⟩
  rw [hb_, DtE.b_cons, s_fr, it_ ns hm hz, st_ok, kFr_fix, List.length_map, List.length_range, e1]
  rfl
theorem lawOk (ns : List Int) : ∃ s', callF prog wf (k + 5) 7 [.rol (ns.map .int)] [] = .ok (.bl true) s' := by
  obtain ⟨s', e⟩ := lawOk2 (wf := wf) (k := k) ns
  exact ⟨s', (callF_eq (d := ⟨1, 8, b7⟩) rfl rfl).trans (congrArg kRun e)⟩
theorem law_holds : PySem.Challenge.rw_heldlive_k01_numbers.Holds := law_of 0 fun ns _ => lawOk (k := 95) ns
end
end Lw
theorem PySem.Challenge.cw_heldlive_k01_numbers_holds : PySem.Challenge.rw_heldlive_k01_numbers.Holds := by
  exact Lw.law_holds

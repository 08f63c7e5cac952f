import PyProof.Rows.All
import Wide.All
import OpenK.AllK
import Wide.FinOn
import HandS.Base
import HandS.Call
import HandS.Comp
import HandS.Words
import HandS.Lambda
import HandS.List
import HandS.IsInst
import HandS.Iter
import HandS.Flow
import HandS.Wide
import HandS.WideBits
import HandS.Gcd
import HandS.Text
import HandS.Dict
import HandS.Defaults
import HandS.OwnEq
import HandS.Zip
import HandS.Conv
import HandS.Style
import HandS.NoneIn
import HandS.Small
import HandS.TupLe
import HandS.TupAny
import HandS.TupMul
import HandS.Deep
import HandS.RaiseMore
import PyProof.ReprRoads
import HandS.New0
import HandS.EndBits
import HandS.HeadHook1
import HandS.HeadHook2
import KE.KNestM
import HandS.Head0
import HandS.Head1
import HandS.Head2
import PySem.Challenge.RW_hedgepapers_k90_classes_made_by_hand
set_option linter.all false
set_option maxRecDepth 10000
/-! The evaluator, part A: values, own syntax, what it computes. -/
namespace HP
open PySem

/-- a value of the evaluator: data as trees, what changes by its place in the small heap -/
inductive X where
  | non | bl (b : Bool) | int (i : Int) | str (s : Str)
  | tup (xs : List X) | lst (xs : List X)
  | ins (c : Nat) (xs : List X)
  | fn (f : Nat)
  | ob (l : Nat)
  /-- the script -/
  | scr (xs : List X)
  /-- a lambda -/
  | lam (f : Nat)
  deriving Inhabited

mutual
def X.eqb : X → X → Bool
  | .non, .non => true
  | .bl a, .bl b => a == b
  | .int a, .int b => a == b
  | .str a, .str b => a == b
  | .tup a, .tup b => X.eqbs a b
  | .lst a, .lst b => X.eqbs a b
  | .ins c a, .ins d b => c == d && X.eqbs a b
  | .fn f, .fn g => f == g
  | .ob l, .ob m => l == m
  | .scr a, .scr b => X.eqbs a b
  | .lam f, .lam g => f == g
  | _, _ => false
def X.eqbs : List X → List X → Bool
  | [], [] => true
  | x :: xs, y :: ys => X.eqb x y && X.eqbs xs ys
  | _, _ => false
end
mutual
theorem X.eqb_iff : ∀ (x y : X), X.eqb x y = true ↔ x = y
  | .non, y => by cases y <;> simp [X.eqb]
  | .bl a, y => by cases y <;> simp [X.eqb]
  | .int a, y => by cases y <;> simp [X.eqb]
  | .str a, y => by cases y <;> simp [X.eqb]
  | .tup a, y => by cases y <;> simp [X.eqb, X.eqbs_iff a]
  | .lst a, y => by cases y <;> simp [X.eqb, X.eqbs_iff a]
  | .ins c a, y => by cases y <;> simp [X.eqb, X.eqbs_iff a]
  | .fn f, y => by cases y <;> simp [X.eqb]
  | .ob l, y => by cases y <;> simp [X.eqb]
  | .scr a, y => by cases y <;> simp [X.eqb, X.eqbs_iff a]
  | .lam f, y => by cases y <;> simp [X.eqb]
theorem X.eqbs_iff : ∀ (xs ys : List X), X.eqbs xs ys = true ↔ xs = ys
  | [], ys => by cases ys <;> simp [X.eqbs]
  | x :: xs, ys => by cases ys <;> simp [X.eqbs, X.eqb_iff x, X.eqbs_iff xs]
end
instance : DecidableEq X := fun x y => decidable_of_iff _ (X.eqb_iff x y)

/-- what stands in the small heap -/
inductive O where
  | lst (xs : List X) | dct (kvs : List (X × X)) | ins (c : Nat) (fs : List (Nat × X)) | tbl
  deriving DecidableEq, Inhabited
abbrev Hq := List O

/-- an outcome -/
inductive R (α : Type) where
  | ok (a : α) (h : Hq) | exc (c : Nat) (fs : List X) (h : Hq) | bad
  deriving Inhabited
abbrev M (α : Type) := Hq → R α
@[reducible] def M.ret {α : Type} (a : α) : M α := fun h => .ok a h
def R.bnd {α β : Type} (r : R α) (f : α → M β) : R β := match r with
  | .ok a h => f a h
  | .exc c fs h => .exc c fs h
  | .bad => .bad
def M.bnd {α β : Type} (m : M α) (f : α → M β) : M β := fun h => (m h).bnd f
def M.opt {α : Type} (o : Option α) : M α := fun h => match o with
  | some a => .ok a h
  | none => .bad
@[simp] theorem R.bnd_ok {α β : Type} (a : α) (h : Hq) (f : α → M β) : (R.ok a h).bnd f = f a h := rfl
@[simp] theorem R.bnd_bad {α β : Type} (f : α → M β) : (R.bad : R α).bnd f = .bad := rfl
@[simp] theorem R.bnd_exc {α β : Type} (c : Nat) (fs : List X) (h : Hq) (f : α → M β) : (R.exc c fs h : R α).bnd f = .exc c fs h := rfl
@[simp] theorem M.bnd_ap {α β : Type} (m : M α) (f : α → M β) (h : Hq) : m.bnd f h = (m h).bnd f := rfl
@[simp] theorem M.opt_some {α : Type} (a : α) (h : Hq) : M.opt (some a) h = .ok a h := rfl
@[simp] theorem M.opt_none {α : Type} (h : Hq) : M.opt (none : Option α) h = .bad := rfl

/-! ### syntax -/
inductive Op where | add | sub | mul | fdiv | mod | pow
  deriving DecidableEq
inductive Cp where | eq | ne | lt | le | gt | ge | is | isnot | isin | notin
  deriving DecidableEq
inductive Tk where | tint | tbool | tstr | tlist | ttuple | tnone | cls (c : Nat)
  deriving DecidableEq
/-- built-ins that are called by name -/
inductive Bi where | len | abs | int | str | repr | list | tuple | all | any | sum | sorted | max | min | gcd | dict
  deriving DecidableEq
/-- methods of built-in types -/
inductive Bm where | append | extend | insert | pop | bitlen | get | join | split | index
  deriving DecidableEq
mutual
inductive E where
  | var (i : Nat) | non | bl (b : Bool) | int (i : Int) | str (s : Str) | cst (k : Nat)
  | tup (es : Es) | lst (m : Bool) (es : Es) | dct (ks : List Str) (vs : Es)
  | bin (m : Bool) (o : Op) (a b : E) | neg (a : E)
  | cmp (o : Cp) (a b : E) | chn (o p : Cp) (a b c : E)
  | and (a b : E) | or (a b : E) | not (a : E) | ite (c a b : E)
  | idx (a i : E) | slc (m : Bool) (a : E) (lo hi : Es)
  | fld (a : E) (f : Nat)
  | call (f : Nat) (es : Es) | mk (c : Nat) (es : Es) | mth (a : E) (m : Nat) (es : Es) | app (i : Nat) (es : Es)
  | bi (m : Bool) (b : Bi) (es : Es) | bm (m : Bool) (b : Bm) (o : E) (es : Es)
  | isi (a : E) (ts : List Tk)
  | comp (m : Bool) (own : List Nat) (e : E) (t : Tg) (it : It) (c : Es)
  | lrg (m : Bool) (es : Es) | rev (m : Bool) (a : E) | lem (m : Bool) (a : E)
  | lam (f : Nat) | fnv (f : Nat) | mkk (c : Nat) (ks : List Str) (pm : List Nat) (es : Es)
inductive Es where
  | nil | cons (e : E) (es : Es)
inductive It where
  | seq (e : E) | rng (es : Es) | zip (es : Es) | enm (e : E) | ezip (es : Es)
inductive Tg where
  | nm (i : Nat) | idx (o i : E) | fld (o : E) (f : Nat) | tup (ts : Tgs)
inductive Tgs where
  | nil | cons (t : Tg) (ts : Tgs)
end
mutual
inductive S where
  | expr (e : E) | asg (t : Tg) (e : E) | par (is : List Nat) (es : Es)
  | aug (i : Nat) (o : Op) (e : E) | augf (a : E) (f : Nat) (o : Op) (e : E)
  | ret (e : E) | retN | ifs (c : E) (a b : Ss) | for (t : Tg) (it : It) (b : Ss) | whl (c : E) (b : Ss)
  | brk | cnt | pass | never
inductive Ss where
  | nil | cons (s : S) (ss : Ss)
end

/-! ### operations by values -/
def szMul (i j : Int) : Bool := decide (i.natAbs.log2 + j.natAbs.log2 < 130000000)
def szSeq (n : Nat) : Bool := decide (n ≤ 16777216)
/-- a fresh list: a value, or an object -/
def newL (m : Bool) (xs : List X) (h : Hq) : R X := if szSeq xs.length then
    (if m then .ok (.ob h.length) (h ++ [.lst xs]) else .ok (.lst xs) h) else .bad
/-- the items of a sequence -/
def seqX (x : X) (h : Hq) : Option (List X) := match x with
  | .tup xs => some xs
  | .lst xs => some xs
  | .scr xs => some xs
  | .ob l => match h[l]? with
    | some (.lst xs) => some xs
    | _ => none
  | _ => none
def lstX (x : X) (h : Hq) : Option (List X) := match x with
  | .lst xs => some xs
  | .ob l => match h[l]? with
    | some (.lst xs) => some xs
    | _ => none
  | _ => none
def addX (m : Bool) (x y : X) (h : Hq) : R X := match x, y with
  | .int i, .int j => .ok (.int (i + j)) h
  | .str a, .str b => if szSeq (a.length + b.length) then .ok (.str (a ++ b)) h else .bad
  | .tup a, .tup b => if szSeq (a.length + b.length) then .ok (.tup (a ++ b)) h else .bad
  | x, y => match lstX x h, lstX y h with
    | some a, some b => newL m (a ++ b) h
    | _, _ => .bad
def subX (x y : X) (h : Hq) : R X := match x, y with
  | .int i, .int j => .ok (.int (i - j)) h
  | _, _ => .bad
def mulX (m : Bool) (x y : X) (h : Hq) : R X := match x, y with
  | .int i, .int j => if szMul i j then .ok (.int (i * j)) h else .bad
  | .tup a, .int n => if decide (1 ≤ n) && decide (n ≤ 1000) && decide (a.length ≤ 1000) && !a.isEmpty then .ok (.tup (List.replicate n.toNat a).flatten) h else .bad
  | x, .int n => match lstX x h with
    | some a => if decide (0 ≤ n) && decide (n < 2 ^ 62) && szSeq (a.length * n.toNat) then newL m (List.replicate n.toNat a).flatten h else .bad
    | none => .bad
  | _, _ => .bad
def fdivX (x y : X) (h : Hq) : R X := match x, y with
  | .int i, .int j => if decide (j ≠ 0) && decide (j.natAbs.log2 < 9000) then .ok (.int (i.fdiv j)) h else .bad
  | _, _ => .bad
def modX (x y : X) (h : Hq) : R X := match x, y with
  | .int i, .int j => if decide (j ≠ 0) then .ok (.int (i.fmod j)) h else .bad
  | _, _ => .bad
def powX (x y : X) (h : Hq) : R X := match x, y with
  | .int i, .int j => if decide (0 ≤ j) && decide (j ≤ 1000000) && decide (i.natAbs < 2 ^ 64) then .ok (.int (i ^ j.toNat)) h else .bad
  | _, _ => .bad
def binX (m : Bool) (o : Op) (x y : X) (h : Hq) : R X := match o with
  | .add => addX m x y h
  | .sub => subX x y h
  | .mul => mulX m x y h
  | .fdiv => fdivX x y h
  | .mod => modX x y h
  | .pow => powX x y h
def b2i (b : Bool) : Int := if b then 1 else 0
mutual
/-- data as the model's own kind of data -/
def X.toD : X → PyData
  | .non => .none | .bl b => .bool b | .int i => .int i | .str s => .str s
  | .tup xs => .tuple (X.toDs xs) | .lst xs => .list (X.toDs xs)
  | _ => .none
def X.toDs : List X → List PyData
  | [] => []
  | x :: xs => X.toD x :: X.toDs xs
end
/-- == of data -/
def eqX (x y : X) : Bool := PyData.eqv (X.toD x) (X.toD y)
mutual
/-- data alone: no place of the heap, no instance, no function -/
def X.dat : X → Bool
  | .non | .bl _ | .int _ => true
  | .str s => PyData.strOk s
  | .tup xs | .lst xs => X.dats xs
  | _ => false
def X.dats : List X → Bool
  | [] => true
  | x :: xs => X.dat x && X.dats xs
end
mutual
def X.dep : X → Nat
  | .tup xs | .lst xs | .ins _ xs => X.deps xs + 1
  | _ => 0
def X.deps : List X → Nat
  | [] => 0
  | x :: xs => max (X.dep x) (X.deps xs)
end
/-- a list object as the value that it is now -/
def redX (x : X) (h : Hq) : X := match x with
  | .ob l => match h[l]? with
    | some (.lst xs) => .lst xs
    | _ => .ob l
  | x => x
def datX (x : X) : Bool := X.dat x && decide (X.dep x ≤ 60)
def inX (x : X) (ys : List X) : Bool := ys.any fun y => eqX y x
/-- two texts -/
def eqT (x y : X) : Option Bool := match x, y with
  | .str a, .str b => some (a == b)
  | _, _ => none
def cmpX (o : Cp) (x y : X) (h : Hq) : Option Bool := match o with
  | .eq => match eqT x y with
    | some k => some k
    | none => if datX (redX x h) && datX (redX y h) then some (eqX (redX x h) (redX y h)) else none
  | .ne => match eqT x y with
    | some k => some (!k)
    | none => if datX (redX x h) && datX (redX y h) then some (!eqX (redX x h) (redX y h)) else none
  | .lt => match x, y with | .int i, .int j => some (decide (i < j)) | _, _ => none
  | .le => match x, y with | .int i, .int j => some (decide (i ≤ j)) | _, _ => none
  | .gt => match x, y with | .int i, .int j => some (decide (j < i)) | _, _ => none
  | .ge => match x, y with | .int i, .int j => some (decide (j ≤ i)) | _, _ => none
  | .is => match x, y with
    | x, .non => some (decide (x = .non))
    | .bl a, .bl b => some (a == b)
    | _, _ => none
  | .isnot => match x, y with
    | x, .non => some (!decide (x = .non))
    | .bl a, .bl b => some (!(a == b))
    | _, _ => none
  | .isin => match x, y with
    | .str a, .str b => if decide (a = ⟨#[a.cps.getD 0 0]⟩) then some (decide (a.cps.getD 0 0 ∈ b.cps.toList)) else none
    | x, y => match seqX y h with
      | some ys => if datX x && datX (.tup ys) then some (inX x ys) else none
      | none => none
  | .notin => match x, y with
    | .str a, .str b => if decide (a = ⟨#[a.cps.getD 0 0]⟩) then some (!decide (a.cps.getD 0 0 ∈ b.cps.toList)) else none
    | x, y => match seqX y h with
      | some ys => if datX x && datX (.tup ys) then some (!inX x ys) else none
      | none => none
/-- a value's truth -/
def truX (x : X) (h : Hq) : Option Bool := match x with
  | .non => some false
  | .bl b => some b
  | .int i => some (i != 0)
  | .str s => if szSeq s.length then some ((s.length : Int) != 0) else none
  | .tup xs => some (!xs.isEmpty)
  | .lst xs => some (!xs.isEmpty)
  | .ob l => match h[l]? with
    | some (.lst xs) => some (!xs.isEmpty)
    | _ => none
  | _ => none
def truM (x : X) (h : Hq) : R Bool := match truX x h with
  | some b => .ok b h
  | none => .bad
/-- a place in a sequence of n -/
def atX (n : Nat) (i : Int) : Option Nat := if 0 ≤ i then (if i < n then some i.toNat else none) else if -(n : Int) ≤ i then some (i + n).toNat else none
def keyB (x : X) : Bool := match x with
  | .int _ | .str _ => true
  | _ => false
def getD (k : X) : List (X × X) → Option X
  | [] => none
  | (a, v) :: r => if a = k then some v else getD k r
def putD (k v : X) (kvs : List (X × X)) : List (X × X) :=
  if kvs.any (fun p => decide (p.1 = k)) then kvs.map (fun p => if p.1 = k then (p.1, v) else p) else kvs ++ [(k, v)]
def idxX (x i : X) (h : Hq) : Option X := match x, i with
  | .str s, .int j => if szSeq s.length then (atX s.cps.toList.length j).bind fun k => s.cps.toList[k]?.map fun c => .str ⟨#[c]⟩ else none
  | .ob l, i => match h[l]? with
    | some (.dct kvs) => if keyB i then getD i kvs else none
    | some (.lst xs) => match i with
      | .int j => (atX xs.length j).bind fun k => xs[k]?
      | _ => none
    | _ => none
  | x, .int j => match seqX x h with
    | some xs => (atX xs.length j).bind fun k => xs[k]?
    | none => none
  | _, _ => none
/-- a slice's bounds -/
def clip (n d : Nat) : Option Int → Nat
  | none => d
  | some v => if v < 0 then (v + (n : Int)).toNat else min v.toNat n
def cutL {α : Type} (xs : List α) (lo hi : Option Int) : List α := (xs.drop (clip xs.length 0 lo)).take (clip xs.length xs.length hi - clip xs.length 0 lo)
def optI : List X → Option (Option Int)
  | [] => some none
  | [.int i] => some (some i)
  | _ => none
def slcX (m : Bool) (x : X) (lo hi : List X) (h : Hq) : R X := match optI lo, optI hi with
  | some a, some b => match x with
    | .tup xs => .ok (.tup (cutL xs a b)) h
    | .str s => if szSeq s.length then .ok (.str ⟨(cutL s.cps.toList a b).toArray⟩) h else .bad
    | x => match lstX x h with
      | some xs => newL m (cutL xs a b) h
      | none => .bad
  | _, _ => .bad
end HP

set_option linter.all false
set_option maxRecDepth 10000
/-! The evaluator, part B: programs, runs. -/
namespace HP
open PySem
structure FnD where
  np : Nat
  ns : Nat
  dfl : List X
  frz : Bool
  body : Ss
structure ClD where
  init : Option Nat
  flds : List Nat
  mths : List (Nat × Nat)
  frz : Bool
  eq : Option Nat
  ne : Option Nat
structure Pg where
  fn : Nat → Option FnD
  cl : Nat → Option ClD
  cst : Nat → Option X
  /-- lambdas: the fields that each tells of its one parameter -/
  lm : Nat → Option (List Nat) := fun _ => none
  /-- a def that takes any value -/
  probe : Nat := 0
abbrev Env' := List (Option X)

mutual
def X.noOb : X → Bool
  | .ob _ => false
  | .tup xs | .lst xs | .ins _ xs => X.noObs xs
  | .scr _ => false
  | _ => true
def X.noObs : List X → Bool
  | [] => true
  | x :: xs => X.noOb x && X.noObs xs
end
mutual
def X.bel (n : Nat) : X → Bool
  | .ob l => decide (l < n)
  | .tup xs | .lst xs | .ins _ xs | .scr xs => X.bels n xs
  | _ => true
def X.bels (n : Nat) : List X → Bool
  | [] => true
  | x :: xs => X.bel n x && X.bels n xs
end
def O.bel (n : Nat) : O → Bool
  | .lst xs => X.bels n xs
  | .dct kvs => X.bels n (kvs.map (·.1)) && X.bels n (kvs.map (·.2))
  | .ins _ fs => X.bels n (fs.map (·.2))
  | .tbl => true
def mapO (f : X → Option X) : List X → Option (List X)
  | [] => some []
  | x :: xs => match f x, mapO f xs with
    | some y, some ys => some (y :: ys)
    | _, _ => none
/-- what a def hands back, as values where it is its own -/
def frzX (P : Pg) (n : Nat) (h : Hq) : Nat → X → Option X
  | 0, x => if X.noOb x then some x else none
  | k + 1, x => if X.noOb x then some x else match x with
    | .tup xs => (mapO (frzX P n h k) xs).map .tup
    | .lst xs => (mapO (frzX P n h k) xs).map .lst
    | .ins c xs => (mapO (frzX P n h k) xs).map (.ins c)
    | .ob l => if l < n then some (.ob l) else match h[l]? with
      | some (.lst xs) => (mapO (frzX P n h k) xs).map .lst
      | some (.ins c fs) => match P.cl c with
        | some d => if d.frz && decide (fs.map (·.1) = d.flds) then (mapO (frzX P n h k) (fs.map (·.2))).map (.ins c) else none
        | none => none
      | _ => none
    | _ => none
def finX (P : Pg) (f : Bool) (h0 : Hq) (v : X) (h : Hq) : R X := if f then (match frzX P h0.length h 8 v with
    | some w => if h.take h0.length = h0 then .ok w h0 else if (h.take h0.length).all (O.bel h0.length) then .ok w (h.take h0.length) else .ok v h
    | none => .ok v h) else .ok v h

inductive Fl where | nx (e : Env') | rt (v : X) | bk (e : Env') | ct (e : Env')
abbrev Cll := Nat → List X → M X

def getV (e : Env') (i : Nat) (h : Hq) : R X := match e[i]? with
  | some (some x) => .ok x h
  | _ => .bad
def wipX (e : Env') : List Nat → Env'
  | [] => e
  | i :: is => (wipX e is).set i none
def setF (f : Nat) (v : X) : List (Nat × X) → List (Nat × X)
  | [] => [(f, v)]
  | (g, u) :: r => if g = f then (g, v) :: r else (g, u) :: setF f v r
def getF (f : Nat) : List (Nat × X) → Option X
  | [] => none
  | (g, u) :: r => if g = f then some u else getF f r
def getI (f : Nat) : List Nat → List X → Option X
  | g :: gs, x :: xs => if g = f then some x else getI f gs xs
  | _, _ => none
def clsX (x : X) (h : Hq) : Option Nat := match x with
  | .ins c _ => some c
  | .ob l => match h[l]? with
    | some (.ins c _) => some c
    | _ => none
  | _ => none
def fldX (P : Pg) (x : X) (f : Nat) (h : Hq) : Option X := match x with
  | .ins c xs => match P.cl c with
    | some d => getI f d.flds xs
    | none => none
  | .ob l => match h[l]? with
    | some (.ins c fs) => match P.cl c with
      | some d => if d.flds.contains f then getF f fs else none
      | none => none
    | _ => none
  | _ => none
def getN (k : Nat) : List (Nat × Nat) → Option Nat
  | [] => none
  | (a, v) :: r => if a = k then some v else getN k r
def mthX (P : Pg) (x : X) (m : Nat) (h : Hq) : Option Nat := match clsX x h with
  | some c => match P.cl c with
    | some d => getN m d.mths
    | none => none
  | none => none
def isTb (x : X) (h : Hq) : Bool := match x with
  | .ob l => match h[l]? with
    | some .tbl => true
    | _ => false
  | _ => false
def isiY (x : X) (h : Hq) : Tk → Option Bool
  | .tint => match x with | .int _ | .bl _ => some true | .non | .str _ | .tup _ | .lst _ | .ins .. | .ob _ => some false | _ => none
  | .tbool => match x with | .bl _ => some true | .non | .int _ | .str _ | .tup _ | .lst _ | .ins .. | .ob _ => some false | _ => none
  | .tstr => match x with | .str _ => some true | .non | .int _ | .bl _ | .tup _ | .lst _ | .ins .. | .ob _ => some false | _ => none
  | .ttuple => match x with | .tup _ => some true | .non | .int _ | .bl _ | .str _ | .lst _ | .ins .. | .ob _ => some false | _ => none
  | .tlist => match x with
    | .lst _ => some true
    | .non | .int _ | .bl _ | .str _ | .tup _ | .ins .. => some false
    | .ob l => match h[l]? with
      | some (.lst _) => some true
      | some _ => some false
      | none => none
    | _ => none
  | .tnone => none
  | .cls c => match x with
    | .ins d _ => some (d == c)
    | .non | .int _ | .bl _ | .str _ | .tup _ | .lst _ => some false
    | .ob l => match h[l]? with
      | some (.ins d _) => some (d == c)
      | some _ => some false
      | none => none
    | _ => none
def isiX (x : X) (h : Hq) (t : Tk) : Option Bool := if isTb x h then none else isiY x h t
def isiA (x : X) (h : Hq) : List Tk → Option Bool
  | [] => some false
  | t :: ts => match isiX x h t with
    | some true => some true
    | some false => isiA x h ts
    | none => none
/-- repr of data -/
def reprX (x : X) (h : Hq) : Option Str :=
  let y := redX x h
  if datX y && (X.toD y).showable && szSeq (X.toD y).shown.length then some (X.toD y).shown else none
def bools : List X → Option (List Bool)
  | [] => some []
  | .bl b :: xs => (bools xs).map (b :: ·)
  | _ => none
def lstS (x : X) (h : Hq) : Option (List X) := match x with
  | .lst xs => some xs
  | .scr xs => some xs
  | .ob l => match h[l]? with
    | some (.lst xs) => some xs
    | _ => none
  | _ => none
def biX (m : Bool) (b : Bi) (as : List X) (h : Hq) : R X := match b, as with
  | .len, [x] => match x with
    | .str s => if szSeq s.length then .ok (.int s.length) h else .bad
    | x => match seqX x h with
      | some xs => .ok (.int xs.length) h
      | none => .bad
  | .abs, [.int i] => .ok (.int (if i < 0 then -i else i)) h
  | .int, [.int i] => .ok (.int i) h
  | .int, [.bl b] => .ok (.int (b2i b)) h
  | .str, [.str s] => .ok (.str s) h
  | .str, [.int i] => if decide (i.natAbs.log2 < 1920) then .ok (.str (Str.ofString (toString i))) h else .bad
  | .repr, [x] => match reprX x h with
    | some s => .ok (.str s) h
    | none => .bad
  | .list, [x] => match seqX x h with
    | some xs => newL m xs h
    | none => .bad
  | .tuple, [x] => match seqX x h with
    | some xs => .ok (.tup xs) h
    | none => .bad
  | .all, [x] => match (lstS x h).bind bools with
    | some bs => .ok (.bl (bs.all id)) h
    | none => .bad
  | .any, [x] => match (lstS x h).bind bools with
    | some bs => .ok (.bl (bs.any id)) h
    | none => .bad
  | .max, [.int i, .int j] => .ok (.int (if j > i then j else i)) h
  | .min, [.int i, .int j] => .ok (.int (if j < i then j else i)) h
  | .gcd, [.int i, .int j] => .ok (.int (Nat.gcd i.natAbs j.natAbs)) h
  | _, _ => .bad
def bmX (m : Bool) (b : Bm) (x : X) (as : List X) (h : Hq) : R X := match b, x, as with
  | .append, .ob l, [y] => match h[l]? with
    | some (.lst xs) => if szSeq (xs.length + 1) then .ok .non (h.set l (.lst (xs ++ [y]))) else .bad
    | _ => .bad
  | .bitlen, .int i, [] => .ok (.int (if i = 0 then (0 : Nat) else i.natAbs.log2 + 1 : Nat)) h
  | _, _, _ => .bad
/-- what a method is called on, ahead of the arguments -/
def bmR (b : Bm) (x : X) (h : Hq) : Bool := match b, x with
  | .append, .ob l => match h[l]? with
    | some (.lst _) => true
    | _ => false
  | .bitlen, .int _ => true
  | _, _ => false
def rngX : List X → Option (List X)
  | [.int n] => if decide (-(2 ^ 62) ≤ n) && decide (n < 2 ^ 62) then some ((List.range n.toNat).map fun (k : Nat) => .int k) else none
  | [.int a, .int b] => if decide (-(2 ^ 62) ≤ a) && decide (a < 2 ^ 62) && decide (-(2 ^ 62) ≤ b) && decide (b < 2 ^ 62) then some ((List.range (b - a).toNat).map fun (k : Nat) => .int (a + k)) else none
  | _ => none
def zipX : List (List X) → Option (List X)
  | [xs, ys] => some (List.zipWith (fun x y => .tup [x, y]) xs ys)
  | [xs, ys, zs] => some (List.zipWith (fun x p => .tup (x :: p)) xs (List.zipWith (fun y z => [y, z]) ys zs))
  | _ => none
def enmX : Nat → List X → List X
  | _, [] => []
  | k, x :: xs => .tup [.int k, x] :: enmX (k + 1) xs
abbrev Grd := List (Nat × List X)
def grdOf (x : X) (xs : List X) : Grd := match x with
  | .ob l => [(l, xs)]
  | _ => []
def grdOk (g : Grd) (h : Hq) : Bool := g.all fun p => decide (h[p.1]? = some (.lst p.2))
def itX (x : X) (h : Hq) : Option (List X × Grd) := match x with
  | .str s => if szSeq s.length then some (s.cps.toList.map fun c => .str ⟨#[c]⟩, []) else none
  | x => (seqX x h).map fun xs => (xs, grdOf x xs)
def seqsX (h : Hq) : List X → Option (List (List X) × Grd)
  | [] => some ([], [])
  | x :: xs => match seqX x h, seqsX h xs with
    | some a, some (b, g) => some (a :: b, grdOf x a ++ g)
    | _, _ => none
def pairs (a b : List X) : List X := List.zipWith (fun x y => .tup [x, y]) a b
def zipI (xs : List X) (h : Hq) : Option (List X × Grd) := match xs with
  | [.tup a, .tup b] => some (pairs a b, [])
  | [x, y] => match lstS x h, lstS y h with
    | some a, some b => some (pairs a b, grdOf x a ++ grdOf y b)
    | _, _ => none
  | _ => none
def enmI (x : X) (h : Hq) : Option (List X × Grd) := (lstS x h).map fun xs => (enmX 0 xs, grdOf x xs)
/-- the turns of a comprehension -/
def cmpL (g : Grd) (turn : X → M (Option X)) : List X → M (List X)
  | [] => fun h => if grdOk g h then .ok [] h else .bad
  | x :: xs => fun h => if grdOk g h then (turn x h).bnd fun y h1 => (cmpL g turn xs h1).bnd fun ys h2 => .ok (match y with | some y => y :: ys | none => ys) h2 else .bad
/-- the turns of a for -/
def forL (g : Grd) (turn : X → Env' → M Fl) : List X → Env' → M Fl
  | [], e => fun h => if grdOk g h then .ok (.nx e) h else .bad
  | x :: xs, e => fun h => if grdOk g h then (turn x e h).bnd fun f h1 => match f with
      | .nx e1 | .ct e1 => forL g turn xs e1 h1
      | .bk e1 => .ok (.nx e1) h1
      | .rt v => .ok (.rt v) h1
    else .bad
/-- the turns of a while -/
def whlL (test : Env' → M Bool) (turn : Env' → M Fl) : Nat → Env' → M Fl
  | 0, _ => fun _ => .bad
  | n + 1, e => fun h => (test e h).bnd fun b h0 => if b then (turn e h0).bnd fun f h1 => match f with
      | .nx e1 | .ct e1 => whlL test turn n e1 h1
      | .bk e1 => .ok (.nx e1) h1
      | .rt v => .ok (.rt v) h1
    else .ok (.nx e) h0
def fuel : Nat := 2 ^ 200
/-- the defaults of a def that is called with n arguments -/
def dflX (P : Pg) (f n : Nat) : List X := match P.fn f with
  | some d => d.dfl.drop (d.dfl.length - (d.np - n))
  | none => []
/-- a new object -/
def mkX (P : Pg) (cl : Cll) (c : Nat) (as : List X) (h : Hq) : R X := match P.cl c with
  | none => .bad
  | some d => match d.init with
    | none => if as.isEmpty then (if d.frz && d.flds.isEmpty then .ok (.ins c []) h else .ok (.ob h.length) (h ++ [.ins c []])) else .bad
    | some f => (cl f (.ob h.length :: as ++ dflX P f (as.length + 1)) (h ++ [.ins c []])).bnd fun v h1 => match v with
      | .non => finX P d.frz h (.ob h.length) h1
      | _ => .bad
/-- == and != through the class's own -/
def eqM (P : Pg) (cl : Cll) (o : Cp) (x y : X) (h : Hq) : R X := match (if o = .eq then (clsX x h).bind fun c => (P.cl c).bind (·.eq) else if o = .ne then (clsX x h).bind fun c => (P.cl c).bind (·.ne) else none) with
  | some f => if ((clsX y h).bind P.cl).isSome then (cl f [x, y] h).bnd fun v h1 => match v with
      | .bl b => .ok (.bl b) h1
      | _ => .bad
    else .bad
  | none => match cmpX o x y h with
    | some b => .ok (.bl b) h
    | none => .bad
def unpX (n : Nat) (x : X) (h : Hq) : Option (List X) := match seqX x h with
  | some xs => if xs.length = n then some xs else none
  | none => none
/-- what += and -= make -/
def augX (o : Op) (x y : X) (h : Hq) : R X := match o, x, y with
  | .add, .int i, .int j => .ok (.int (i + j)) h
  | .sub, .int i, .int j => .ok (.int (i - j)) h
  | .add, .str a, .str b => if szSeq (a.length + b.length) then .ok (.str (a ++ b)) h else .bad
  | _, _, _ => .bad
/-- a place of a list, of a dict, is set -/
def setM (a k x : X) (h : Hq) : Option Hq := match a with
  | .ob l => match h[l]? with
    | some (.lst xs) => match k with
      | .int j => (atX xs.length j).map fun n => h.set l (.lst (xs.set n x))
      | _ => none
    | some (.dct kvs) => if keyB k && szSeq (kvs.length + 1) then some (h.set l (.dct (putD k x kvs))) else none
    | _ => none
  | _ => none
mutual
/-- the names that a target stores -/
def Tg.slots : Tg → List Nat
  | .nm i => [i]
  | .idx _ _ | .fld _ _ => []
  | .tup ts => Tgs.slots ts
def Tgs.slots : Tgs → List Nat
  | .nil => []
  | .cons t ts => Tg.slots t ++ Tgs.slots ts
end
/-- items in another order -/
def permL {α : Type} : List Nat → List α → Option (List α)
  | [], _ => some []
  | i :: is, xs => match xs[i]?, permL is xs with
    | some x, some r => some (x :: r)
    | _, _ => none
def Tgs.len : Tgs → Nat
  | .nil => 0
  | .cons _ ts => ts.len + 1

def fldsX (P : Pg) (x : X) (h : Hq) : List Nat → Option (List X)
  | [] => some []
  | f :: fs => match fldX P x f h, fldsX P x h fs with
    | some y, some ys => some (y :: ys)
    | _, _ => none
/-- a lambda is called (the look at the probe: only where defs can be called) -/
def lamX (P : Pg) (cl : Cll) (f : Nat) (xs : List X) (h : Hq) : R X := match cl P.probe [.int 0] h, P.lm f, xs with
  | .ok _ _, some fl, [x] => (match fldsX P x h fl with
    | some ys => if szSeq ys.length then .ok (.tup ys) h else .bad
    | none => .bad)
  | _, _, _ => .bad
section
variable (P : Pg) (cl : Cll)
mutual
def evE : E → Env' → M X
  | .var i, e => getV e i
  | .non, _ => .ret .non
  | .bl b, _ => .ret (.bl b)
  | .int i, _ => .ret (.int i)
  | .str s, _ => .ret (.str s)
  | .cst k, _ => .opt (P.cst k)
  | .tup es, e => (evEs es e).bnd fun xs h => if szSeq xs.length then .ok (.tup xs) h else .bad
  | .lst m es, e => (evEs es e).bnd (newL m)
  | .dct ks vs, e => fun h => (evEs vs e (h ++ [.dct []])).bnd fun xs h1 => if xs.length = ks.length && decide ks.Nodup && decide (h1[h.length]? = some (.dct [])) then .ok (.ob h.length) (h1.set h.length (.dct ((ks.map .str).zip xs))) else .bad
  | .bin m o a b, e => (evE a e).bnd fun x => (evE b e).bnd fun y => binX m o x y
  | .neg a, e => (evE a e).bnd fun x h => match x with
    | .int i => .ok (.int (-i)) h
    | _ => .bad
  | .cmp o a b, e => (evE a e).bnd fun x => (evE b e).bnd fun y => eqM P cl o x y
  | .chn o p a b c, e => (evE a e).bnd fun x => (evE b e).bnd fun y => fun h => match cmpX o x y h with
    | some true => (evE c e h).bnd fun z h1 => match cmpX p y z h1 with
      | some k => .ok (.bl k) h1
      | none => .bad
    | some false => .ok (.bl false) h
    | none => .bad
  | .and a b, e => (evE a e).bnd fun x => M.bnd (truM x) fun k => if k then evE b e else .ret x
  | .or a b, e => (evE a e).bnd fun x => M.bnd (truM x) fun k => if k then .ret x else evE b e
  | .not a, e => (evE a e).bnd fun x => M.bnd (truM x) fun k => .ret (.bl (!k))
  | .ite c a b, e => (evE c e).bnd fun x => M.bnd (truM x) fun k => if k then evE a e else evE b e
  | .idx a i, e => (evE a e).bnd fun x => (evE i e).bnd fun y h => match idxX x y h with
    | some z => .ok z h
    | none => .bad
  | .slc m a lo hi, e => (evE a e).bnd fun x => (evEs lo e).bnd fun l => (evEs hi e).bnd fun u => slcX m x l u
  | .fld a f, e => (evE a e).bnd fun x h => match fldX P x f h with
    | some z => .ok z h
    | none => .bad
  | .call f es, e => (evEs es e).bnd fun xs => cl f (xs ++ dflX P f xs.length)
  | .mk c es, e => (evEs es e).bnd fun xs => mkX P cl c xs
  | .mth a m es, e => (evE a e).bnd fun x h => match mthX P x m h with
    | some f => (evEs es e h).bnd fun xs => cl f (x :: xs ++ dflX P f (xs.length + 1))
    | none => .bad
  | .app i es, e => M.bnd (getV e i) fun g => (evEs es e).bnd fun xs => match g with
    | .fn f => cl f (xs ++ dflX P f xs.length)
    | .lam f => lamX P cl f xs
    | _ => fun _ => .bad
  | .bi m b es, e => (evEs es e).bnd fun xs => biX m b xs
  | .bm m b o es, e => (evE o e).bnd fun x h => if bmR b x h then (evEs es e h).bnd fun xs => bmX m b x xs else .bad
  | .isi a ts, e => (evE a e).bnd fun x h => match isiA x h ts with
    | some k => .ok (.bl k) h
    | none => .bad
  | .comp m own el t it c, e => (evIt it e).bnd fun p => (cmpL p.2 (fun x => (evTg t x (wipX e own)).bnd fun e1 => (evC c e1).bnd fun k => if k then (evE el e1).bnd fun y => .ret (some y) else .ret none) p.1).bnd (newL m)
  | .lrg m es, e => (evEs es e).bnd fun xs => match rngX xs with
    | some ys => newL m ys
    | none => fun _ => .bad
  | .rev m a, e => (evE a e).bnd fun x h => match lstX x h with
    | some xs => newL m xs.reverse h
    | none => .bad
  | .lem m a, e => (evE a e).bnd fun x h => match seqX x h with
    | some xs => newL m (enmX 0 xs) h
    | none => .bad
  | .lam f, _ => fun (h : Hq) => match h[0]? with
    | some O.tbl => .ok (.lam f) h
    | _ => .bad
  | .fnv f, _ => .ret (.fn f)
  | .mkk c _ pm es, e => (evEs es e).bnd fun xs => match permL pm xs with
    | some ys => mkX P cl c ys
    | none => fun _ => .bad
def evEs : Es → Env' → M (List X)
  | .nil, _ => .ret []
  | .cons a es, e => (evE a e).bnd fun x => (evEs es e).bnd fun xs => .ret (x :: xs)
/-- a comprehension's test, or none -/
def evC : Es → Env' → M Bool
  | .nil, _ => .ret true
  | .cons a _, e => (evE a e).bnd truM
def evIt : It → Env' → M (List X × Grd)
  | .seq a, e => (evE a e).bnd fun x h => match itX x h with
    | some p => .ok p h
    | none => .bad
  | .rng es, e => (evEs es e).bnd fun xs h => match rngX xs with
    | some ys => .ok (ys, []) h
    | none => .bad
  | .zip es, e => (evEs es e).bnd fun xs h => match zipI xs h with
    | some p => .ok p h
    | none => .bad
  | .enm a, e => (evE a e).bnd fun x h => match enmI x h with
    | some p => .ok p h
    | none => .bad
  | .ezip _, _ => fun _ => .bad
def evTg : Tg → X → Env' → M Env'
  | .nm i, x, e => .ret (e.set i (some x))
  | .idx o i, x, e => (evE o e).bnd fun a => (evE i e).bnd fun k h => match setM a k x h with
    | some h' => .ok e h'
    | none => .bad
  | .fld o f, x, e => (evE o e).bnd fun a h => match a with
    | .ob l => match h[l]? with
      | some (.ins c fs) => match P.cl c with
        | some d => if d.flds.contains f && decide (fs.length < 999) then .ok e (h.set l (.ins c (setF f x fs))) else .bad
        | none => .bad
      | _ => .bad
    | _ => .bad
  | .tup ts, x, e => fun h => match unpX ts.len x h with
    | some xs => evTgs ts xs e h
    | none => .bad
def evTgs : Tgs → List X → Env' → M Env'
  | .nil, [], e => .ret e
  | .cons t ts, x :: xs, e => (evTg t x e).bnd fun e1 => evTgs ts xs e1
  | _, _, _ => fun _ => .bad
end
def setA (e : Env') : List Nat → List X → Option Env'
  | [], [] => some e
  | i :: is, x :: xs => (setA e is xs).map fun e1 => e1.set i (some x)
  | _, _ => none
mutual
def evS : S → Env' → M Fl
  | .expr a, e => (evE P cl a e).bnd fun _ => .ret (.nx e)
  | .asg t a, e => (evE P cl a e).bnd fun x => (evTg P cl t x e).bnd fun e1 => .ret (.nx e1)
  | .par is es, e => (evEs P cl es e).bnd fun xs h => match setA e is xs with
    | some e1 => .ok (.nx e1) h
    | none => .bad
  | .aug i o a, e => M.bnd (getV e i) fun x => (evE P cl a e).bnd fun y => M.bnd (augX o x y) fun z => .ret (.nx (e.set i (some z)))
  | .augf o f p a, e => (evE P cl o e).bnd fun b h => match fldX P b f h with
    | none => .bad
    | some x => (evE P cl a e h).bnd fun y => M.bnd (augX p x y) fun z h1 => match b with
      | .ob l => match h1[l]? with
        | some (.ins c fs) => if fs.length < 999 then .ok (.nx e) (h1.set l (.ins c (setF f z fs))) else .bad
        | _ => .bad
      | _ => .bad
  | .ret a, e => (evE P cl a e).bnd fun x => .ret (.rt x)
  | .retN, _ => .ret (.rt .non)
  | .ifs c a b, e => (evE P cl c e).bnd fun x => M.bnd (truM x) fun k => if k then evSs a e else evSs b e
  | .for t it b, e => (evIt P cl it e).bnd fun p => forL p.2 (fun x e0 => (evTg P cl t x e0).bnd fun e1 => evSs b e1) p.1 e
  | .whl c b, e => whlL (fun e0 => (evE P cl c e0).bnd truM) (fun e0 => evSs b e0) fuel e
  | .brk, e => .ret (.bk e)
  | .cnt, e => .ret (.ct e)
  | .pass, e => .ret (.nx e)
  | .never, _ => fun _ => .bad
def evSs : Ss → Env' → M Fl
  | .nil, e => .ret (.nx e)
  | .cons s ss, e => (evS s e).bnd fun f => match f with
    | .nx e1 => evSs ss e1
    | f => .ret f
end
end
/-- a def runs, all its arguments at hand -/
def runF (P : Pg) (cl : Cll) (d : FnD) (as : List X) (h : Hq) : R X :=
  if as.length = d.np then (evSs P cl d.body (as.map some ++ List.replicate (d.ns - d.np) none) h).bnd fun f h1 => match f with
    | .rt v => finX P d.frz h v h1
    | .nx _ => finX P d.frz h .non h1
    | _ => .bad
  else .bad
/-- calls n deep -/
def calls (P : Pg) : Nat → Cll
  | 0 => fun _ _ _ => .bad
  | n + 1 => fun f as => match P.fn f with
    | some d => runF P (calls P n) d as
    | none => fun _ => .bad
end HP

set_option linter.all false
set_option maxRecDepth 10000
/-! The evaluator, part C: the own syntax held against the text. -/
namespace HP
open PySem
/-- names by numbers -/
structure Tb where
  gcd : Bool
  fn : Nat → Str
  cl : Nat → Str
  cst : Nat → Str
  fld : Nat → Str
  /-- lambdas: the fields that each tells; the names of the def that they stand in -/
  lamF : Nat → Option (List Nat) := fun _ => none
  lamN : List Str := ["?"]
  /-- calls of classes by keywords -/
  kws : List (Nat × List Str × List Nat) := []
def L2s (xs : List String) : List Str := xs.map Str.ofString
def eqS (a b : Str) : Bool := decide (a = b)
def visB (sc : Scope) (x : Str) : Bool := match sc.names.lookup x with
  | some .local | some .cell | some .free => true
  | _ => false
def locB (sc : Scope) (x : Str) : Bool := match sc.names.lookup x with
  | some .local | some .cell => true
  | _ => false
def isLoc (sc : Scope) (x : Str) : Bool := match sc.names.lookup x with
  | some .local => true
  | _ => false
def isCel (sc : Scope) (x : Str) : Bool := match sc.names.lookup x with
  | some .cell => true
  | _ => false
def gloB (sc : Scope) (x : Str) : Bool := match sc.names.lookup x with
  | some .globalImplicit => true
  | _ => false
def okNm (x : Str) : Bool := !(x == ("__debug__" : Str)) && !(x == ("__classdict__" : Str))
def nmAt (N : List Str) (i : Nat) (x : Str) : Bool := match N[i]? with
  | some y => eqS y x
  | none => false
def isGlo (sc : Scope) (nm x : Str) : Bool := eqS nm x && gloB sc x && okNm x && decide (x.cps.size ≠ 0)
def opB : Op → Operator → Bool
  | .add, .Add | .sub, .Sub | .mul, .Mult | .fdiv, .FloorDiv | .mod, .Mod | .pow, .Pow => true
  | _, _ => false
def cpB : Cp → CmpOp → Bool
  | .eq, .Eq | .ne, .NotEq | .lt, .Lt | .le, .LtE | .gt, .Gt | .ge, .GtE | .is, .Is | .isnot, .IsNot | .isin, .In | .notin, .NotIn => true
  | _, _ => false
def Bi.name : Bi → Str
  | .len => "len" | .abs => "abs" | .int => "int" | .str => "str" | .repr => "repr" | .list => "list" | .tuple => "tuple" | .all => "all" | .any => "any"
  | .sum => "sum" | .sorted => "sorted" | .max => "max" | .min => "min" | .gcd => "gcd" | .dict => "dict"
def Bm.name : Bm → Str
  | .append => "append" | .extend => "extend" | .insert => "insert" | .pop => "pop" | .bitlen => "bit_length" | .get => "get" | .join => "join" | .split => "split" | .index => "index"
def Tk.name (T : Tb) : Tk → Str
  | .tint => "int" | .tbool => "bool" | .tstr => "str" | .tlist => "list" | .ttuple => "tuple" | .tnone => "NoneType" | .cls c => T.cl c
def plainB : Expr → Bool
  | .Starred .. | .Slice .. | .Set .. => false
  | _ => true
/-- not written out by a comprehension -/
def noComp : Expr → Bool
  | .ListComp .. | .SetComp .. | .DictComp .. => false
  | _ => true
def noTup : Expr → Bool
  | .Tuple .. | .List .. => false
  | _ => true
def isCall0 : Expr → Bool
  | .Call _ [] _ _ => true
  | _ => false
section
variable (T : Tb) (N : List Str)
def ownOf : List Nat → Option (List (Str × Nat))
  | [] => some []
  | i :: is => match N[i]?, ownOf is with
    | some x, some r => some ((x, i) :: r)
    | _, _ => none
def blkB (sc scope : Scope) (own : List Nat) : Bool := match ownOf N own with
  | some ow => L2.blkC N sc scope ow
  | none => false
def tkB (sc : Scope) (t : Tk) : Expr → Bool
  | .Name x _ => !decide (t = .tnone) && isGlo sc (t.name T) x
  | _ => false
def tksB (sc : Scope) : List Tk → List Expr → Bool
  | [], [] => true
  | t :: ts, e :: es => tkB T sc t e && tksB sc ts es
  | _, _ => false
def tkzB (sc : Scope) : List Tk → Expr → Bool
  | [t], .Name w p => tkB T sc t (.Name w p)
  | ts, .Tuple zs _ _ => tksB T sc ts zs && decide (2 ≤ ts.length) && decide (ts.length ≤ 99)
  | _, _ => false
def keysB : List Str → List (Option Expr) → Bool
  | [], [] => true
  | k :: ks, some (.Constant (.str x) _ _) :: es => eqS k x && keysB ks es
  | _, _ => false
/-- the fields that a lambda's body tells of its one parameter -/
def flB (fld : Nat → Str) : List Nat → List Expr → Bool
  | [], [] => true
  | f :: fs, .Attribute (.Name x _) n _ :: r => eqS (fld f) n && eqS x "one" && flB fld fs r
  | _, _ => false
def lamP : Arguments → Bool
  | ⟨[], [a], none, [], [], none, []⟩ => eqS a.arg "one"
  | _ => false
def lamS (sc : Scope) : Bool := decide (sc.kind = .function) && !sc.isCoroutine && !sc.isGenerator && isLoc sc "one" && sc.names.all fun y => !decide (y.2 = .free) && !decide (y.2 = .cell)
def lamB (f : Nat) (ps : Arguments) (sc : Scope) : Expr → Bool
  | .Tuple xs _ _ => match T.lamF f with
    | some fl => lamP ps && lamS sc && flB T.fld fl xs
    | none => false
  | _ => false
def kwB : List Str → List Keyword → Bool
  | [], [] => true
  | k :: ks, y :: r => decide (y.arg = some k) && kwB ks r
  | _, _ => false
mutual
def chE : E → Scope → Expr → Bool
  | .var i, sc, .Name x _ => nmAt N i x && visB sc x && okNm x
  | .non, _, .Constant .none _ _ => true
  | .bl b, _, .Constant (.bool c) _ _ => b == c
  | .int i, _, .Constant (.int j) _ _ => decide (i = j)
  | .str s, _, .Constant (.str z) _ _ => eqS s z
  | .cst k, sc, .Name x _ => isGlo sc (T.cst k) x
  | .tup es, sc, .Tuple xs _ _ => chEs es sc xs
  | .lst _ es, sc, .List xs _ => chEs es sc xs
  | .dct ks vs, sc, .Dict ys xs _ => keysB ks ys && chEs vs sc xs && !ks.isEmpty && decide (ks.length ≤ 15) && decide (ys.length = xs.length)
  | .bin _ o a b, sc, .BinOp x op y _ => opB o op && chE a sc x && chE b sc y
  | .neg a, sc, .UnaryOp .USub x _ => chE a sc x
  | .cmp o a b, sc, .Compare x [op] [y] _ => cpB o op && chE a sc x && chE b sc y && plainB y
  | .chn o p a b c, sc, .Compare x [op, oq] [y, z] _ => cpB o op && cpB p oq && chE a sc x && chE b sc y && chE c sc z && plainB y && plainB z
  | .and a b, sc, .BoolOp .And (x :: y :: r) pos => chE a sc x && (match r with | [] => chE b sc y | _ => chE b sc (.BoolOp .And (y :: r) pos))
  | .or a b, sc, .BoolOp .Or (x :: y :: r) pos => chE a sc x && (match r with | [] => chE b sc y | _ => chE b sc (.BoolOp .Or (y :: r) pos))
  | .not a, sc, .UnaryOp .Not x _ => chE a sc x
  | .ite c a b, sc, .IfExp z x y _ => chE c sc z && chE a sc x && chE b sc y
  | .idx a i, sc, .Subscript x y _ => plainB y && chE a sc x && chE i sc y
  | .slc _ a lo hi, sc, .Subscript x (.Slice l u none _) _ => chE a sc x && chO lo sc l && chO hi sc u
  | .fld a f, sc, .Attribute x n _ => eqS (T.fld f) n && !isCall0 x && chE a sc x
  | .call f es, sc, .Call (.Name x _) xs [] _ => isGlo sc (T.fn f) x && chEs es sc xs
  | .mk c es, sc, .Call (.Name x _) xs [] _ => isGlo sc (T.cl c) x && chEs es sc xs
  | .mth a m es, sc, .Call (.Attribute x n ap) xs [] pos => eqS (T.fld m) n && !isCall0 x && chE a sc x && chEs es sc xs && (ap.endLine == pos.line) && decide (xs.length < 29)
  | .isi a ts, sc, .Call (.Name x _) [y, z] [] _ => isGlo sc "isinstance" x && chE a sc y && plainB y && tkzB T sc ts z
  | .app i es, sc, .Call (.Name x _) xs [] _ => nmAt N i x && visB sc x && okNm x && chEs es sc xs && !xs.isEmpty
  | .fnv f, sc, .Name x _ => isGlo sc (T.fn f) x
  | .lam f, _, .Lambda ps body scope _ => decide (N = T.lamN) && lamB T f ps scope body
  | .mkk c ks pm es, sc, .Call (.Name x _) [] kws _ => isGlo sc (T.cl c) x && kwB ks kws && chEs es sc (kws.map (·.value)) && !kws.isEmpty && decide (pm.length = ks.length) && decide ((c, ks, pm) ∈ T.kws)
  | .bi _ b es, sc, .Call (.Name x _) xs [] _ => isGlo sc b.name x && chEs es sc xs && !xs.isEmpty && (!decide (b = .gcd) || T.gcd)
  | .bm _ b o es, sc, .Call (.Attribute x n ap) xs [] pos => eqS b.name n && !isCall0 x && chE o sc x && chEs es sc xs && (ap.endLine == pos.line) && decide (xs.length < 9)
  | .lrg _ es, sc, .Call (.Name x _) [.Call (.Name y _) xs [] _] [] _ => isGlo sc "list" x && isGlo sc "range" y && chEs es sc xs
  | .rev _ a, sc, .Subscript x (.Slice none none (some (.UnaryOp .USub (.Constant (.int 1) _ _) _)) _) _ => chE a sc x
  | .comp _ own el t it c, sc, .ListComp y [⟨tg, ie, ifs, 0⟩] scope _ => blkB N sc scope own && chIt it sc tg ie && chTg t scope (L2.relS scope sc) tg && chC c (L2.relS scope sc) ifs && chE el (L2.relS scope sc) y && t.slots.all (fun i => own.contains i)
  | _, _, _ => false
def chEs : Es → Scope → List Expr → Bool
  | .nil, _, [] => true
  | .cons e es, sc, x :: xs => chE e sc x && plainB x && chEs es sc xs
  | _, _, _ => false
def chO : Es → Scope → Option Expr → Bool
  | .nil, _, none => true
  | .cons e .nil, sc, some x => chE e sc x
  | _, _, _ => false
def chC : Es → Scope → List Expr → Bool
  | .nil, _, [] => true
  | .cons e .nil, sc, [x] => chE e sc x
  | _, _, _ => false
def chIt : It → Scope → Expr → Expr → Bool
  | .seq e, sc, _, x => chE e sc x && plainB x
  | .rng es, sc, _, .Call (.Name n _) xs [] _ => isGlo sc "range" n && chEs es sc xs
  | .zip es, sc, .Tuple .., .Call (.Name n _) xs [] _ => isGlo sc "zip" n && chEs es sc xs
  | .enm e, sc, .Tuple .., .Call (.Name n _) [x] [] _ => isGlo sc "enumerate" n && chE e sc x && plainB x
  | .ezip es, sc, .Tuple .., .Call (.Name n _) [.Call (.Name z _) xs [] _] [] _ => isGlo sc "enumerate" n && isGlo sc "zip" z && chEs es sc xs
  | _, _, _, _ => false
def chTg : Tg → Scope → Scope → Expr → Bool
  | .nm i, os, sc, .Name x _ => nmAt N i x && locB sc x && (isLoc sc x || isCel os x)
  | .idx o i, _, sc, .Subscript x y _ => plainB y && chE o sc x && chE i sc y
  | .fld o f, _, sc, .Attribute x n _ => eqS (T.fld f) n && chE o sc x
  | .tup ts, os, sc, .Tuple xs _ _ => chTgs ts os sc xs
  | _, _, _, _ => false
def chTgs : Tgs → Scope → Scope → List Expr → Bool
  | .nil, _, _, [] => true
  | .cons t ts, os, sc, x :: xs => chTg t os sc x && plainB x && chTgs ts os sc xs
  | _, _, _, _ => false
end
/-- names stored one beside the other -/
def parB (sc : Scope) (line : Nat) : List Nat → List Expr → Bool
  | [], [] => true
  | i :: is, .Name x p :: r => nmAt N i x && isLoc sc x && (p.line == line) && parB sc line is r
  | _, _ => false
def headLine : List Expr → Nat
  | x :: _ => x.pos.line
  | [] => 0
def noSD : Expr → Bool
  | .SetComp .. | .DictComp .. => false
  | _ => true
/-- a tuple's targets take its items as one tuple -/
def noSwap (sc : Scope) : Expr → Expr → Bool
  | .Tuple gs _ _, .Tuple xs _ _ => !(gs.length == 2 || gs.length == 3) || (gs.any fun t => match t with | .Name x _ => !isLoc sc x | _ => true) || xs.all (foldedForSure 8)
  | .List .., _ => false
  | _, _ => true
mutual
def chS : S → Scope → Stmt → Bool
  | .expr e, sc, .Expr x _ => chE T N e sc x && noComp x
  | .asg t e, sc, .Assign [g] x pos => chE T N e sc x && chTg T N t sc sc g && noSwap sc g x && noSD x
  | .par is es, sc, .Assign [.Tuple gs _ _] (.Tuple xs _ _) _ => chEs T N es sc xs && parB N sc (headLine gs) is gs && (decide (is.length = 2) || decide (is.length = 3)) && decide is.Nodup && !(xs.all (foldedForSure 8)) && !(xs.all (constantsAlone 8))
  | .aug i o e, sc, .AugAssign (.Name y _) op x _ => nmAt N i y && locB sc y && opB o op && chE T N e sc x
  | .ret e, sc, .Return (some x) _ => chE T N e sc x
  | .retN, _, .Return none _ => true
  | .ifs c a b, sc, .If x p q _ => chE T N c sc x && chSs a sc p && chSs b sc q
  | .for t it b, sc, .For g x p [] _ => chIt T N it sc g x && chTg T N t sc sc g && chSs b sc p
  | .whl c b, sc, .While x p [] _ => chE T N c sc x && chSs b sc p
  | .brk, _, .Break _ => true
  | .cnt, _, .Continue _ => true
  | .pass, _, .Pass _ => true
  | .never, _, _ => true
  | _, _, _ => false
def chSs : Ss → Scope → List Stmt → Bool
  | .nil, _, [] => true
  | .cons s ss, sc, x :: xs => chS s sc x && chSs ss sc xs
  | _, _, _ => false
end
end
end HP

set_option Elab.async false
set_option linter.all false
set_option maxRecDepth 10000
set_option maxHeartbeats 1000000
/-! The evaluator, part D: what its values stand for. -/
namespace HP
open PySem PySem.Spec PyProof.Rows L2
/-- where a program's classes and defs stand -/
structure Wd where
  K : PySem.W.Frag
  ca : Nat → Addr
  fa : Nat → Addr
  T : Tb
  P : Pg
  nf : Nat
  /-- things under way that no value of the evaluator is -/
  Z : List Addr
  /-- the table of the code objects of lambdas, how they are named -/
  tab : Option (Addr × Str)
  tabc : Option Addr
  inj : ∀ f g, f < nf → g < nf → T.fld f = T.fld g → f = g
def Off (W : Wd) (φ : List Addr) (a : Addr) : Prop := a ∉ φ ∧ a ∉ W.Z
def TupAt (W : Wd) (φ : List Addr) (H : Hp) (a : Addr) (vs : List V) : Prop := (Off W φ a ∧ Rd H a (.tup vs)) ∨ SqT W.K (fun _ => none) a vs
def LstAt (W : Wd) (φ : List Addr) (H : Hp) (a : Addr) (vs : List V) : Prop := Off W φ a ∧ H a = some (.lst vs)
def ScrAt (W : Wd) (φ : List Addr) (H : Hp) (a : Addr) (vs : List V) : Prop := (Off W φ a ∧ Rd H a (.lst vs)) ∨ SqL W.K (fun _ => none) a vs
theorem SqT.up {K : PySem.W.Frag} {H : Hp} {a : Addr} {vs : List V} (h : SqT K (fun _ => none) a vs) : SqT K H a vs := by
  rcases h with (h | ⟨o, h⟩) | h
  · cases h
  · cases h
  · exact .inr h
theorem SqL.up {K : PySem.W.Frag} {H : Hp} {a : Addr} {vs : List V} (h : SqL K (fun _ => none) a vs) : SqL K H a vs := by
  rcases h with (h | ⟨o, h⟩) | h
  · cases h
  · cases h
  · exact .inr h
theorem TupAt.sq {W : Wd} {φ : List Addr} {H : Hp} {a : Addr} {vs : List V} (h : TupAt W φ H a vs) : SqT W.K H a vs := h.elim (fun h => .inl h.2) SqT.up
theorem LstAt.sq {W : Wd} {φ : List Addr} {H : Hp} {a : Addr} {vs : List V} (h : LstAt W φ H a vs) : SqL W.K H a vs := .inl (.inl h.2)
theorem ScrAt.sq {W : Wd} {φ : List Addr} {H : Hp} {a : Addr} {vs : List V} (h : ScrAt W φ H a vs) : SqL W.K H a vs := h.elim (fun h => .inl h.2) SqL.up
/-- an instance that changes no more -/
def InsAt (W : Wd) (φ : List Addr) (H : Hp) (a : Addr) (c : Nat) (vs : List V) : Prop := Off W φ a ∧ ∃ dx fs d, H a = some (.ins (W.ca c) dx fs) ∧ W.P.cl c = some d ∧ fs.map (·.1) = d.flds.map W.T.fld ∧ fs.map (·.2) = vs ∧ d.flds.all (fun f => decide (f < W.nf)) = true
/-- a lambda -/
def LamO (W : Wd) (f : Nat) (a c : Addr) (q : Str) : HO := .ext fun h => ∃ params body scope pm ctv, h.get? a = some (PySem.W.kla_obj "<lambda>" q params body scope [] pm c ctv) ∧ lamB W.T f params scope body = true
def LamAt (W : Wd) (φ : List Addr) (H : Hp) (a : Addr) (f : Nat) : Prop := ∃ c q, (Off W φ a ∧ H a = some (LamO W f a c q)) ∧ Off W φ c ∧ H c = some (LamX.CodeO c q)
mutual
def Rep (W : Wd) (φ : List Addr) (H : Hp) : X → V → Prop
  | .non, v => v = .non
  | .bl b, v => v = .bl b
  | .int i, v => v = .int i
  | .str s, v => v = .str s
  | .tup xs, v => ∃ a vs, v = .ref a ∧ TupAt W φ H a vs ∧ Reps W φ H xs vs
  | .lst xs, v => ∃ a vs, v = .ref a ∧ LstAt W φ H a vs ∧ Reps W φ H xs vs
  | .ins c xs, v => ∃ a vs, v = .ref a ∧ InsAt W φ H a c vs ∧ Reps W φ H xs vs
  | .fn f, v => v = .ref (W.fa f)
  | .ob l, v => ∃ a, v = .ref a ∧ φ[l]? = some a
  | .scr xs, v => ∃ a vs, v = .ref a ∧ ScrAt W φ H a vs ∧ Reps W φ H xs vs
  | .lam f, v => ∃ a, v = .ref a ∧ LamAt W φ H a f
def Reps (W : Wd) (φ : List Addr) (H : Hp) : List X → List V → Prop
  | [], vs => vs = []
  | x :: xs, vs => ∃ v r, vs = v :: r ∧ Rep W φ H x v ∧ Reps W φ H xs r
end
theorem Reps.length {W : Wd} {φ : List Addr} {H : Hp} : ∀ {xs : List X} {vs : List V}, Reps W φ H xs vs → xs.length = vs.length
  | [], _, h => by cases h; rfl
  | _ :: _, _, ⟨_, _, e, _, h⟩ => by subst e; simp [Reps.length h]
theorem Reps.get {W : Wd} {φ : List Addr} {H : Hp} : ∀ {xs : List X} {vs : List V} {i : Nat} {x : X}, Reps W φ H xs vs → xs[i]? = some x → ∃ v, vs[i]? = some v ∧ Rep W φ H x v
  | [], _, _, _, _, e => by simp at e
  | y :: ys, _, 0, x, ⟨v, r, e, hv, _⟩, h => by
    subst e
    simp at h
    subst h
    exact ⟨v, rfl, hv⟩
  | y :: ys, _, i + 1, x, ⟨v, r, e, _, hr⟩, h => by
    subst e
    obtain ⟨w, h1, h2⟩ := Reps.get (i := i) hr (by simpa using h)
    exact ⟨w, by simpa using h1, h2⟩
theorem Reps.append {W : Wd} {φ : List Addr} {H : Hp} : ∀ {xs ys : List X} {vs us : List V}, Reps W φ H xs vs → Reps W φ H ys us → Reps W φ H (xs ++ ys) (vs ++ us)
  | [], _, _, _, h, k => by cases h; exact k
  | _ :: _, _, _, _, ⟨v, r, e, hv, hr⟩, k => by subst e; exact ⟨v, r ++ _, rfl, hv, Reps.append hr k⟩
theorem Reps.drop {W : Wd} {φ : List Addr} {H : Hp} : ∀ {xs : List X} {vs : List V} (n : Nat), Reps W φ H xs vs → Reps W φ H (xs.drop n) (vs.drop n)
  | _, _, 0, h => h
  | [], _, n + 1, h => by cases h; exact rfl
  | _ :: _, _, n + 1, ⟨v, r, e, _, hr⟩ => by subst e; exact Reps.drop n hr
theorem Reps.take {W : Wd} {φ : List Addr} {H : Hp} : ∀ {xs : List X} {vs : List V} (n : Nat), Reps W φ H xs vs → Reps W φ H (xs.take n) (vs.take n)
  | _, _, 0, h => by simp [Reps]
  | [], _, n + 1, h => by cases h; exact rfl
  | _ :: _, _, n + 1, ⟨v, r, e, hv, hr⟩ => by subst e; exact ⟨v, r.take n, rfl, hv, Reps.take n hr⟩
theorem Reps.set {W : Wd} {φ : List Addr} {H : Hp} {x : X} {v : V} (hx : Rep W φ H x v) : ∀ {xs : List X} {vs : List V} (n : Nat), Reps W φ H xs vs → Reps W φ H (xs.set n x) (vs.set n v)
  | [], _, n, h => by cases h; exact rfl
  | _ :: _, _, 0, ⟨u, r, e, _, hr⟩ => by subst e; exact ⟨v, r, rfl, hx, hr⟩
  | _ :: _, _, n + 1, ⟨u, r, e, hu, hr⟩ => by subst e; exact ⟨u, r.set n v, rfl, hu, Reps.set hx n hr⟩
theorem Reps.reverse {W : Wd} {φ : List Addr} {H : Hp} : ∀ {xs : List X} {vs : List V}, Reps W φ H xs vs → Reps W φ H xs.reverse vs.reverse
  | [], _, h => by cases h; exact rfl
  | _ :: _, _, ⟨v, r, e, hv, hr⟩ => by
    subst e
    rw [List.reverse_cons, List.reverse_cons]
    exact (Reps.reverse hr).append ⟨v, [], rfl, hv, rfl⟩
theorem Reps.none {W : Wd} {φ : List Addr} {H : Hp} {xs : List X} {vs : List V} {i : Nat} (h : Reps W φ H xs vs) (e : xs[i]? = none) : vs[i]? = none := by
  rw [List.getElem?_eq_none_iff] at e ⊢
  rw [← h.length]
  exact e

/-- what lies behind a step: the places grow by new ones; all that is not a place stays -/
structure Ext (φ φ' : List Addr) (H H' : Hp) : Prop where
  pre : φ <+: φ'
  new : ∀ a, a ∈ φ' → a ∉ φ → H a = none
  keep : ∀ a o, a ∉ φ → H a = some o → H' a = some o
theorem Ext.refl {φ : List Addr} {H : Hp} : Ext φ φ H H := ⟨List.prefix_refl _, fun _ h k => absurd h k, fun _ _ _ h => h⟩
theorem Ext.out {φ φ' : List Addr} {H H' : Hp} (e : Ext φ φ' H H') {a : Addr} {o : HO} (h : a ∉ φ) (k : H a = some o) : a ∉ φ' := fun z => by
  rw [e.new a z h] at k
  cases k
theorem Ext.trans {φ φ' φ2 : List Addr} {H H' H2 : Hp} (e : Ext φ φ' H H') (e2 : Ext φ' φ2 H' H2) : Ext φ φ2 H H2 := by
  refine ⟨e.pre.trans e2.pre, fun a h k => ?_, fun a o h k => e2.keep a o (e.out h k) (e.keep a o h k)⟩
  by_cases z : a ∈ φ'
  · exact e.new a z k
  · have q := e2.new a h z
    cases r : H a with
    | none => rfl
    | some o =>
      rw [e.keep a o k r] at q
      cases q
theorem Ext.fresh {φ : List Addr} {H : Hp} {p : Addr} {o : HO} (h : H p = none) : Ext φ φ H (upd H p o) := ⟨List.prefix_refl _, fun _ h k => absurd h k, fun a u _ k => by
  rw [upd_ne (ne_of_none k h)]
  exact k⟩
theorem Ext.write {φ : List Addr} {H : Hp} {p : Addr} {o : HO} (h : p ∈ φ) : Ext φ φ H (upd H p o) := ⟨List.prefix_refl _, fun _ h k => absurd h k, fun a u n k => by
  rw [upd_ne (fun z => n (by rw [z]; exact h))]
  exact k⟩
theorem Ext.place {φ : List Addr} {H : Hp} {p : Addr} {o : HO} (h : H p = none) : Ext φ (φ ++ [p]) H (upd H p o) := ⟨List.prefix_append _ _, fun a h1 k => by
  rcases List.mem_append.mp h1 with z | z
  · exact absurd z k
  · rw [List.mem_singleton.mp z]
    exact h, fun a u _ k => by
  rw [upd_ne (ne_of_none k h)]
  exact k⟩
theorem Ext.get {φ φ' : List Addr} {H H' : Hp} (e : Ext φ φ' H H') {l : Nat} {a : Addr} (h : φ[l]? = some a) : φ'[l]? = some a := by
  obtain ⟨t, rfl⟩ := e.pre
  rw [List.getElem?_append_left (List.getElem?_eq_some_iff.mp h).1]
  exact h
theorem Ext.off {W : Wd} {φ φ' : List Addr} {H H' : Hp} (e : Ext φ φ' H H') {a : Addr} {o : HO} (n : Off W φ a) (h : H a = some o) : Off W φ' a ∧ H' a = some o := ⟨⟨e.out n.1 h, n.2⟩, e.keep _ _ n.1 h⟩
theorem Ext.rd {W : Wd} {φ φ' : List Addr} {H H' : Hp} (e : Ext φ φ' H H') {a : Addr} {o : HO} (h : Off W φ a ∧ Rd H a o) : Off W φ' a ∧ Rd H' a o := by
  obtain ⟨n, h | ⟨ob, h⟩⟩ := h
  · exact ⟨(e.off n h).1, .inl (e.off n h).2⟩
  · exact ⟨(e.off n h).1, .inr ⟨ob, (e.off n h).2⟩⟩
section
variable {W : Wd} {φ φ' : List Addr} {H H' : Hp}
mutual
theorem Rep.ext (e : Ext φ φ' H H') : ∀ {x : X} {v : V}, Rep W φ H x v → Rep W φ' H' x v
  | .non, _, h => h
  | .bl _, _, h => h
  | .int _, _, h => h
  | .str _, _, h => h
  | .fn _, _, h => h
  | .tup xs, v, h => by
    obtain ⟨a, vs, e1, h1, h2⟩ := h
    exact ⟨a, vs, e1, h1.imp e.rd id, Reps.ext e h2⟩
  | .lst xs, v, h => by
    obtain ⟨a, vs, e1, ⟨n, h1⟩, h2⟩ := h
    exact ⟨a, vs, e1, e.off n h1, Reps.ext e h2⟩
  | .scr xs, v, h => by
    obtain ⟨a, vs, e1, h1, h2⟩ := h
    exact ⟨a, vs, e1, h1.imp e.rd id, Reps.ext e h2⟩
  | .ins c xs, v, h => by
    obtain ⟨a, vs, e1, ⟨n, dx, fs, d, k, r⟩, h2⟩ := h
    exact ⟨a, vs, e1, ⟨(e.off n k).1, dx, fs, d, (e.off n k).2, r⟩, Reps.ext e h2⟩
  | .ob l, v, h => by
    obtain ⟨a, e1, h1⟩ := h
    exact ⟨a, e1, e.get h1⟩
  | .lam f, v, h => by
    obtain ⟨a, e1, c, q, h1, h2⟩ := h
    exact ⟨a, e1, c, q, e.off h1.1 h1.2, e.off h2.1 h2.2⟩
theorem Reps.ext (e : Ext φ φ' H H') : ∀ {xs : List X} {vs : List V}, Reps W φ H xs vs → Reps W φ' H' xs vs
  | [], _, h => h
  | x :: xs, vs, h => by
    obtain ⟨v, r, e1, h1, h2⟩ := h
    exact ⟨v, r, e1, Rep.ext e h1, Reps.ext e h2⟩
end
end
/-- a dict's keys -/
def kX : X → Option Key
  | .int i => some (.inl i)
  | .str s => some (.inr s)
  | _ => none
def KRel (W : Wd) (φ : List Addr) (H : Hp) : List (X × X) → List (Key × V) → Prop
  | [], ks => ks = []
  | (k, x) :: r, ks => ∃ q v s, ks = (q, v) :: s ∧ kX k = some q ∧ Rep W φ H x v ∧ KRel W φ H r s
def ORel (W : Wd) (φ : List Addr) (H : Hp) : O → Option HO → Prop
  | .lst xs, ho => ∃ vs, ho = some (.lst vs) ∧ Reps W φ H xs vs
  | .dct kvs, ho => ∃ ks, ho = some (.dK ks) ∧ KRel W φ H kvs ks
  | .tbl, ho => ∃ ps, ho = some (.tbl ps) ∧ TriplesOk ps.toList ∧ ∀ (pos : Pos) (cv : Value), codeAmong pos ps.toList = some cv → ∃ c P q, cv = .ref c ∧ W.tab = some (P, q) ∧ Off W φ c ∧ H c = some (LamX.CodeO c q)
  | .ins c fs, ho => ∃ dx gs, ho = some (.ins (W.ca c) dx gs) ∧ gs.map (·.1) = fs.map (fun p => W.T.fld p.1) ∧ Reps W φ H (fs.map (·.2)) (gs.map (·.2)) ∧ ∃ d, W.P.cl c = some d ∧ ∀ p ∈ fs, p.1 < W.nf ∧ p.1 ∈ d.flds
structure Rel (W : Wd) (φ : List Addr) (h : Hq) (H : Hp) : Prop where
  len : φ.length = h.length
  nd : φ.Nodup
  zz : ∀ z ∈ W.Z, H z ≠ none ∧ z ∉ φ
  at_ : ∀ (l : Nat) (o : O), h[l]? = some o → ∃ a, φ[l]? = some a ∧ ORel W φ H o (H a)
  tb : ∀ P q, W.tab = some (P, q) → φ[0]? = some P
section
variable {W : Wd} {φ φ' : List Addr} {H H' : Hp} {h : Hq}
theorem KRel.ext (e : Ext φ φ' H H') : ∀ {ks : List (X × X)} {vs : List (Key × V)}, KRel W φ H ks vs → KRel W φ' H' ks vs
  | [], _, h => h
  | (k, x) :: r, vs, h => by
    obtain ⟨q, v, s, e1, e2, h1, h2⟩ := h
    exact ⟨q, v, s, e1, e2, h1.ext e, KRel.ext e h2⟩
theorem ORel.ext (e : Ext φ φ' H H') {o : O} {ho : Option HO} (h : ORel W φ H o ho) : ORel W φ' H' o ho := by
  cases o with
  | lst xs =>
    obtain ⟨vs, e1, h1⟩ := h
    exact ⟨vs, e1, h1.ext e⟩
  | dct kvs =>
    obtain ⟨vs, e1, h1⟩ := h
    exact ⟨vs, e1, h1.ext e⟩
  | ins c fs =>
    obtain ⟨dx, gs, e1, e2, h1, h2⟩ := h
    exact ⟨dx, gs, e1, e2, h1.ext e, h2⟩
  | tbl =>
    obtain ⟨ps, e1, h1, h2⟩ := h
    refine ⟨ps, e1, h1, fun pos cv k => ?_⟩
    obtain ⟨c, P, q, e2, e3, h3, h4⟩ := h2 pos cv k
    exact ⟨c, P, q, e2, e3, (e.off h3 h4).1, (e.off h3 h4).2⟩
theorem ORel.there {o : O} {ho : Option HO} (h : ORel W φ H o ho) : ho ≠ none := by
  cases o with
  | lst xs =>
    obtain ⟨vs, e1, h1⟩ := h
    rw [e1]; simp
  | dct kvs =>
    obtain ⟨vs, e1, h1⟩ := h
    rw [e1]; simp
  | ins c fs =>
    obtain ⟨dx, gs, e1, e2, h1, h2⟩ := h
    rw [e1]; simp
  | tbl =>
    obtain ⟨ps, e1, h1, h2⟩ := h
    rw [e1]; simp
theorem Rel.there (R : Rel W φ h H) {a : Addr} (m : a ∈ φ) : H a ≠ none := by
  obtain ⟨l, e⟩ := List.mem_iff_getElem?.mp m
  have hl : l < h.length := by rw [← R.len]; exact (List.getElem?_eq_some_iff.mp e).1
  obtain ⟨a', e', r⟩ := R.at_ l h[l] (List.getElem?_eq_getElem hl)
  rw [e] at e'
  cases e'
  exact r.there
theorem Rel.off (R : Rel W φ h H) {p : Addr} (hp : H p = none) : Off W φ p := ⟨fun z => R.there z hp, fun z => (R.zz p z).1 hp⟩
/-- a thing more that is no place -/
theorem Rel.fresh (R : Rel W φ h H) {p : Addr} {o : HO} (hp : H p = none) : Rel W φ h (upd H p o) := by
  refine ⟨R.len, R.nd, fun z hz => ⟨by rw [upd_ne (show z ≠ p from fun q => (R.zz z hz).1 (q ▸ hp))]; exact (R.zz z hz).1, (R.zz z hz).2⟩, fun l u e => ?_, R.tb⟩
  obtain ⟨a, e1, r⟩ := R.at_ l u e
  have ne : a ≠ p := fun z => R.there (List.mem_of_getElem? e1) (by rw [z]; exact hp)
  exact ⟨a, e1, by rw [upd_ne ne]; exact r.ext (.fresh hp)⟩
/-- a place more -/
theorem Rel.place (R : Rel W φ h H) {p : Addr} {ho : HO} {o : O} (hp : H p = none) (ho' : ORel W (φ ++ [p]) (upd H p ho) o (some ho)) : Rel W (φ ++ [p]) (h ++ [o]) (upd H p ho) := by
  have np : p ∉ φ := fun z => R.there z hp
  refine ⟨by simp [R.len], ?_, fun z hz => ?_, fun l u e => ?_, fun P q e => (Ext.place (o := ho) hp).get (R.tb P q e)⟩
  · rw [List.nodup_append]
    exact ⟨R.nd, by simp, fun a h1 b h2 => by rw [List.mem_singleton.mp h2]; exact fun z => np (z ▸ h1)⟩
  · have ne : z ≠ p := fun q => (R.zz z hz).1 (q ▸ hp)
    refine ⟨by rw [upd_ne ne]; exact (R.zz z hz).1, fun q => ?_⟩
    rcases List.mem_append.mp q with q | q
    · exact (R.zz z hz).2 q
    · exact ne (List.mem_singleton.mp q)
  · by_cases hl : l < h.length
    · rw [List.getElem?_append_left hl] at e
      obtain ⟨a, e1, r⟩ := R.at_ l u e
      have ne : a ≠ p := fun z => np (z ▸ List.mem_of_getElem? e1)
      exact ⟨a, (Ext.place (o := ho) hp).get e1, by rw [upd_ne ne]; exact r.ext (.place hp)⟩
    · have hl2 : l = h.length := by
        have := (List.getElem?_eq_some_iff.mp e).1
        simp at this
        omega
      subst hl2
      rw [List.getElem?_append_right (Nat.le_refl _)] at e
      simp at e
      subst e
      refine ⟨p, ?_, by rw [upd_same]; exact ho'⟩
      rw [← R.len, List.getElem?_append_right (Nat.le_refl _)]
      simp
/-- a place changes -/
theorem Rel.write (R : Rel W φ h H) {l : Nat} {p : Addr} {ho : HO} {o : O} (hp : φ[l]? = some p) (ho' : ORel W φ (upd H p ho) o (some ho)) : Rel W φ (h.set l o) (upd H p ho) := by
  have mp : p ∈ φ := List.mem_of_getElem? hp
  refine ⟨by simp [R.len], R.nd, fun z hz => ⟨by rw [upd_ne (show z ≠ p from fun q => (R.zz z hz).2 (q ▸ mp))]; exact (R.zz z hz).1, (R.zz z hz).2⟩, fun m u e => ?_, R.tb⟩
  by_cases hm : m = l
  · subst hm
    have hl : m < h.length := by rw [← R.len]; exact (List.getElem?_eq_some_iff.mp hp).1
    rw [List.getElem?_set_self hl] at e
    cases e
    exact ⟨p, hp, by rw [upd_same]; exact ho'⟩
  · rw [List.getElem?_set_ne (Ne.symm hm)] at e
    obtain ⟨a, e1, r⟩ := R.at_ m u e
    have ne : a ≠ p := fun z => by
      subst z
      obtain ⟨h1, q1⟩ := List.getElem?_eq_some_iff.mp e1
      obtain ⟨h2, q2⟩ := List.getElem?_eq_some_iff.mp hp
      exact hm ((List.getElem_inj R.nd).mp (q1.trans q2.symm))
    exact ⟨a, e1, by rw [upd_ne ne]; exact r.ext (.write mp)⟩
theorem Rel.ob (R : Rel W φ h H) {l : Nat} {v : V} {o : O} (r : Rep W φ H (.ob l) v) (e : h[l]? = some o) : ∃ a, v = .ref a ∧ φ[l]? = some a ∧ ORel W φ H o (H a) := by
  obtain ⟨a, e1, e2⟩ := r
  obtain ⟨b, e3, q⟩ := R.at_ l o e
  rw [e2] at e3
  cases e3
  exact ⟨a, e1, e2, q⟩
end
/-- the slots -/
structure ERel (W : Wd) (φ : List Addr) (H : Hp) (e : Env') (σ : List (Option V)) : Prop where
  len : e.length = σ.length
  at_ : ∀ (i : Nat) (x : X), e[i]? = some (some x) → ∃ v, σ[i]? = some (some v) ∧ Rep W φ H x v
section
variable {W : Wd} {φ φ' : List Addr} {H H' : Hp} {h : Hq} {e : Env'} {σ : List (Option V)}
theorem ERel.ext (R : ERel W φ H e σ) (x : Ext φ φ' H H') : ERel W φ' H' e σ := ⟨R.len, fun i y q => let ⟨v, h1, h2⟩ := R.at_ i y q; ⟨v, h1, h2.ext x⟩⟩
theorem ERel.set (R : ERel W φ H e σ) {i : Nat} {x : X} {v : V} (r : Rep W φ H x v) : ERel W φ H (e.set i (some x)) (σ.set i (some v)) := by
  refine ⟨by simp [R.len], fun j y q => ?_⟩
  by_cases hj : j = i
  · subst hj
    have hl : j < e.length := by have := (List.getElem?_eq_some_iff.mp q).1; simpa using this
    rw [List.getElem?_set_self hl] at q
    cases q
    exact ⟨v, List.getElem?_set_self (by rw [← R.len]; exact hl), r⟩
  · rw [List.getElem?_set_ne (Ne.symm hj)] at q
    rw [List.getElem?_set_ne (Ne.symm hj)]
    exact R.at_ j y q
theorem ERel.unset (R : ERel W φ H e σ) {i : Nat} : ERel W φ H (e.set i none) (σ.set i none) := by
  refine ⟨by simp [R.len], fun j y q => ?_⟩
  by_cases hj : j = i
  · subst hj
    have hl : j < e.length := by have := (List.getElem?_eq_some_iff.mp q).1; simpa using this
    rw [List.getElem?_set_self hl] at q
    cases q
  · rw [List.getElem?_set_ne (Ne.symm hj)] at q
    rw [List.getElem?_set_ne (Ne.symm hj)]
    exact R.at_ j y q
theorem ERel.wipe (R : ERel W φ H e σ) : ∀ (is : List Nat), ERel W φ H (wipX e is) (L2.wipe σ is)
  | [] => R
  | i :: is => (ERel.wipe R is).unset
end
end HP

set_option Elab.async false
set_option linter.all false
set_option maxRecDepth 10000
set_option maxHeartbeats 1000000
/-! The evaluator, part E: its outcomes as readings; composition. -/
namespace HP
open PySem PySem.Spec PyProof.Rows L2
theorem bnd_eq {α β : Type} {r : R α} {f : α → M β} {b : β} {h : Hq} (e : r.bnd f = .ok b h) : ∃ a h1, r = .ok a h1 ∧ f a h1 = .ok b h := by
  cases r with
  | ok a h1 => exact ⟨a, h1, rfl, e⟩
  | exc c fs h1 => cases e
  | bad => cases e
/-- what is wanted behind -/
def Aft (W : Wd) (φ : List Addr) (H : Hp) (x : X) (h' : Hq) (Q : VK) : Prop := ∀ φ' H' v, Ext φ φ' H H' → Rel W φ' h' H' → Rep W φ' H' x v → Q v H'
def AftL (W : Wd) (φ : List Addr) (H : Hp) (xs : List X) (h' : Hq) (Q : List V → Hp → Prop) : Prop := ∀ φ' H' vs, Ext φ φ' H H' → Rel W φ' h' H' → Reps W φ' H' xs vs → Q vs H'
def AftB (W : Wd) (φ : List Addr) (H : Hp) (b : Bool) (h' : Hq) (Q : Bool → Hp → Prop) : Prop := ∀ φ' H', Ext φ φ' H H' → Rel W φ' h' H' → Q b H'
abbrev SlotL := List (Option V)
def tE (W : Wd) (m : Env' → M X) : TE := fun σ H Q => ∃ φ e h x h', ERel W φ H e σ ∧ Rel W φ h H ∧ m e h = .ok x h' ∧ Aft W φ H x h' Q
def tL (W : Wd) (m : Env' → M (List X)) : TA := fun σ H Q => ∃ φ e h x h', ERel W φ H e σ ∧ Rel W φ h H ∧ m e h = .ok x h' ∧ AftL W φ H x h' Q
def tT (W : Wd) (m : Env' → M Bool) : TT := fun σ H Q => ∃ φ e h x h', ERel W φ H e σ ∧ Rel W φ h H ∧ m e h = .ok x h' ∧ AftB W φ H x h' Q
/-- by values -/
def vU (W : Wd) (g : X → M X) : V → Hp → VK → Prop := fun v H Q => ∃ φ h x z h', Rep W φ H x v ∧ Rel W φ h H ∧ g x h = .ok z h' ∧ Aft W φ H z h' Q
def vB (W : Wd) (g : X → X → M X) : R2 := fun v u H Q => ∃ φ h x y z h', Rep W φ H x v ∧ Rep W φ H y u ∧ Rel W φ h H ∧ g x y h = .ok z h' ∧ Aft W φ H z h' Q
def vC (W : Wd) (g : List X → M X) : List V → Hp → VK → Prop := fun vs H Q => ∃ φ h xs z h', Reps W φ H xs vs ∧ Rel W φ h H ∧ g xs h = .ok z h' ∧ Aft W φ H z h' Q
def vM (W : Wd) (g : X → List X → M X) : V → List V → Hp → VK → Prop := fun v vs H Q => ∃ φ h x xs z h', Rep W φ H x v ∧ Reps W φ H xs vs ∧ Rel W φ h H ∧ g x xs h = .ok z h' ∧ Aft W φ H z h' Q
def vT (W : Wd) : V → Hp → (Bool → Hp → Prop) → Prop := fun v H Q => ∃ φ h x b, Rep W φ H x v ∧ Rel W φ h H ∧ truX x h = some b ∧ AftB W φ H b h Q
section
variable {W : Wd} {φ : List Addr} {H : Hp} {h h' : Hq} {x y : X} {v : V} {Q : VK}
theorem rep_int {i : Int} : Rep W φ H (.int i) (.int i) := by unfold Rep; rfl
theorem rep_str {i : Str} : Rep W φ H (.str i) (.str i) := by unfold Rep; rfl
theorem rep_bl {i : Bool} : Rep W φ H (.bl i) (.bl i) := by unfold Rep; rfl
theorem rep_non : Rep W φ H .non .non := by unfold Rep; rfl
theorem Aft.here (R : Rel W φ h H) (r : Rep W φ H x v) (a : Aft W φ H x h Q) : Q v H := a φ H v .refl R r
/-- a fresh tuple -/
theorem Aft.tup {xs : List X} {vs : List V} (R : Rel W φ h H) (r : Reps W φ H xs vs) (a : Aft W φ H (.tup xs) h Q) : ∀ p, H p = none → Q (.ref p) (upd H p (.tup vs)) := fun p hp =>
  a φ _ _ (.fresh hp) (R.fresh hp) ⟨p, vs, rfl, .inl ⟨R.off hp, .inl upd_same⟩, r.ext (.fresh hp)⟩
/-- a fresh list -/
theorem Aft.newL {m : Bool} {xs : List X} {vs : List V} (R : Rel W φ h H) (r : Reps W φ H xs vs) (e : newL m xs h = .ok x h') (a : Aft W φ H x h' Q) : vs.length ≤ sizeLine ∧ ∀ p, H p = none → Q (.ref p) (upd H p (.lst vs)) := by
  unfold HP.newL at e
  split at e
  · rename_i hs
    refine ⟨by rw [← r.length]; simpa [szSeq, sizeLine_eq] using hs, fun p hp => ?_⟩
    cases m with
    | true =>
      cases e
      exact a _ _ _ (.place hp) (R.place hp ⟨vs, rfl, r.ext (.place hp)⟩) ⟨p, rfl, by rw [← R.len, List.getElem?_append_right (Nat.le_refl _)]; simp⟩
    | false =>
      cases e
      exact a φ _ _ (.fresh hp) (R.fresh hp) ⟨p, vs, rfl, ⟨R.off hp, upd_same⟩, r.ext (.fresh hp)⟩
  · cases e
end
theorem szSeq_le {n : Nat} (h : szSeq n = true) : n ≤ sizeLine := by simpa [szSeq, sizeLine_eq] using h
/-! ### composition -/
section
variable {W : Wd} {σ : SlotL} {H : Hp} {Q : VK}
theorem tE_un {ma : Env' → M X} {g : X → M X} (k : tE W (fun e => (ma e).bnd g) σ H Q) : tE W ma σ H fun v H1 => vU W g v H1 Q := by
  obtain ⟨φ, e, h, x, h', E, R, q, a⟩ := k
  obtain ⟨y, h1, q1, q2⟩ := bnd_eq q
  exact ⟨φ, e, h, y, h1, E, R, q1, fun φ' H' v x' R' r => ⟨φ', h1, y, x, h', r, R', q2, fun φ2 H2 u x2 R2 r2 => a φ2 H2 u (x'.trans x2) R2 r2⟩⟩
theorem tE_bin {ma mb : Env' → M X} {g : X → X → M X} (k : tE W (fun e => (ma e).bnd fun x => (mb e).bnd fun y => g x y) σ H Q) : tOp (vB W g) (tE W ma) (tE W mb) σ H Q := by
  obtain ⟨φ, e, h, z, h', E, R, q, a⟩ := k
  obtain ⟨x, h1, q1, q2⟩ := bnd_eq q
  obtain ⟨y, h2, q3, q4⟩ := bnd_eq q2
  refine ⟨φ, e, h, x, h1, E, R, q1, fun φ' H' v x' R' r => ⟨φ', e, h1, y, h2, E.ext x', R', q3, fun φ2 H2 u x2 R2 r2 => ?_⟩⟩
  exact ⟨φ2, h2, x, y, z, h', r.ext x2, r2, R2, q4, fun φ3 H3 w x3 R3 r3 => a φ3 H3 w ((x'.trans x2).trans x3) R3 r3⟩
theorem tE_call {ml : Env' → M (List X)} {g : List X → M X} (k : tE W (fun e => (ml e).bnd g) σ H Q) : tL W ml σ H fun vs H1 => vC W g vs H1 Q := by
  obtain ⟨φ, e, h, x, h', E, R, q, a⟩ := k
  obtain ⟨y, h1, q1, q2⟩ := bnd_eq q
  exact ⟨φ, e, h, y, h1, E, R, q1, fun φ' H' v x' R' r => ⟨φ', h1, y, x, h', r, R', q2, fun φ2 H2 u x2 R2 r2 => a φ2 H2 u (x'.trans x2) R2 r2⟩⟩
theorem tE_meth {mo : Env' → M X} {ml : Env' → M (List X)} {g : X → List X → M X} (k : tE W (fun e => (mo e).bnd fun x => (ml e).bnd (g x)) σ H Q) : tE W mo σ H fun v H1 => tL W ml σ H1 fun vs H2 => vM W g v vs H2 Q := by
  obtain ⟨φ, e, h, z, h', E, R, q, a⟩ := k
  obtain ⟨x, h1, q1, q2⟩ := bnd_eq q
  obtain ⟨y, h2, q3, q4⟩ := bnd_eq q2
  refine ⟨φ, e, h, x, h1, E, R, q1, fun φ' H' v x' R' r => ⟨φ', e, h1, y, h2, E.ext x', R', q3, fun φ2 H2 u x2 R2 r2 => ?_⟩⟩
  exact ⟨φ2, h2, x, y, z, h', r.ext x2, r2, R2, q4, fun φ3 H3 w x3 R3 r3 => a φ3 H3 w ((x'.trans x2).trans x3) R3 r3⟩
theorem tL_cons {ma : Env' → M X} {ml : Env' → M (List X)} {Q : List V → Hp → Prop} (k : tL W (fun e => (ma e).bnd fun x => (ml e).bnd fun xs => .ret (x :: xs)) σ H Q) : tCons (tE W ma) (tL W ml) σ H Q := by
  obtain ⟨φ, e, h, z, h', E, R, q, a⟩ := k
  obtain ⟨x, h1, q1, q2⟩ := bnd_eq q
  obtain ⟨y, h2, q3, q4⟩ := bnd_eq q2
  cases q4
  refine ⟨φ, e, h, x, h1, E, R, q1, fun φ' H' v x' R' r => ⟨φ', e, h1, y, h', E.ext x', R', q3, fun φ2 H2 u x2 R2 r2 => ?_⟩⟩
  exact a φ2 H2 _ (x'.trans x2) R2 ⟨v, u, rfl, r.ext x2, r2⟩
theorem tL_nil {Q : List V → Hp → Prop} (k : tL W (fun _ => .ret []) σ H Q) : tNil σ H Q := by
  obtain ⟨φ, e, h, z, h', E, R, q, a⟩ := k
  cases q
  exact a φ H [] .refl R rfl
/-- a test of a value -/
theorem tT_tru {ma : Env' → M X} {Q : Bool → Hp → Prop} (k : tT W (fun e => (ma e).bnd truM) σ H Q) : tE W ma σ H fun v H1 => vT W v H1 Q := by
  obtain ⟨φ, e, h, x, h', E, R, q, a⟩ := k
  obtain ⟨y, h1, q1, q2⟩ := bnd_eq q
  unfold truM at q2
  split at q2
  · rename_i b hb
    cases q2
    exact ⟨φ, e, h, y, h', E, R, q1, fun φ' H' v x' R' r => ⟨φ', h', y, _, r, R', hb, fun φ2 H2 x2 R2 => a φ2 H2 (x'.trans x2) R2⟩⟩
  · cases q2
end
section
variable {C : Cx}
theorem PE.imp {e : Expr} {t t' : TE} (p : PE C e t) (k : ∀ σ H Q, t' σ H Q → t σ H Q) : PE C e t' := ⟨fun pins s σ H Q I q => p.run pins s σ H Q I (k σ H Q q)⟩
theorem PT.imp {e : Expr} {t t' : TT} (p : PT C e t) (k : ∀ σ H Q, t' σ H Q → t σ H Q) : PT C e t' := ⟨fun pins s σ H Q I q => p.run pins s σ H Q I (k σ H Q q)⟩
theorem PA.imp {es : List Expr} {t t' : TA} (p : PA C es t) (k : ∀ σ H Q, t' σ H Q → t σ H Q) : PA C es t' := ⟨fun pos pins s σ H Q I q => p.run pos pins s σ H Q I (k σ H Q q)⟩
theorem OpR.imp {f : Value → Value → Sem Value} {r r' : R2} (p : OpR C f r) (k : ∀ x y H Q, r' x y H Q → r x y H Q) : OpR C f r' := fun pins s σ H x y v u Q I rx ry q => p pins s σ H x y v u Q I rx ry (k _ _ _ _ q)
theorem CallR.imp {f : Value} {r r' : List V → Hp → VK → Prop} (p : CallR C f r) (k : ∀ xs H Q, r' xs H Q → r xs H Q) : CallR C f r' := fun pins s σ H xs us Q I rx q => p pins s σ H xs us Q I rx (k _ _ _ q)
theorem IxR.imp {r r' : R2} (p : IxR C r) (k : ∀ x y H Q, r' x y H Q → r x y H Q) : IxR C r' := fun a b pins s σ H x y v u Q I rx ry q hs => p a b pins s σ H x y v u Q I rx ry (k _ _ _ _ q) hs
theorem star_plain {x : Expr} {xs : List Expr} {env : Env} (h : plainB x = true) : starEach (x :: xs) env = (false, eval x env) :: starEach xs env := by
  cases x <;> first | rfl | cases h
theorem any_star {xs : List Expr} {env : Env} (h : xs.all plainB = true) : (starEach xs env).any (fun p => p.1) = false := by
  induction xs with
  | nil => rfl
  | cons x xs ih =>
    simp only [List.all_cons, Bool.and_eq_true] at h
    rw [star_plain h.1, List.any_cons, ih h.2]
    rfl
theorem any_plain {xs : List Expr} {env : Env} (pos : Pos) (h : xs.all plainB = true) : (backTo pos (starEach xs env)).any (·.1) = false := by
  unfold backTo
  rw [List.any_map]
  exact any_star h
end
end HP

set_option Elab.async false
set_option linter.all false
set_option maxRecDepth 10000
set_option maxHeartbeats 1000000
/-! The evaluator, part F: operations by values. -/
namespace HP
open PySem PySem.Spec PyProof.Rows L2
section
variable {W : Wd} {C : Cx}
theorem rep_tup {φ : List Addr} {H : Hp} {xs : List X} {v : V} (r : Rep W φ H (.tup xs) v) : ∃ a vs, v = .ref a ∧ SqT W.K H a vs ∧ Reps W φ H xs vs := by
  obtain ⟨a, vs, e, h1, h2⟩ := r
  exact ⟨a, vs, e, h1.sq, h2⟩
/-- a list: a value or an object -/
theorem rep_lst {φ : List Addr} {h : Hq} {H : Hp} {x : X} {xs : List X} {v : V} (R : Rel W φ h H) (r : Rep W φ H x v) (e : lstX x h = some xs) : ∃ a vs, v = .ref a ∧ H a = some (.lst vs) ∧ Reps W φ H xs vs := by
  unfold lstX at e
  split at e
  · cases e
    obtain ⟨a, vs, e, h1, h2⟩ := r
    exact ⟨a, vs, e, h1.2, h2⟩
  · split at e
    · rename_i hl
      cases e
      obtain ⟨a, e1, e2, vs, e3, q⟩ := R.ob r hl
      exact ⟨a, vs, e1, e3, q⟩
    · cases e
  · cases e
/-- a sequence -/
theorem rep_seq {φ : List Addr} {h : Hq} {H : Hp} {x : X} {xs : List X} {v : V} (R : Rel W φ h H) (r : Rep W φ H x v) (e : seqX x h = some xs) : ∃ a vs, v = .ref a ∧ (SqL W.K H a vs ∨ SqT W.K H a vs) ∧ Reps W φ H xs vs := by
  unfold seqX at e
  split at e
  · cases e
    obtain ⟨a, vs, e, h1, h2⟩ := r
    exact ⟨a, vs, e, .inr h1.sq, h2⟩
  · cases e
    obtain ⟨a, vs, e, h1, h2⟩ := r
    exact ⟨a, vs, e, .inl (.inl (.inl h1.2)), h2⟩
  · cases e
    obtain ⟨a, vs, e, h1, h2⟩ := r
    exact ⟨a, vs, e, .inl h1.sq, h2⟩
  · split at e
    · rename_i hl
      cases e
      obtain ⟨a, e1, e2, vs, e3, q⟩ := R.ob r hl
      exact ⟨a, vs, e1, .inl (.inl (.inl e3)), q⟩
    · cases e
  · cases e
theorem op_fdivG : OpR C (binaryOp .FloorDiv) (rI (fun _ j => j ≠ 0 ∧ j.natAbs.log2 < 9000) fun i j => .int (i.fdiv j)) :=
  opI fun _ _ _ _ _ _ _ hc q => floordiv_int hc.1 q (.inl (PyProof.noPylong_of_log2 hc.2))
theorem op_mulG : OpR C (binaryOp .Mult) (rI (fun i j => szMul i j = true) fun i j => .int (i * j)) :=
  opI fun i j _ _ _ _ _ hc q => mul_int q (by
    have hz : i.natAbs.log2 + j.natAbs.log2 < 130000000 := of_decide_eq_true hc
    have b1 : Builtin.Int.intBits i ≤ i.natAbs.log2 + 1 := by unfold Builtin.Int.intBits; split <;> omega
    have b2 : Builtin.Int.intBits j ≤ j.natAbs.log2 + 1 := by unfold Builtin.Int.intBits; split <;> omega
    exact PyProof.Rows.mulOk_of_bits (m := i.natAbs.log2 + 1) (n := j.natAbs.log2 + 1) b1 b2 (by omega))
theorem reps_flat {φ : List Addr} {H : Hp} {xs : List X} {vs : List V} (r : Reps W φ H xs vs) : ∀ n : Nat, Reps W φ H (List.replicate n xs).flatten (List.replicate n vs).flatten
  | 0 => rfl
  | n + 1 => by
    rw [List.replicate_succ, List.replicate_succ, List.flatten_cons, List.flatten_cons]
    exact r.append (reps_flat r n)
/-- a tuple once: itself -/
theorem op_binX (hK : C.K = W.K) {m : Bool} {o : Op} {op : Operator} (ho : opB o op = true) (h1 : OpR C (binaryOp .Mult) (fun x y H Q => ∃ l xs, x = .ref l ∧ y = .int 1 ∧ SqT C.K H l xs ∧ Q (.ref l) H)) : OpR C (binaryOp op) (vB W (binX m o)) := by
  intro pins s σ H v u vv uu Q I rv ru k
  obtain ⟨φ, h, x, y, z, h', rx, ry, R, e, a⟩ := k
  have hKe := hK
  cases o <;> cases op <;> first | (exact absurd ho (by decide)) | skip
  · -- add
    have e : addX m x y h = HP.R.ok z h' := e
    unfold addX at e
    split at e <;> first | (cases e; done) | skip
    · cases e
      cases rx
      cases ry
      exact op_add pins s σ H _ _ vv uu Q I rv ru ⟨_, _, rfl, rfl, a.here R rep_int⟩
    · split at e
      · rename_i hz
        cases e
        cases rx
        cases ry
        exact op_add_str pins s σ H _ _ vv uu Q I rv ru ⟨_, _, rfl, rfl, szSeq_le hz, a.here R rep_str⟩
      · cases e
    · split at e
      · rename_i hz
        cases e
        obtain ⟨p, vs, rfl, t1, q1⟩ := rep_tup rx
        obtain ⟨p2, vs2, rfl, t2, q2⟩ := rep_tup ry
        rw [← hK] at t1 t2
        refine op_catA pins s σ H _ _ vv uu Q I rv ru ⟨p, p2, vs, vs2, rfl, rfl, t1, t2, ?_, fun e => ?_, fun _ e => ?_, fun _ _ => a.tup R (q1.append q2)⟩
        · rw [← q1.length, ← q2.length]; exact szSeq_le hz
        · subst e
          have := q1.length
          rename_i xs ys
          cases xs with
          | nil => exact a.here R ry
          | cons _ _ => cases this
        · subst e
          have := q2.length
          rename_i xs ys _
          cases ys with
          | nil => rw [List.append_nil] at a; exact a.here R rx
          | cons _ _ => cases this
      · cases e
    · split at e
      · rename_i hx hy
        obtain ⟨p, vs, rfl, t1, q1⟩ := rep_lst R rx hx
        obtain ⟨p2, vs2, rfl, t2, q2⟩ := rep_lst R ry hy
        obtain ⟨hz, k⟩ := Aft.newL R (q1.append q2) e a
        exact op_cat pins s σ H _ _ vv uu Q I rv ru ⟨p, p2, vs, vs2, rfl, rfl, t1, t2, by simpa using hz, k⟩
      · cases e
  · -- sub
    have e : subX x y h = HP.R.ok z h' := e
    unfold subX at e
    split at e <;> first | (cases e; done) | skip
    cases e
    cases rx
    cases ry
    exact op_sub pins s σ H _ _ vv uu Q I rv ru ⟨_, _, rfl, rfl, a.here R rep_int⟩
  · -- mul
    have e : mulX m x y h = HP.R.ok z h' := e
    unfold mulX at e
    split at e <;> first | (cases e; done) | skip
    · split at e
      · rename_i hz
        cases e
        cases rx
        cases ry
        exact op_mulG pins s σ H _ _ vv uu Q I rv ru ⟨_, _, rfl, rfl, hz, a.here R rep_int⟩
      · cases e
    · split at e
      · rename_i hz
        simp only [Bool.and_eq_true, decide_eq_true_eq, Bool.not_eq_true'] at hz
        obtain ⟨⟨⟨z1, z2⟩, z3⟩, z4⟩ := hz
        cases e
        obtain ⟨p, vs, rfl, t1, q1⟩ := rep_tup rx
        cases ry
        rw [← hK] at t1
        rename_i xs n
        by_cases hn : n = 1
        · subst hn
          refine h1 pins s σ H _ _ vv uu Q I rv ru ⟨p, vs, rfl, rfl, t1, ?_⟩
          have e1 : (List.replicate (Int.toNat 1) xs).flatten = xs := by simp
          rw [e1] at a
          exact a.here R rx
        · refine op_repT pins s σ H _ _ vv uu Q I rv ru ⟨p, n, vs, rfl, rfl, t1, ?_, by omega, by omega, by rw [← q1.length]; exact z3, a.tup R (reps_flat q1 _)⟩
          intro e
          subst e
          have := q1.length
          cases xs <;> simp at this z4
      · cases e
    · split at e
      · rename_i hx
        split at e
        · rename_i hz
          simp only [Bool.and_eq_true, decide_eq_true_eq] at hz
          obtain ⟨⟨z1, z2⟩, z3⟩ := hz
          obtain ⟨p, vs, rfl, t1, q1⟩ := rep_lst R rx hx
          cases ry
          obtain ⟨hz, k⟩ := Aft.newL R (reps_flat q1 _) e a
          exact op_rep pins s σ H _ _ vv uu Q I rv ru ⟨p, _, vs, rfl, rfl, t1, by omega, by omega, by rw [← q1.length]; exact szSeq_le z3, k⟩
        · cases e
      · cases e
  · -- fdiv
    have e : fdivX x y h = HP.R.ok z h' := e
    unfold fdivX at e
    split at e <;> first | (cases e; done) | skip
    split at e
    · rename_i hz
      simp only [Bool.and_eq_true, decide_eq_true_eq] at hz
      cases e
      cases rx
      cases ry
      exact op_fdivG pins s σ H _ _ vv uu Q I rv ru ⟨_, _, rfl, rfl, hz, a.here R rep_int⟩
    · cases e
  · -- mod
    have e : modX x y h = HP.R.ok z h' := e
    unfold modX at e
    split at e <;> first | (cases e; done) | skip
    split at e
    · rename_i hz
      cases e
      cases rx
      cases ry
      exact op_modN pins s σ H _ _ vv uu Q I rv ru ⟨_, _, rfl, rfl, of_decide_eq_true hz, a.here R rep_int⟩
    · cases e
  · -- pow
    have e : powX x y h = HP.R.ok z h' := e
    unfold powX at e
    split at e <;> first | (cases e; done) | skip
    split at e
    · rename_i hz
      simp only [Bool.and_eq_true, decide_eq_true_eq] at hz
      cases e
      cases rx
      cases ry
      exact op_pow pins s σ H _ _ vv uu Q I rv ru ⟨_, _, rfl, rfl, ⟨hz.1.1, hz.1.2, hz.2⟩, a.here R rep_int⟩
    · cases e
end
end HP

set_option Elab.async false
set_option linter.all false
set_option maxRecDepth 10000
set_option maxHeartbeats 1000000
/-! The evaluator, part G: comparisons, truth. -/
namespace HP
open PySem PySem.Spec PyProof.Rows L2
mutual
theorem dp_of {W : Wd} {φ : List Addr} {H : Hp} : ∀ {x : X} {v : V}, x.dat = true → Rep W φ H x v → Dp W.K H v x.toD
  | .non, v, _, r => by cases r; exact .non
  | .bl b, v, _, r => by cases r; exact .bl b
  | .int i, v, _, r => by cases r; exact .int i
  | .str s, v, _, r => by cases r; exact .str s
  | .tup xs, v, d, r => by
    obtain ⟨a, vs, rfl, t, q⟩ := r
    unfold X.toD
    exact .tup t.sq (dps_of d q)
  | .lst xs, v, d, r => by
    obtain ⟨a, vs, rfl, t, q⟩ := r
    unfold X.toD
    exact .lst t.sq (dps_of d q)
  | .ins .., _, d, _ => by cases d
  | .fn _, _, d, _ => by cases d
  | .ob _, _, d, _ => by cases d
  | .scr _, _, d, _ => by cases d
theorem dps_of {W : Wd} {φ : List Addr} {H : Hp} : ∀ {xs : List X} {vs : List V}, X.dats xs = true → Reps W φ H xs vs → DpAll W.K H vs (X.toDs xs)
  | [], vs, _, r => by cases r; exact .nil
  | x :: xs, vs, d, r => by
    obtain ⟨v, s, rfl, r1, r2⟩ := r
    have d' : X.dat x = true ∧ X.dats xs = true := by simpa [X.dats] using d
    unfold X.toDs
    exact .cons (dp_of d'.1 r1) (dps_of d'.2 r2)
end
mutual
theorem lay_of : ∀ {x : X}, x.dat = true → x.toD.canLay0 = true
  | .non, _ => rfl
  | .bl b, _ => rfl
  | .int i, _ => rfl
  | .str s, d => by simpa [X.toD, PyData.canLay0, X.dat] using d
  | .tup xs, d => by
    have := lays_of (xs := xs) d
    simpa [X.toD, PyData.canLay0] using this
  | .lst xs, d => by
    have := lays_of (xs := xs) d
    simpa [X.toD, PyData.canLay0] using this
  | .ins .., d => by cases d
  | .fn _, d => by cases d
  | .ob _, d => by cases d
  | .scr _, d => by cases d
theorem lays_of : ∀ {xs : List X}, X.dats xs = true → PyData.canLayAll0 (X.toDs xs) = true
  | [], _ => rfl
  | x :: xs, d => by
    have d' : X.dat x = true ∧ X.dats xs = true := by simpa [X.dats] using d
    simp [X.toDs, PyData.canLayAll0, lay_of d'.1, lays_of d'.2]
end
mutual
theorem dep_of : ∀ {x : X}, x.dat = true → x.toD.depth ≤ x.dep
  | .non, _ => by simp [X.toD, PyData.depth]
  | .bl b, _ => by simp [X.toD, PyData.depth]
  | .int i, _ => by simp [X.toD, PyData.depth]
  | .str s, _ => by simp [X.toD, PyData.depth]
  | .tup xs, d => by
    have := deps_of (xs := xs) d
    simp only [X.toD, PyData.depth, X.dep]
    omega
  | .lst xs, d => by
    have := deps_of (xs := xs) d
    simp only [X.toD, PyData.depth, X.dep]
    omega
  | .ins .., d => by cases d
  | .fn _, d => by cases d
  | .ob _, d => by cases d
  | .scr _, d => by cases d
theorem deps_of : ∀ {xs : List X}, X.dats xs = true → PyData.depthAll (X.toDs xs) ≤ X.deps xs
  | [], _ => by simp [X.toDs, PyData.depthAll]
  | x :: xs, d => by
    have d' : X.dat x = true ∧ X.dats xs = true := by simpa [X.dats] using d
    have h1 := dep_of d'.1
    have h2 := deps_of d'.2
    simp only [X.toDs, PyData.depthAll, X.deps]
    omega
end
theorem shaped_of {x : X} (h : datX x = true) : SeqAt.shaped x.toD = true := by
  unfold datX at h
  simp only [Bool.and_eq_true, decide_eq_true_eq] at h
  have := dep_of h.1
  unfold SeqAt.shaped
  simp only [Bool.and_eq_true, decide_eq_true_eq]
  exact ⟨lay_of h.1, by omega⟩
/-- a list object is read as its value -/
theorem dp_red {W : Wd} {φ : List Addr} {h : Hq} {H : Hp} {x : X} {v : V} (R : Rel W φ h H) (r : Rep W φ H x v) (d : datX (redX x h) = true) : Dp W.K H v (redX x h).toD := by
  have d1 : (redX x h).dat = true := by unfold datX at d; simp only [Bool.and_eq_true] at d; exact d.1
  cases x with
  | ob l =>
    cases hl : h[l]? with
    | none =>
      have er : redX (.ob l) h = .ob l := by unfold redX; simp only [hl]
      rw [er] at d1; cases d1
    | some o =>
      cases o with
      | lst xs =>
        have er : redX (.ob l) h = .lst xs := by unfold redX; simp only [hl]
        obtain ⟨a, e1, e2, vs, e3, q⟩ := R.ob r hl
        subst e1
        rw [er] at d1 ⊢
        unfold X.toD
        exact .lst (.inl (.inl e3)) (dps_of d1 q)
      | dct kvs =>
        have er : redX (.ob l) h = .ob l := by unfold redX; simp only [hl]
        rw [er] at d1; cases d1
      | ins c fs =>
        have er : redX (.ob l) h = .ob l := by unfold redX; simp only [hl]
        rw [er] at d1; cases d1
      | tbl =>
        have er : redX (.ob l) h = .ob l := by unfold redX; simp only [hl]
        rw [er] at d1; cases d1
  | _ => exact dp_of d1 r
section
variable {W : Wd} {C : Cx}
theorem any_toDs (d : PyData) : ∀ ys : List X, ((X.toDs ys).any fun z => PyData.eqv z d) = ys.any fun y => PyData.eqv y.toD d
  | [] => rfl
  | y :: ys => by simp [X.toDs, any_toDs d ys]
theorem tup_dat {ys : List X} (h : datX (.tup ys) = true) : X.dats ys = true ∧ datX (.lst ys) = true := by
  unfold datX at h ⊢
  simp only [Bool.and_eq_true, decide_eq_true_eq, X.dat, X.dep] at h ⊢
  exact ⟨h.1, h⟩
theorem op_in (hK : C.K = W.K) (hu : C.A.units + 65 < cLine) {neg : Bool} {op : CmpOp} (ho : op = if neg then .NotIn else .In) {φ : List Addr} {h : Hq} {pins : List (Addr × Obj)} {s : Shared} {σ : SlotL} {H : Hp} {x y : X} {ys : List X} {v u : V} {vv uu : Value} {Q : VK}
    (I : L2.Inv C pins σ H s) (rv : L2.RelV v vv) (ru : L2.RelV u uu) (R : Rel W φ h H) (rx : Rep W φ H x v) (ry : Rep W φ H y u) (e : seqX y h = some ys) (d1 : datX x = true) (d2 : datX (.tup ys) = true) (q : Q (.bl (if neg then !inX x ys else inX x ys)) H) :
    wpAny (model C.prog C.w) C.A (compareOp op vv uu) (EP C pins σ Q) C.xe s := by
  obtain ⟨a, vs, rfl, hs, q2⟩ := rep_seq R ry e
  obtain ⟨e1, e2⟩ := tup_dat d2
  have hx : x.dat = true := by unfold datX at d1; simp only [Bool.and_eq_true] at d1; exact d1.1
  have dx : Dp C.K H v x.toD := by rw [hK]; exact dp_of hx rx
  have dys : DpAll C.K H vs (X.toDs ys) := by rw [hK]; exact dps_of e1 q2
  have sh1 := shaped_of d1
  have sh2 : SeqAt.shaped (.list (X.toDs ys)) = true := by have := shaped_of e2; simpa [X.toD] using this
  have sh3 : SeqAt.shaped (.tuple (X.toDs ys)) = true := by have := shaped_of d2; simpa [X.toD] using this
  have ea := any_toDs x.toD ys
  rw [← hK] at hs
  rcases hs with hs | hs
  · cases neg with
    | false =>
      subst ho
      refine op_inD hu pins s σ H v (.ref a) vv uu Q I rv ru ⟨_, _, dx, .lst hs dys, sh1, sh2, ?_⟩
      rw [ea]; exact q
    | true =>
      subst ho
      refine op_notInD hu pins s σ H v (.ref a) vv uu Q I rv ru ⟨_, _, dx, .lst hs dys, sh1, sh2, ?_⟩
      rw [ea]; exact q
  · obtain ⟨as, r1⟩ := Dp.reads I _ v vv dx rv
    obtain ⟨bs, r2⟩ := Dp.reads I (.tuple (X.toDs ys)) (.ref a) uu (.tup hs dys) ru
    cases neg with
    | false =>
      subst ho
      refine SeqAt.in_tuple_reads r2 r1 (SeqAt.canLay_of_shaped sh3) (SeqAt.canLay_of_shaped sh1) (room_in_shaped sh1 hu) ?_
      rw [ea]
      exact ⟨.bl _, H, I, rfl, q⟩
    | true =>
      subst ho
      refine SeqAt.notIn_tuple_reads r2 r1 (SeqAt.canLay_of_shaped sh3) (SeqAt.canLay_of_shaped sh1) (room_in_shaped sh1 hu) ?_
      rw [ea]
      exact ⟨.bl _, H, I, rfl, q⟩
def cmpM (o : Cp) (x y : X) (h : Hq) : R X := match cmpX o x y h with
  | some b => .ok (.bl b) h
  | none => .bad
theorem eqT_ok {x y : X} {k : Bool} (h : eqT x y = some k) : ∃ a b, x = .str a ∧ y = .str b ∧ k = (a == b) := by
  unfold eqT at h
  split at h
  · cases h
    exact ⟨_, _, rfl, rfl, rfl⟩
  · cases h
theorem op_cmpX (hK : C.K = W.K) (hu : C.A.units + 65 < cLine) {o : Cp} {op : CmpOp} (ho : cpB o op = true) : OpR C (compareOp op) (vB W (cmpM o)) := by
  intro pins s σ H v u vv uu Q I rv ru k
  obtain ⟨φ, h, x, y, z, h', rx, ry, R, e, a⟩ := k
  unfold cmpM at e
  split at e
  · rename_i b hb
    cases e
    have q : Q (.bl b) H := a.here R rep_bl
    have num : ∀ {i j : Int}, x = .int i → y = .int j → v = .int i ∧ u = .int j := fun e1 e2 => by
      subst e1; subst e2
      exact ⟨rx, ry⟩
    cases o <;> cases op <;> first | (exact absurd ho (by decide)) | skip
    · -- eq
      have hb : (match eqT x y with | some k => some k | none => if datX (redX x h) && datX (redX y h) then some (eqX (redX x h) (redX y h)) else none) = some b := hb
      cases hk : eqT x y with
      | some k =>
        rw [hk] at hb
        cases hb
        obtain ⟨a, c, rfl, rfl, rfl⟩ := eqT_ok hk
        cases rx
        cases ry
        exact op_eq pins s σ H _ _ vv uu Q I rv ru ⟨rfl, by rw [dec_str]; exact q⟩
      | none =>
      rw [hk] at hb
      simp only at hb
      split at hb
      · rename_i hd
        simp only [Bool.and_eq_true] at hd
        cases hb
        exact op_eqD (by omega) pins s σ H v u vv uu Q I rv ru ⟨_, _, by rw [hK]; exact dp_red R rx hd.1, by rw [hK]; exact dp_red R ry hd.2, shaped_of hd.1, shaped_of hd.2, q⟩
      · cases hb
    · have hb : (match eqT x y with | some k => some (!k) | none => if datX (redX x h) && datX (redX y h) then some (!eqX (redX x h) (redX y h)) else none) = some b := hb
      cases hk : eqT x y with
      | some k =>
        rw [hk] at hb
        cases hb
        obtain ⟨a, c, rfl, rfl, rfl⟩ := eqT_ok hk
        cases rx
        cases ry
        exact op_ne pins s σ H _ _ vv uu Q I rv ru ⟨rfl, by rw [dec_str]; exact q⟩
      | none =>
      rw [hk] at hb
      simp only at hb
      split at hb
      · rename_i hd
        simp only [Bool.and_eq_true] at hd
        cases hb
        exact op_neD (by omega) pins s σ H v u vv uu Q I rv ru ⟨_, _, by rw [hK]; exact dp_red R rx hd.1, by rw [hK]; exact dp_red R ry hd.2, shaped_of hd.1, shaped_of hd.2, q⟩
      · cases hb
    · unfold cmpX at hb
      simp only at hb
      split at hb
      · cases hb
        obtain ⟨rfl, rfl⟩ := num rfl rfl
        exact op_lt pins s σ H _ _ vv uu Q I rv ru ⟨_, _, rfl, rfl, q⟩
      · cases hb
    · unfold cmpX at hb
      simp only at hb
      split at hb
      · cases hb
        obtain ⟨rfl, rfl⟩ := num rfl rfl
        exact op_le pins s σ H _ _ vv uu Q I rv ru ⟨_, _, rfl, rfl, q⟩
      · cases hb
    · unfold cmpX at hb
      simp only at hb
      split at hb
      · cases hb
        obtain ⟨rfl, rfl⟩ := num rfl rfl
        exact op_gt pins s σ H _ _ vv uu Q I rv ru ⟨_, _, rfl, rfl, q⟩
      · cases hb
    · unfold cmpX at hb
      simp only at hb
      split at hb
      · cases hb
        obtain ⟨rfl, rfl⟩ := num rfl rfl
        exact op_ge pins s σ H _ _ vv uu Q I rv ru ⟨_, _, rfl, rfl, q⟩
      · cases hb
    · -- is
      unfold cmpX at hb
      simp only at hb
      split at hb
      · cases hb
        cases ry
        refine op_isN pins s σ H v .non vv uu Q I rv ru ⟨rfl, ?_⟩
        rw [show decide (v = V.non) = decide (x = X.non) from ?_]
        · exact q
        · cases x with
          | non => cases rx; rfl
          | bl b => cases rx; rfl
          | int b => cases rx; rfl
          | str b => cases rx; rfl
          | tup b => obtain ⟨p, vs, rfl, _⟩ := rx; rfl
          | lst b => obtain ⟨p, vs, rfl, _⟩ := rx; rfl
          | ins c b => obtain ⟨p, vs, rfl, _⟩ := rx; rfl
          | fn b => cases rx; rfl
          | ob b => obtain ⟨p, rfl, _⟩ := rx; rfl
          | scr b => obtain ⟨p, vs, rfl, _⟩ := rx; rfl
          | lam b => obtain ⟨p, rfl, _⟩ := rx; rfl
      · cases hb
        cases rx
        cases ry
        refine op_isBl pins s σ H _ _ vv uu Q I rv ru ⟨_, _, rfl, rfl, ?_⟩
        rename_i p q'
        rw [show decide (p = q') = (p == q') from by cases p <;> cases q' <;> rfl]
        exact q
      · cases hb
    · unfold cmpX at hb
      simp only at hb
      split at hb
      · cases hb
        cases ry
        refine op_notN pins s σ H v .non vv uu Q I rv ru ⟨rfl, ?_⟩
        rw [show decide (v = V.non) = decide (x = X.non) from ?_]
        · exact q
        · cases x with
          | non => cases rx; rfl
          | bl b => cases rx; rfl
          | int b => cases rx; rfl
          | str b => cases rx; rfl
          | tup b => obtain ⟨p, vs, rfl, _⟩ := rx; rfl
          | lst b => obtain ⟨p, vs, rfl, _⟩ := rx; rfl
          | ins c b => obtain ⟨p, vs, rfl, _⟩ := rx; rfl
          | fn b => cases rx; rfl
          | ob b => obtain ⟨p, rfl, _⟩ := rx; rfl
          | scr b => obtain ⟨p, vs, rfl, _⟩ := rx; rfl
          | lam b => obtain ⟨p, rfl, _⟩ := rx; rfl
      · cases hb
        cases rx
        cases ry
        refine op_notBl pins s σ H _ _ vv uu Q I rv ru ⟨_, _, rfl, rfl, ?_⟩
        rename_i p q'
        rw [show decide (p = q') = (p == q') from by cases p <;> cases q' <;> rfl]
        exact q
      · cases hb
    · -- in
      unfold cmpX at hb
      simp only at hb
      split at hb
      · split at hb
        · rename_i hz
          cases hb
          have hz := of_decide_eq_true hz
          cases rx
          cases ry
          refine op_in_sign pins s σ H _ _ vv uu Q I rv ru ⟨_, _, by rw [← hz], rfl, q⟩
        · cases hb
      · split at hb
        · rename_i ys hy
          split at hb
          · rename_i hd
            simp only [Bool.and_eq_true] at hd
            cases hb
            exact op_in (neg := false) hK hu rfl I rv ru R rx ry hy hd.1 hd.2 q
          · cases hb
        · cases hb
    · unfold cmpX at hb
      simp only at hb
      split at hb
      · split at hb
        · rename_i hz
          cases hb
          have hz := of_decide_eq_true hz
          cases rx
          cases ry
          refine op_notIn_sign pins s σ H _ _ vv uu Q I rv ru ⟨_, _, by rw [← hz], rfl, q⟩
        · cases hb
      · split at hb
        · rename_i ys hy
          split at hb
          · rename_i hd
            simp only [Bool.and_eq_true] at hd
            cases hb
            exact op_in (neg := true) hK hu rfl I rv ru R rx ry hy hd.1 hd.2 q
          · cases hb
        · cases hb
  · cases e
/-- truth -/
theorem vT_ex {v : V} {H : Hp} {Q : Bool → Hp → Prop} (k : vT W v H Q) : ∃ b, TruV W.K v H b ∧ Q b H := by
  obtain ⟨φ, h, x, b, rx, R, e, a⟩ := k
  have q : Q b H := a φ H .refl R
  refine ⟨b, ?_, q⟩
  have sq : ∀ {xs : List X}, seqX x h = some xs → b = !xs.isEmpty → ∃ p, v = .ref p ∧ ((∃ vs, SqL W.K H p vs ∧ b = !vs.isEmpty) ∨ ∃ vs, SqT W.K H p vs ∧ b = !vs.isEmpty) := fun hx hb => by
    obtain ⟨p, vs, rfl, hs, r⟩ := rep_seq R rx hx
    rename_i xs
    have el : vs.isEmpty = xs.isEmpty := by
      have := r.length
      cases vs <;> cases xs <;> simp_all
    refine ⟨p, rfl, hs.imp (fun z => ⟨vs, z, by rw [el]; exact hb⟩) fun z => ⟨vs, z, by rw [el]; exact hb⟩⟩
  unfold truX at e
  split at e
  · cases e; cases rx; rfl
  · cases e; cases rx; rfl
  · cases e; cases rx; rfl
  · split at e
    · rename_i hz
      cases e; cases rx
      exact ⟨szSeq_le hz, rfl⟩
    · cases e
  · cases e
    obtain ⟨p, rfl, z⟩ := sq (by rfl) rfl
    exact z.imp id fun z => .inl z
  · cases e
    obtain ⟨p, rfl, z⟩ := sq (by rfl) rfl
    exact z.imp id fun z => .inl z
  · split at e
    · rename_i hl
      cases e
      obtain ⟨p, rfl, z⟩ := sq (by unfold seqX; simp only [hl]) rfl
      exact z.imp id fun z => .inl z
    · cases e
  · cases e
end
end HP

set_option Elab.async false
set_option linter.all false
set_option maxRecDepth 10000
set_option maxHeartbeats 1000000
/-! The evaluator, part H: places, slices, dicts, built-ins. -/
namespace HP
open PySem PySem.Spec PyProof.Rows L2
def idxM (x y : X) (h : Hq) : R X := match idxX x y h with
  | some z => .ok z h
  | none => .bad
theorem kX_inj {a b : X} {q : Key} (h : kX a = some q) (k : kX b = some q) : a = b := by
  cases a <;> cases b <;> simp_all [kX] <;> (subst h; simp_all)
theorem kX_V {W : Wd} {φ : List Addr} {H : Hp} {k : X} {q : Key} {v : V} (h : kX k = some q) (r : Rep W φ H k v) : v = kV q := by
  cases k <;> simp [kX] at h <;> (subst h; cases r; rfl)
theorem kX_of {k : X} (h : keyB k = true) : ∃ q, kX k = some q := by
  cases k <;> simp [keyB] at h
  · exact ⟨_, rfl⟩
  · exact ⟨_, rfl⟩
theorem KRel.get {W : Wd} {φ : List Addr} {H : Hp} {k : X} {q : Key} (hk : kX k = some q) : ∀ {kvs : List (X × X)} {ks : List (Key × V)} {x : X}, KRel W φ H kvs ks → getD k kvs = some x → ∃ v, valV ks q = some v ∧ Rep W φ H x v
  | [], _, _, _, e => by cases e
  | (a, u) :: r, ks, x, h, e => by
    obtain ⟨p, v, s, rfl, e2, h1, h2⟩ := h
    unfold getD at e
    split at e
    · rename_i ha
      cases e
      rw [ha] at e2
      rw [hk] at e2
      cases e2
      exact ⟨v, valV_pos rfl, h1⟩
    · rename_i ha
      obtain ⟨w, g1, g2⟩ := KRel.get hk h2 e
      refine ⟨w, ?_, g2⟩
      have np : ¬ p = q := fun z => ha (kX_inj (by rw [z] at e2; exact e2) hk)
      unfold valV at g1 ⊢
      rw [List.find?_cons]
      simp only [decide_eq_false np]
      exact g1
theorem KRel.any {W : Wd} {φ : List Addr} {H : Hp} {k : X} {q : Key} (hk : kX k = some q) : ∀ {kvs : List (X × X)} {ks : List (Key × V)}, KRel W φ H kvs ks → (ks.any fun kv => decide (kv.1 = q)) = kvs.any (fun p => decide (p.1 = k))
  | [], _, h => by cases h; rfl
  | (a, u) :: r, ks, h => by
    obtain ⟨p, v, s, rfl, e2, h1, h2⟩ := h
    rw [List.any_cons, List.any_cons, KRel.any hk h2]
    congr 1
    by_cases z : a = k
    · subst z
      rw [hk] at e2
      cases e2
      simp
    · have : ¬ p = q := fun y => z (kX_inj (by rw [y] at e2; exact e2) hk)
      simp [z, this]
theorem KRel.map {W : Wd} {φ : List Addr} {H : Hp} {k x : X} {q : Key} {w : V} (hk : kX k = some q) (rw' : Rep W φ H x w) : ∀ {kvs : List (X × X)} {ks : List (Key × V)}, KRel W φ H kvs ks → KRel W φ H (kvs.map fun p => if p.1 = k then (p.1, x) else p) (ks.map fun kv => if kv.1 = q then (kv.1, w) else kv)
  | [], _, h => by cases h; exact rfl
  | (a, u) :: r, ks, h => by
    obtain ⟨p, v, s, rfl, e2, h1, h2⟩ := h
    rw [List.map_cons, List.map_cons]
    by_cases z : a = k
    · subst z
      rw [hk] at e2
      cases e2
      simp only [if_true]
      exact ⟨q, w, _, rfl, hk, rw', KRel.map hk rw' h2⟩
    · have : ¬ p = q := fun y => z (kX_inj (by rw [y] at e2; exact e2) hk)
      simp only [if_neg z, if_neg this]
      exact ⟨p, v, _, rfl, e2, h1, KRel.map hk rw' h2⟩
theorem KRel.append {W : Wd} {φ : List Addr} {H : Hp} : ∀ {kvs kvs' : List (X × X)} {ks ks' : List (Key × V)}, KRel W φ H kvs ks → KRel W φ H kvs' ks' → KRel W φ H (kvs ++ kvs') (ks ++ ks')
  | [], _, _, _, h, k => by cases h; exact k
  | (a, u) :: r, _, ks, _, h, k => by
    obtain ⟨p, v, s, rfl, e2, h1, h2⟩ := h
    exact ⟨p, v, s ++ _, rfl, e2, h1, KRel.append h2 k⟩
theorem KRel.put {W : Wd} {φ : List Addr} {H : Hp} {k x : X} {q : Key} {w : V} (hk : kX k = some q) (r : Rep W φ H x w) {kvs : List (X × X)} {ks : List (Key × V)} (h : KRel W φ H kvs ks) : KRel W φ H (putD k x kvs) (putK ks q w) := by
  unfold putD putK
  rw [h.any hk]
  split
  · exact h.map hk r
  · exact h.append ⟨q, w, [], rfl, hk, r, rfl⟩
theorem KRel.length {W : Wd} {φ : List Addr} {H : Hp} : ∀ {kvs : List (X × X)} {ks : List (Key × V)}, KRel W φ H kvs ks → kvs.length = ks.length
  | [], _, h => by cases h; rfl
  | (a, u) :: r, ks, h => by
    obtain ⟨p, v, s, rfl, e2, h1, h2⟩ := h
    simp [KRel.length h2]
section
variable {W : Wd} {C : Cx}
theorem atX_eq {α : Type} {xs : List α} {i : Int} : ((atX xs.length i).bind fun k => xs[k]?) = atI xs i := rfl
/-- an item of a sequence: by values -/
def rIdx (W : Wd) : R2 := fun v u H Q => ∃ φ h x y z, Rep W φ H x v ∧ Rep W φ H y u ∧ Rel W φ h H ∧ (∀ l kvs, x = .ob l → h[l]? ≠ some (.dct kvs)) ∧ idxX x y h = some z ∧ Aft W φ H z h Q
theorem idx_seq {φ : List Addr} {h : Hq} {H : Hp} {x y z : X} {v u : V} (R : Rel W φ h H) (rx : Rep W φ H x v) (ry : Rep W φ H y u) {xs : List X} {j : Int} (hs : seqX x h = some xs) (hy : y = .int j) (e : ((atX xs.length j).bind fun k => xs[k]?) = some z) :
    ∃ p vs w, v = .ref p ∧ u = .int j ∧ (SqL W.K H p vs ∨ SqT W.K H p vs) ∧ atI vs j = some w ∧ Rep W φ H z w := by
  obtain ⟨p, vs, rfl, q, r⟩ := rep_seq R rx hs
  subst hy
  cases ry
  rw [Option.bind_eq_some_iff] at e
  obtain ⟨k, e1, e2⟩ := e
  obtain ⟨w, g1, g2⟩ := r.get e2
  refine ⟨p, vs, w, rfl, rfl, q, ?_, g2⟩
  unfold atI
  rw [← r.length]
  show (atX xs.length j).bind _ = _
  rw [e1]
  exact g1
theorem ix_idx (hK : C.K = W.K) : IxR C (rIdx W) := by
  intro value slice pins s σ H v u vv uu Q I rv ru k hs
  obtain ⟨φ, h, x, y, z, rx, ry, R, nd, e, a⟩ := k
  have seq : ∀ {xs : List X} {j : Int}, seqX x h = some xs → y = .int j → ((atX xs.length j).bind fun k => xs[k]?) = some z → wpAny (model C.prog C.w) C.A (subscriptTail value slice vv uu) (EP C pins σ Q) C.xe s := fun h1 h2 h3 => by
    obtain ⟨p, vs, w, rfl, rfl, q, g, r⟩ := idx_seq R rx ry h1 h2 h3
    rw [← hK] at q
    rcases q with q | q
    · exact ix_seq value slice pins s σ H _ _ vv uu Q I rv ru (.inl ⟨p, vs, _, w, rfl, rfl, q, g, a.here R r⟩) hs
    · exact ix_seq value slice pins s σ H _ _ vv uu Q I rv ru (.inr (.inl ⟨p, vs, _, w, rfl, rfl, q, g, a.here R r⟩)) hs
  unfold idxX at e
  split at e
  · split at e
    · rename_i hz
      rw [Option.bind_eq_some_iff] at e
      obtain ⟨k, e1, e2⟩ := e
      rw [Option.map_eq_some_iff] at e2
      obtain ⟨c, e2, e3⟩ := e2
      subst e3
      cases rx
      cases ry
      refine ix_seq value slice pins s σ H _ _ vv uu Q I rv ru (.inr (.inr ⟨_, _, c, rfl, rfl, szSeq_le hz, ?_, a.here R rep_str⟩)) hs
      unfold atI
      show (atX _ _).bind _ = _
      rw [e1]
      exact e2
    · cases e
  · split at e
    · rename_i hl
      exact absurd hl (nd _ _ rfl)
    · rename_i hl
      split at e
      · exact seq (by unfold seqX; simp only [hl]) rfl e
      · cases e
    · cases e
  · split at e
    · rename_i hq
      exact seq hq rfl e
    · cases e
  · cases e
theorem PE.or {e : Expr} {t t' : TE} (p : PE C e t) (p' : PE C e t') : PE C e (fun σ H Q => t σ H Q ∨ t' σ H Q) := ⟨fun pins s σ H Q I q => q.elim (p.run pins s σ H Q I) (p'.run pins s σ H Q I)⟩
/-- what the places are at a heap: they do not hang on how it is told -/
theorem tE_idx {σ : SlotL} {H : Hp} {Q : VK} {ma mb : Env' → M X} (k : tE W (fun e => (ma e).bnd fun x => (mb e).bnd fun y => idxM x y) σ H Q) :
    tOp (rIdx W) (tE W ma) (tE W mb) σ H Q ∨ tDGet (tE W ma) (tE W mb) σ H Q := by
  obtain ⟨φ, e, h, z, h', E, R, q, a⟩ := k
  obtain ⟨x, h1, q1, q2⟩ := bnd_eq q
  obtain ⟨y, h2, q3, q4⟩ := bnd_eq q2
  unfold idxM at q4
  split at q4
  · rename_i z' hz
    cases q4
    by_cases hd : ∃ l kvs, x = .ob l ∧ h'[l]? = some (.dct kvs)
    · right
      obtain ⟨l, kvs, rfl, hl⟩ := hd
      refine ⟨φ, e, h, _, h1, E, R, q1, fun φ' H' v x' R' r => ⟨φ', e, h1, y, h', E.ext x', R', q3, fun φ2 H2 u x2 R2 r2 => ?_⟩⟩
      unfold idxX at hz
      simp only [hl] at hz
      split at hz
      · rename_i hk
        obtain ⟨q, hq⟩ := kX_of hk
        obtain ⟨p, ev, e2, ks, e3, kr⟩ := R2.ob (r.ext x2) hl
        obtain ⟨w, g1, g2⟩ := kr.get hq hz
        have eu := kX_V hq r2
        subst eu
        refine ⟨p, w, ev, ?_, a φ2 H2 w (x'.trans x2) R2 g2⟩
        rw [← g1]
        exact DGet.k e3
      · cases hz
    · left
      refine ⟨φ, e, h, x, h1, E, R, q1, fun φ' H' v x' R' r => ⟨φ', e, h1, y, h', E.ext x', R', q3, fun φ2 H2 u x2 R2 r2 => ?_⟩⟩
      exact ⟨φ2, h', x, y, z, r.ext x2, r2, R2, fun l kvs e1 e2 => hd ⟨l, kvs, e1, e2⟩, hz, fun φ3 H3 w x3 R3 r3 => a φ3 H3 w ((x'.trans x2).trans x3) R3 r3⟩
  · cases q4
/-! ### slices -/
def prt : Option Int → List X
  | some i => [.int i]
  | none => []
theorem optI_prt (o : Option Int) : optI (prt o) = some o := by cases o <;> rfl
def vS (W : Wd) (m : Bool) : V → Option Int → Option Int → Hp → VK → Prop := fun v lo hi H Q => ∃ φ h x z h', Rep W φ H x v ∧ Rel W φ h H ∧ slcX m x (prt lo) (prt hi) h = .ok z h' ∧ Aft W φ H z h' Q
theorem cut_eq (vs : List V) (lo hi : Option Int) : cutV vs lo hi = cutL vs lo hi := by
  unfold cutV cutL
  have e : ∀ n d (o : Option Int), HT.sIx n d o = clip n d o := fun n d o => by cases o <;> rfl
  simp only [e]
theorem cutS_eq (z : Str) (lo hi : Option Int) : cutS z lo hi = ⟨(cutL z.cps.toList lo hi).toArray⟩ := by
  unfold cutS cutL
  have e : ∀ n d (o : Option Int), HT.sIx n d o = clip n d o := fun n d o => by cases o <;> rfl
  have l : z.length = z.cps.toList.length := by simp [Str.length]
  simp only [e, l]
theorem reps_cut {φ : List Addr} {H : Hp} {xs : List X} {vs : List V} (r : Reps W φ H xs vs) (lo hi : Option Int) : Reps W φ H (cutL xs lo hi) (cutL vs lo hi) := by
  unfold cutL
  rw [r.length]
  exact (r.drop _).take _
theorem sl_vS (hK : C.K = W.K) {m : Bool} : SlR C (vS W m) := by
  intro pins s σ H v vv vl vu lo hi sl Q I rv hs pl pu k
  obtain ⟨φ, h, x, z, h', rx, R, e, a⟩ := k
  unfold slcX at e
  rw [optI_prt, optI_prt] at e
  simp only at e
  split at e
  · cases e
    obtain ⟨p, vs, rfl, t, q⟩ := rep_tup rx
    rw [← hK] at t
    rename_i xs
    refine sl_tupA pins s σ H _ vv vl vu lo hi sl Q I rv hs pl pu ⟨p, vs, rfl, t, fun zz => ?_, fun _ => ?_⟩
    · obtain ⟨z1, z2⟩ := zz
      have ec : cutL xs lo hi = xs := by
        have e0 : ∀ n d (o : Option Int), HT.sIx n d o = clip n d o := fun n d o => by cases o <;> rfl
        unfold cutL
        rw [q.length, ← e0, ← e0, z1, z2]
        rw [List.drop_zero, Nat.sub_zero, ← q.length]
        exact List.take_length
      rw [ec] at a
      exact a.here R rx
    · rw [cut_eq]
      exact a.tup R (reps_cut q lo hi)
  · split at e
    · rename_i hz
      cases e
      cases rx
      refine sl_str pins s σ H _ vv vl vu lo hi sl Q I rv hs pl pu ⟨_, rfl, szSeq_le hz, ?_⟩
      rw [cutS_eq]
      exact a.here R rep_str
    · cases e
  · split at e
    · rename_i hx
      obtain ⟨p, vs, rfl, t, q⟩ := rep_lst R rx hx
      obtain ⟨_, k⟩ := Aft.newL R (reps_cut q lo hi) e a
      refine sl_list pins s σ H _ vv vl vu lo hi sl Q I rv hs pl pu ⟨p, vs, rfl, .inl (.inl t), ?_⟩
      rw [cut_eq]
      exact k
    · cases e
end
end HP

set_option Elab.async false
set_option linter.all false
set_option maxRecDepth 10000
set_option maxHeartbeats 1000000
/-! The evaluator, part I: built-ins by values. -/
namespace HP
open PySem PySem.Spec PyProof.Rows L2
def Bi.val : Bi → Value
  | .len => .builtin "len" | .abs => .builtin "abs" | .int => .type "int" | .str => .type "str" | .repr => .builtin "repr" | .list => .type "list" | .tuple => .type "tuple"
  | .all => .builtin "all" | .any => .builtin "any" | .sum => .builtin "sum" | .sorted => .builtin "sorted" | .max => .builtin "max" | .min => .builtin "min" | .gcd => .builtin "math.gcd" | .dict => .type "dict"
section
variable {W : Wd} {C : Cx}
theorem reps1 {φ : List Addr} {H : Hp} {x : X} {vs : List V} (r : Reps W φ H [x] vs) : ∃ v, vs = [v] ∧ Rep W φ H x v := by
  obtain ⟨v, s, rfl, r1, r2⟩ := r
  cases r2
  exact ⟨v, rfl, r1⟩
theorem reps2 {φ : List Addr} {H : Hp} {x y : X} {vs : List V} (r : Reps W φ H [x, y] vs) : ∃ v u, vs = [v, u] ∧ Rep W φ H x v ∧ Rep W φ H y u := by
  obtain ⟨v, s, rfl, r1, r2⟩ := r
  obtain ⟨u, rfl, r3⟩ := reps1 r2
  exact ⟨v, u, rfl, r1, r3⟩
theorem rep_lsts {φ : List Addr} {h : Hq} {H : Hp} {x : X} {xs : List X} {v : V} (R : Rel W φ h H) (r : Rep W φ H x v) (e : lstS x h = some xs) : ∃ a vs, v = .ref a ∧ SqL W.K H a vs ∧ Reps W φ H xs vs := by
  unfold lstS at e
  split at e
  · cases e
    obtain ⟨a, vs, e, h1, h2⟩ := r
    exact ⟨a, vs, e, .inl (.inl h1.2), h2⟩
  · cases e
    obtain ⟨a, vs, e, h1, h2⟩ := r
    exact ⟨a, vs, e, h1.sq, h2⟩
  · split at e
    · rename_i hl
      cases e
      obtain ⟨a, e1, e2, vs, e3, q⟩ := R.ob r hl
      exact ⟨a, vs, e1, .inl (.inl e3), q⟩
    · cases e
  · cases e
theorem reps_bools {φ : List Addr} {H : Hp} : ∀ {xs : List X} {bs : List Bool} {vs : List V}, bools xs = some bs → Reps W φ H xs vs → vs = bs.map V.bl
  | [], bs, vs, e, r => by
    cases e
    cases r
    rfl
  | x :: xs, bs, vs, e, r => by
    obtain ⟨v, s, rfl, r1, r2⟩ := r
    cases x <;> simp [bools] at e
    obtain ⟨cs, e1, rfl⟩ := e
    cases r1
    rw [reps_bools e1 r2]
    rfl
/-- repr of data -/
theorem call_repr (hK : C.K = W.K) (hg : C.A.guards = some []) (hu : C.A.units + 100 < cLine) {φ : List Addr} {h : Hq} {pins : List (Addr × Obj)} {s : Shared} {σ : SlotL} {H : Hp} {x : X} {t : Str} {v : V} {vv : Value} {Q : VK}
    (I : L2.Inv C pins σ H s) (rv : L2.RelV v vv) (R : Rel W φ h H) (rx : Rep W φ H x v) (e : reprX x h = some t) (q : Q (.str t) H) : wpAny (model C.prog C.w) C.A (call (.builtin "repr") [vv]) (EP C pins σ Q) C.xe s := by
  unfold reprX at e
  simp only at e
  split at e
  · rename_i hd
    simp only [Bool.and_eq_true] at hd
    obtain ⟨⟨h1, h2⟩, h3⟩ := hd
    cases e
    have d : Dp C.K H v (redX x h).toD := by rw [hK]; exact dp_red R rx h1
    obtain ⟨as, r⟩ := Dp.reads I _ v vv d rv
    have sh := shaped_of h1
    have dep := SeqAt.depth_of_shaped sh
    have hz := szSeq_le h3
    generalize (redX x h).toD = d0 at *
    have lay := SeqAt.canLay_of_shaped sh
    have nd := PyData.hasDict_of_canLay d0 lay
    have flat : ∀ tx : Str, tx = d0.shown → ∀ tk t2, EP C pins σ Q (.str tx tk) { s with toks := t2 } := fun tx ht tk t2 => by
      subst ht
      exact ⟨.str _, H, I.tok _, ⟨_, rfl⟩, q⟩
    cases r with
    | none => exact P.repr_of_none (flat _ (by simp [PyData.shown]) _ _)
    | bool b => exact P.repr_of_bool (flat _ (by simp [PyData.shown]) _ _)
    | int i t => exact P.repr_of_int (by simpa [PyData.showable] using h2) (flat _ (by simp [PyData.shown]) _ _)
    | str z t => exact P.repr_of_str (flat _ (by simp [PyData.shown]) _ _) (by simpa [PyData.shown] using hz)
    | list a1 a2 a3 a4 =>
      exact repr_of_reads' (.list a1 a2 a3 a4) h2 (PyData.noDict_hsm nd) hg (by omega) (fun _ _ e => e) (fun h' u tk hk => ⟨.str _, H, I.kept (t' := tk) hk, ⟨_, rfl⟩, q⟩) hz
    | tuple a1 a2 a3 a4 =>
      exact repr_of_reads' (.tuple a1 a2 a3 a4) h2 (PyData.noDict_hsm nd) hg (by omega) (fun _ _ e => e) (fun h' u tk hk => ⟨.str _, H, I.kept (t' := tk) hk, ⟨_, rfl⟩, q⟩) hz
    | dict => simp [PyData.hasDict] at nd
  · cases e
theorem call_bi (hK : C.K = W.K) (hc : C.calm = true) (hg : C.A.guards = some []) (hu : C.A.units + 100 < cLine) {m : Bool} {b : Bi} : CallR C b.val (vC W (biX m b)) := by
  intro pins s σ H vs us Q I rv k
  obtain ⟨φ, h, xs, z, h', rx, R, e, a⟩ := k
  unfold biX at e
  split at e
  · -- len
    obtain ⟨v, rfl, r1⟩ := reps1 rx
    split at e
    · split at e
      · rename_i hz
        cases e
        cases r1
        exact call_len pins s σ H _ us Q I rv ⟨_, _, rfl, ⟨szSeq_le hz, rfl⟩, a.here R rep_int⟩
      · cases e
    · split at e
      · rename_i hx
        cases e
        obtain ⟨p, ws, rfl, hs, q⟩ := rep_seq R r1 hx
        rw [← hK] at hs
        refine call_len pins s σ H _ us Q I rv ⟨_, ws.length, rfl, hs.imp (fun z => ⟨ws, z, rfl⟩) fun z => ⟨ws, z, rfl⟩, ?_⟩
        rw [← q.length]
        exact a.here R rep_int
      · cases e
  · cases e
    obtain ⟨v, rfl, r1⟩ := reps1 rx
    cases r1
    exact call_abs pins s σ H _ us Q I rv ⟨_, rfl, a.here R rep_int⟩
  · cases e
    obtain ⟨v, rfl, r1⟩ := reps1 rx
    cases r1
    exact call_int1 pins s σ H _ us Q I rv (.inl ⟨_, rfl, a.here R rep_int⟩)
  · cases e
    obtain ⟨v, rfl, r1⟩ := reps1 rx
    cases r1
    exact call_int1 pins s σ H _ us Q I rv (.inr ⟨_, rfl, a.here R rep_int⟩)
  · cases e
    obtain ⟨v, rfl, r1⟩ := reps1 rx
    cases r1
    exact SkE.call_str_str pins s σ H _ us Q I rv ⟨_, rfl, a.here R rep_str⟩
  · split at e
    · rename_i hz
      cases e
      obtain ⟨v, rfl, r1⟩ := reps1 rx
      cases r1
      exact call_str_int pins s σ H _ us Q I rv ⟨_, rfl, of_decide_eq_true hz, a.here R rep_str⟩
    · cases e
  · split at e
    · rename_i t ht
      cases e
      obtain ⟨v, rfl, r1⟩ := reps1 rx
      obtain ⟨u, rfl, ru⟩ := vals1 rv
      exact call_repr hK hg hu I ru R r1 ht (a.here R rep_str)
    · cases e
  · split at e
    · rename_i hx
      obtain ⟨v, rfl, r1⟩ := reps1 rx
      obtain ⟨p, ws, rfl, hs, q⟩ := rep_seq R r1 hx
      obtain ⟨_, k⟩ := Aft.newL R q e a
      rw [← hK] at hs
      exact call_list_of pins s σ H _ us Q I rv ⟨p, ws, rfl, hs, k⟩
    · cases e
  · split at e
    · rename_i hx
      cases e
      obtain ⟨v, rfl, r1⟩ := reps1 rx
      unfold seqX at hx
      have lst : ∀ {p : Addr} {ws : List V}, v = .ref p → SqL W.K H p ws → Reps W φ H _ ws → wpAny (model C.prog C.w) C.A (call Bi.tuple.val us) (EP C pins σ Q) C.xe s := fun e1 e2 e3 => by
        subst e1
        rw [← hK] at e2
        exact call_tuple_of pins s σ H _ us Q I rv ⟨_, _, rfl, .inl ⟨e2, a.tup R e3⟩⟩
      split at hx
      · cases hx
        obtain ⟨p, ws, rfl, t, q⟩ := rep_tup r1
        rw [← hK] at t
        exact call_tuple_of pins s σ H _ us Q I rv ⟨p, ws, rfl, .inr ⟨t, a.here R r1⟩⟩
      · cases hx
        obtain ⟨p, ws, rfl, t, q⟩ := r1
        exact lst rfl t.sq q
      · cases hx
        obtain ⟨p, ws, rfl, t, q⟩ := r1
        exact lst rfl t.sq q
      · split at hx
        · rename_i hl
          cases hx
          obtain ⟨p, e1, e2, ws, e3, q⟩ := R.ob r1 hl
          exact lst e1 (.inl (.inl e3)) q
        · cases hx
      · cases hx
    · cases e
  · split at e
    · rename_i bs hx
      cases e
      obtain ⟨v, rfl, r1⟩ := reps1 rx
      rw [Option.bind_eq_some_iff] at hx
      obtain ⟨ys, e1, e2⟩ := hx
      obtain ⟨p, ws, rfl, t, q⟩ := rep_lsts R r1 e1
      rw [reps_bools e2 q, ← hK] at t
      exact cr_all hc pins s σ H _ us Q I rv ⟨p, bs, rfl, t, a.here R rep_bl⟩
    · cases e
  · split at e
    · rename_i bs hx
      cases e
      obtain ⟨v, rfl, r1⟩ := reps1 rx
      rw [Option.bind_eq_some_iff] at hx
      obtain ⟨ys, e1, e2⟩ := hx
      obtain ⟨p, ws, rfl, t, q⟩ := rep_lsts R r1 e1
      rw [reps_bools e2 q, ← hK] at t
      exact cr_any hc pins s σ H _ us Q I rv ⟨p, bs, rfl, t, a.here R rep_bl⟩
    · cases e
  · cases e
    obtain ⟨v, u, rfl, r1, r2⟩ := reps2 rx
    cases r1
    cases r2
    exact call_max2 hc pins s σ H _ us Q I rv ⟨_, _, rfl, a.here R rep_int⟩
  · cases e
    obtain ⟨v, u, rfl, r1, r2⟩ := reps2 rx
    cases r1
    cases r2
    exact call_min2 hc pins s σ H _ us Q I rv ⟨_, _, rfl, a.here R rep_int⟩
  · cases e
    obtain ⟨v, u, rfl, r1, r2⟩ := reps2 rx
    cases r1
    cases r2
    exact cr_gcd pins s σ H _ us Q I rv ⟨_, _, rfl, a.here R rep_int⟩
  · cases e
theorem un_negX {m : Unit} : UnR C (unaryOp .USub) (vU W fun x h => match x with
    | .int i => .ok (.int (-i)) h
    | _ => .bad) := by
  intro pins s σ H v vv Q I rv k
  obtain ⟨φ, h, x, z, h', rx, R, e, a⟩ := k
  simp only at e
  split at e
  · cases e
    cases rx
    exact un_neg pins s σ H _ vv Q I rv ⟨_, rfl, a.here R rep_int⟩
  · cases e
theorem mt_appendX {m : Bool} : MtR C "list.append" (vM W (bmX m .append)) := by
  intro pins s σ H v vs vv us Q I rv rvs k
  obtain ⟨φ, h, x, xs, z, h', rx, rxs, R, e, a⟩ := k
  unfold bmX at e
  split at e
  · rename_i l y h1 h2
    split at e
    · rename_i hl
      split at e
      · rename_i hz
        cases e
        obtain ⟨u, rfl, r1⟩ := reps1 rxs
        obtain ⟨p, ev, e2, ws, e3, q⟩ := R.ob rx hl
        subst ev
        have mp : p ∈ φ := List.mem_of_getElem? e2
        refine mt_append pins s σ H _ _ vv us Q I rv rvs ⟨p, ws, u, rfl, rfl, e3, ?_, ?_⟩
        · have := szSeq_le hz
          rw [q.length] at this
          omega
        · refine a φ _ _ (.write mp) (R.write e2 ⟨_, rfl, ?_⟩) rep_non
          exact (q.ext (.write mp)).append ⟨u, [], rfl, r1.ext (.write mp), rfl⟩
      · cases e
    · cases e
  · exact absurd ‹Bm.append = Bm.bitlen› (by decide)
  · cases e
end
end HP

set_option Elab.async false
set_option linter.all false
set_option maxRecDepth 10000
set_option maxHeartbeats 1000000
/-! The evaluator, part J: what a program's text must have; expressions. -/
namespace HP
open PySem PySem.Spec PyProof.Rows L2
/-- the names that must be the built-ins' -/
def bnames : List Str := L2s ["len", "abs", "int", "str", "repr", "list", "tuple", "all", "any", "sum", "sorted", "max", "min", "dict", "range", "zip", "enumerate", "isinstance", "bool"]
structure ClFacts (W : Wd) (c : Nat) (d : ClD) : Prop where
  cls : Cls W.K (W.ca c)
  noat : ∀ f ∈ d.flds, NoAttr W.K (W.ca c) (W.T.fld f) ∧ f < W.nf
  meth : ∀ p ∈ d.mths, Meth W.K (W.ca c) (W.T.fld p.1) (W.fa p.2) ∧ p.1 ∉ d.flds ∧ p.1 < W.nf
  ini : ∀ f, d.init = some f → Mk W.K (W.ca c) (W.fa f)
  ini0 : d.init = none → PySem.W.makesIn W.K (W.ca c) = true ∧ PySem.W.findIn W.K (.ref (W.ca c)) "__init__" = some (some (.builtin "object.__init__")) ∧ PySem.W.keepIn W.K (.ref (W.ca c)) = true
  isa : PySem.W.findIn W.K (.ref (W.ca c)) "__class__" = some (some (.builtin "object.__class__")) ∧ PySem.W.mroIn W.K (W.ca c) (.type "object") = some true
  eq : ∀ f, d.eq = some f → PySem.W.findIn W.K (.ref (W.ca c)) "__eq__" = some (some (.ref (W.fa f))) ∧ PySem.W.isFn W.K (.ref (W.fa f)) = true ∧ (W.P.fn f).isSome = true ∧ dflX W.P f 2 = []
  ne : ∀ f, d.ne = some f → PySem.W.findIn W.K (.ref (W.ca c)) "__ne__" = some (some (.ref (W.fa f))) ∧ PySem.W.isFn W.K (.ref (W.fa f)) = true ∧ (W.P.fn f).isSome = true ∧ dflX W.P f 2 = []
  nfst : d.eq.isSome = true ∨ d.ne.isSome = true → ∀ c2, (W.P.cl c2).isSome = true → PySem.W.notFirst W.K (W.ca c) (.ref (W.ca c2)) = true
/-- a value's class, a class that is asked for -/
inductive Kd where | non | bl | int | str | tup | lst | dct | ins (c : Nat)
def Kd.val (W : Wd) : Kd → Value
  | .non => .type "NoneType" | .bl => .type "bool" | .int => .type "int" | .str => .type "str" | .tup => .type "tuple" | .lst => .type "list" | .dct => .type "dict" | .ins c => .ref (W.ca c)
def Tk.val (W : Wd) : Tk → Value
  | .tint => .type "int" | .tbool => .type "bool" | .tstr => .type "str" | .tlist => .type "list" | .ttuple => .type "tuple" | .tnone => .type "NoneType" | .cls c => .ref (W.ca c)
def kdIs : Kd → Tk → Option Bool
  | k, .tint => some (match k with | .int | .bl => true | _ => false)
  | k, .tbool => some (match k with | .bl => true | _ => false)
  | k, .tstr => some (match k with | .str => true | _ => false)
  | k, .tlist => some (match k with | .lst => true | _ => false)
  | k, .ttuple => some (match k with | .tup => true | _ => false)
  | _, .tnone => none
  | k, .cls c => some (match k with | .ins d => d == c | _ => false)
def Wd.z (W : Wd) (Z : List Addr) : Wd := { W with Z := Z }
structure Facts (W : Wd) (mg : Str → Option Value) : Prop where
  fn : ∀ f, (W.T.fn f).cps.size ≠ 0 → mg (W.T.fn f) = some (.ref (W.fa f))
  cl : ∀ c, (W.T.cl c).cps.size ≠ 0 → mg (W.T.cl c) = some (.ref (W.ca c))
  cst : ∀ k x, W.P.cst k = some x → ∃ u v, mg (W.T.cst k) = some u ∧ RelV v u ∧ ∀ Z φ H, Rep (W.z Z) φ H x v
  free : ∀ x ∈ bnames, mg x = none
  gcd : W.T.gcd = true → mg "gcd" = some (.builtin "math.gcd")
  keep : ∀ f d, W.P.fn f = some d → PySem.W.keepIn W.K (.ref (W.fa f)) = true
  cls : ∀ c d, W.P.cl c = some d → ClFacts W c d
  isg : PySem.W.specialIn W.K (.builtin "object.__class__") "__get__" = some (some (.builtin "getset_descriptor.__get__")) ∧ PySem.W.takesIn W.K (.builtin "object.__class__") = some true
  kit : ∀ k t b, kdIs k t = some b → (∀ c, k = .ins c → (W.P.cl c).isSome) → (∀ c, t = .cls c → (W.T.cl c).cps.size ≠ 0) → PySem.W.kitOne W.K (k.val W) (t.val W) = some b
/-- what a call promises -/
def spC (W : Wd) (cl : Cll) (f : Nat) : Sp := fun vs H Q _ => ∃ Z φ h xs x h', Reps (W.z Z) φ H xs vs ∧ Rel (W.z Z) φ h H ∧ cl f (xs ++ dflX W.P f xs.length) h = .ok x h' ∧ Aft (W.z Z) φ H x h' Q
def FnG (P : Program) (w : World) (K : PySem.W.Frag) (mg : Str → Option Value) (base : Heap) (A : Around) (f : Addr) (sp : Sp) : Prop :=
  ∀ (outer : List Env) (s : Shared) (H : Hp) (us : List Value) (vs : List V) (Q : VK), Env0 P w K mg base A outer s H → Vals vs us → sp vs H Q E0 → codeAny (model P w) A (.call (.ref f) ⟨us, []⟩) (CR CX0 outer P w H s Q E0) s
/-- .. of a lambda -/
def spL (W : Wd) (cl : Cll) (f : Nat) : List V → Hp → VK → Prop := fun vs H Q => ∃ Z φ h xs x h', Reps (W.z Z) φ H xs vs ∧ Rel (W.z Z) φ h H ∧ lamX W.P cl f xs h = .ok x h' ∧ Aft (W.z Z) φ H x h' Q
def FnL (P : Program) (w : World) (W : Wd) (K : PySem.W.Frag) (mg : Str → Option Value) (base : Heap) (A : Around) (cl : Cll) (f : Nat) : Prop :=
  ∀ (outer : List Env) (s : Shared) (H : Hp) (us : List Value) (vs : List V) (Q : VK) (a c : Addr) (q : Str), Env0 P w K mg base A outer s H → Vals vs us → H a = some (LamO W f a c q) → H c = some (LamX.CodeO c q) → spL W cl f vs H Q → codeAny (model P w) A (.call (.ref a) ⟨us, []⟩) (CR CX0 outer P w H s Q E0) s
/-- .. of an __init__ that is handed keywords -/
def FnK (P : Program) (w : World) (K : PySem.W.Frag) (mg : Str → Option Value) (base : Heap) (A : Around) (f : Addr) (ks : List Str) (pm : List Nat) (sp : Sp) : Prop :=
  ∀ (outer : List Env) (s : Shared) (H : Hp) (u : Value) (v : V) (ws : List Value) (zs zs' : List V) (Q : VK), Env0 P w K mg base A outer s H → RelV v u → Vals zs ws → ws.length = ks.length → permL pm zs = some zs' → sp (v :: zs') H Q E0 → codeAny (model P w) A (.call (.ref f) ⟨[u], ks.zip ws⟩) (CR CX0 outer P w H s Q E0) s
structure Okc (W : Wd) (N : List Str) (k : Nat) (cl : Cll) (C : Cx) : Prop where
  hN : C.N = N
  nd : N.Nodup
  hK : C.K = W.K
  calm : C.calm = true
  room : Room (k + 1) C.A
  guards : C.A.guards = some []
  facts : Facts W C.mg
  clno : ∀ f xs h, W.P.fn f = none → cl f xs h = .bad
  calls : ∀ f d, W.P.fn f = some d → ∀ A, Room k A → A.guards = some [] → FnG C.prog C.w C.K C.mg C.base A (W.fa f) (spC W cl f)
  kcalls : ∀ c ks pm d f fd, (c, ks, pm) ∈ W.T.kws → W.P.cl c = some d → d.init = some f → W.P.fn f = some fd → ∀ A, Room k A → A.guards = some [] → FnK C.prog C.w C.K C.mg C.base A (W.fa f) ks pm (spC W cl f)
  lcalls : ∀ f, (W.T.lamF f).isSome = true → ∀ A, Room k A → A.guards = some [] → FnL C.prog C.w W C.K C.mg C.base A cl f
  lam : N = W.T.lamN → ∃ c P, C.env.code = .ref c ∧ LamX.TabB C.base C.mg c P ∧ W.tab = some (P, C.env.qual ++ "<lambda>")
section
variable {W : Wd} {N : List Str} {k : Nat} {cl : Cll} {C : Cx} {sc : Scope} {x : Expr}
theorem Okc.units (ok : Okc W N k cl C) : C.A.units + 100 < cLine := by have := ok.room.un; omega
theorem eqS_iff {a b : Str} (h : eqS a b = true) : a = b := of_decide_eq_true h
theorem vis_of {sc : Scope} {x : Str} (h : visB sc x = true) : Vis sc x := by
  unfold visB at h
  split at h
  · exact .inl (by assumption)
  · exact .inr (.inl (by assumption))
  · exact .inr (.inr (by assumption))
  · cases h
theorem loc_of {sc : Scope} {x : Str} (h : locB sc x = true) : Loc sc x := by
  unfold locB at h
  split at h
  · exact .inl (by assumption)
  · exact .inr (by assumption)
  · cases h
theorem nmAt_of {N : List Str} {i : Nat} {x : Str} (h : nmAt N i x = true) : N[i]? = some x := by
  unfold nmAt at h
  split at h
  · rename_i y hy
    rw [hy, eqS_iff h]
  · cases h
theorem gl_of {sc : Scope} {x : Str} (h : gloB sc x = true) : sc.names.lookup x = some .globalImplicit := by
  unfold gloB at h
  split at h
  · assumption
  · cases h
theorem isGlo_of {sc : Scope} {nm x : Str} (h : isGlo sc nm x = true) (e : C.env.scope = sc) : nm = x ∧ Gl C x ∧ (x == ("__debug__" : Str)) = false ∧ x.cps.size ≠ 0 := by
  unfold isGlo okNm at h
  simp only [Bool.and_eq_true, Bool.not_eq_true', decide_eq_true_eq] at h
  obtain ⟨⟨⟨h1, h2⟩, h3, _⟩, h4⟩ := h
  refine ⟨eqS_iff h1, ?_, h3, h4⟩
  unfold Gl Env.kindOf
  rw [e]
  exact gl_of h2
/-- an atom -/
theorem tE_at {σ : SlotL} {H : Hp} {Q : VK} {x : X} {v : V} (hr : ∀ φ H, Rep W φ H x v) (q : tE W (fun _ => .ret x) σ H Q) : tC v σ H Q := by
  obtain ⟨φ, e, h, y, h', E, R, q, a⟩ := q
  cases q
  exact a φ H v .refl R (hr _ _)
theorem pe_varX (ok : Okc W N k cl C) (hsc : C.env.scope = sc) {i : Nat} (h : chE W.T N (.var i) sc x = true) : PE C x (tE W (evE W.P cl (.var i))) := by
  cases x <;> first | (exact absurd h Bool.false_ne_true) | skip
  rename_i y p
  have h : (nmAt N i y && visB sc y && okNm y) = true := h
  unfold okNm at h
  simp only [Bool.and_eq_true, Bool.not_eq_true'] at h
  obtain ⟨⟨h1, h2⟩, h3, h4⟩ := h
  refine PE.imp (pe_var (by rw [ok.hN]; exact nmAt_of h1) (by rw [hsc]; exact vis_of h2) h3 h4) fun σ H Q q => ?_
  obtain ⟨φ, e, h, z, h', E, R, q, a⟩ := q
  have q : getV e i h = .ok z h' := q
  unfold getV at q
  split at q
  · rename_i w hw
    cases q
    obtain ⟨v, g1, g2⟩ := E.at_ i _ hw
    exact ⟨v, g1, a φ H v .refl R g2⟩
  · cases q
theorem pe_nonX {e0 : E} (he : e0 = .non) (h : chE W.T N e0 sc x = true) : PE C x (tE W (evE W.P cl e0)) := by
  subst he
  cases x <;> first | (exact absurd h Bool.false_ne_true) | skip
  rename_i c n p
  cases c <;> first | (exact absurd h Bool.false_ne_true) | skip
  exact PE.imp pe_non fun σ H Q q => tE_at (fun _ _ => rep_non) q
theorem pe_blX {b : Bool} (h : chE W.T N (.bl b) sc x = true) : PE C x (tE W (evE W.P cl (.bl b))) := by
  cases x <;> first | (exact absurd h Bool.false_ne_true) | skip
  rename_i c n p
  cases c <;> first | (exact absurd h Bool.false_ne_true) | skip
  rename_i d
  have h : (b == d) = true := h
  have e : b = d := by simpa using h
  subst e
  exact PE.imp pe_bl fun σ H Q q => tE_at (fun _ _ => rep_bl) q
theorem pe_intX {b : Int} (h : chE W.T N (.int b) sc x = true) : PE C x (tE W (evE W.P cl (.int b))) := by
  cases x <;> first | (exact absurd h Bool.false_ne_true) | skip
  rename_i c n p
  cases c <;> first | (exact absurd h Bool.false_ne_true) | skip
  rename_i d
  have e : b = d := of_decide_eq_true h
  subst e
  exact PE.imp pe_int fun σ H Q q => tE_at (fun _ _ => rep_int) q
theorem pe_strX {b : Str} (h : chE W.T N (.str b) sc x = true) : PE C x (tE W (evE W.P cl (.str b))) := by
  cases x <;> first | (exact absurd h Bool.false_ne_true) | skip
  rename_i c n p
  cases c <;> first | (exact absurd h Bool.false_ne_true) | skip
  rename_i d
  have e : b = d := of_decide_eq_true h
  subst e
  exact PE.imp pe_str fun σ H Q q => tE_at (fun _ _ => rep_str) q
theorem pe_cstX (ok : Okc W N k cl C) (hsc : C.env.scope = sc) {i : Nat} (h : chE W.T N (.cst i) sc x = true) : PE C x (tE W (evE W.P cl (.cst i))) := by
  cases x <;> first | (exact absurd h Bool.false_ne_true) | skip
  rename_i y p
  obtain ⟨e1, e2, e3, e4⟩ := isGlo_of (nm := W.T.cst i) h hsc
  cases hc : W.P.cst i with
  | none =>
    refine ⟨fun pins s σ H Q I q => ?_⟩
    obtain ⟨φ, e, h, z, h', E, R, q, a⟩ := q
    have q : M.opt (W.P.cst i) h = .ok z h' := q
    rw [hc] at q
    cases q
  | some w =>
    obtain ⟨u, v, g1, g2, g3⟩ := ok.facts.cst i w hc
    rw [e1] at g1
    refine PE.imp (pe_glob e2 g1 g2 e3) fun σ H Q q => tE_at (g3 W.Z) ?_
    obtain ⟨φ, e, h, z, h', E, R, q, a⟩ := q
    have q : M.opt (W.P.cst i) h = .ok z h' := q
    rw [hc] at q
    exact ⟨φ, e, h, z, h', E, R, q, a⟩
theorem pe_tupX {es : Es} (h : chE W.T N (.tup es) sc x = true) (ih : ∀ xs, chEs W.T N es sc xs = true → PA C xs (tL W (evEs W.P cl es))) : PE C x (tE W (evE W.P cl (.tup es))) := by
  cases x <;> first | (exact absurd h Bool.false_ne_true) | skip
  rename_i xs n p
  refine PE.imp (pe_tup (ih xs h)) fun σ H Q q => ?_
  obtain ⟨φ, e, h, z, h', E, R, q, a⟩ := q
  obtain ⟨ys, h1, q1, q2⟩ := bnd_eq q
  have q2 : (if szSeq ys.length then .ok (.tup ys) h1 else .bad) = HP.R.ok z h' := q2
  split at q2
  · rename_i hz
    cases q2
    refine ⟨φ, e, h, ys, h', E, R, q1, fun φ' H' vs x' R' r => ⟨by rw [← r.length]; exact szSeq_le hz, ?_⟩⟩
    have a' : Aft W φ' H' (.tup ys) h' Q := fun φ2 H2 v x2 R2 r2 => a φ2 H2 v (x'.trans x2) R2 r2
    exact a'.tup R' r
  · cases q2
theorem pe_lstX {m : Bool} {es : Es} (h : chE W.T N (.lst m es) sc x = true) (ih : ∀ xs, chEs W.T N es sc xs = true → PA C xs (tL W (evEs W.P cl es))) : PE C x (tE W (evE W.P cl (.lst m es))) := by
  cases x <;> first | (exact absurd h Bool.false_ne_true) | skip
  rename_i xs p
  refine PE.imp (pe_lst (ih xs h)) fun σ H Q q => ?_
  obtain ⟨φ, e, h, z, h', E, R, q, a⟩ := q
  obtain ⟨ys, h1, q1, q2⟩ := bnd_eq q
  refine ⟨φ, e, h, ys, h1, E, R, q1, fun φ' H' vs x' R' r => ?_⟩
  have a' : Aft W φ' H' z h' Q := fun φ2 H2 v x2 R2 r2 => a φ2 H2 v (x'.trans x2) R2 r2
  exact a'.newL R' r q2
theorem pe_binX (ok : Okc W N k cl C) {m : Bool} {o : Op} {a b : E} (h : chE W.T N (.bin m o a b) sc x = true) (iha : ∀ y, chE W.T N a sc y = true → PE C y (tE W (evE W.P cl a))) (ihb : ∀ y, chE W.T N b sc y = true → PE C y (tE W (evE W.P cl b)))
    (h1 : OpR C (binaryOp .Mult) (fun x y H Q => ∃ l xs, x = .ref l ∧ y = .int 1 ∧ SqT C.K H l xs ∧ Q (.ref l) H)) : PE C x (tE W (evE W.P cl (.bin m o a b))) := by
  cases x <;> first | (exact absurd h Bool.false_ne_true) | skip
  rename_i y op z p
  have h : (opB o op && chE W.T N a sc y && chE W.T N b sc z) = true := h
  simp only [Bool.and_eq_true] at h
  exact PE.imp (pe_op (op_binX ok.hK h.1.1 h1) (iha _ h.1.2) (ihb _ h.2)) fun σ H Q q => tE_bin q
theorem pe_negX {a : E} (h : chE W.T N (.neg a) sc x = true) (iha : ∀ y, chE W.T N a sc y = true → PE C y (tE W (evE W.P cl a))) : PE C x (tE W (evE W.P cl (.neg a))) := by
  cases x <;> first | (exact absurd h Bool.false_ne_true) | skip
  rename_i op y p
  cases op <;> first | (exact absurd h Bool.false_ne_true) | skip
  exact PE.imp (pe_un (un_negX (m := ())) (iha _ h)) fun σ H Q q => tE_un q
theorem pe_iteX {c a b : E} (h : chE W.T N (.ite c a b) sc x = true) (ihc : ∀ y, chE W.T N c sc y = true → PT C y (tT W fun e => (evE W.P cl c e).bnd truM)) (iha : ∀ y, chE W.T N a sc y = true → PE C y (tE W (evE W.P cl a)))
    (ihb : ∀ y, chE W.T N b sc y = true → PE C y (tE W (evE W.P cl b))) : PE C x (tE W (evE W.P cl (.ite c a b))) := by
  cases x <;> first | (exact absurd h Bool.false_ne_true) | skip
  rename_i u y z p
  have h : (chE W.T N c sc u && chE W.T N a sc y && chE W.T N b sc z) = true := h
  simp only [Bool.and_eq_true] at h
  refine PE.imp (pe_ifExp (ihc _ h.1.1) (iha _ h.1.2) (ihb _ h.2)) fun σ H Q q => ?_
  obtain ⟨φ, e, h, z, h', E, R, q, a⟩ := q
  obtain ⟨w, h1, q1, q2⟩ := bnd_eq q
  obtain ⟨t, h2, q3, q4⟩ := bnd_eq q2
  refine ⟨φ, e, h, t, h2, E, R, ?_, fun φ' H' x' R' => ?_⟩
  · show (evE W.P cl c e h).bnd truM = _
    rw [q1]
    exact q3
  · cases t with
    | true => exact ⟨φ', e, h2, z, h', E.ext x', R', q4, fun φ2 H2 v x2 R2 r2 => a φ2 H2 v (x'.trans x2) R2 r2⟩
    | false => exact ⟨φ', e, h2, z, h', E.ext x', R', q4, fun φ2 H2 v x2 R2 r2 => a φ2 H2 v (x'.trans x2) R2 r2⟩
theorem pe_notX (ok : Okc W N k cl C) {a : E} (h : chE W.T N (.not a) sc x = true) (iha : ∀ y, chE W.T N a sc y = true → PE C y (tE W (evE W.P cl a))) : PE C x (tE W (evE W.P cl (.not a))) := by
  cases x <;> first | (exact absurd h Bool.false_ne_true) | skip
  rename_i op y p
  cases op <;> first | (exact absurd h Bool.false_ne_true) | skip
  refine PE.imp (pe_notT (iha _ h)) fun σ H Q q => ?_
  rw [ok.hK]
  obtain ⟨φ, e, h, z, h', E, R, q, a⟩ := q
  obtain ⟨w, h1, q1, q2⟩ := bnd_eq q
  obtain ⟨t, h2, q3, q4⟩ := bnd_eq q2
  cases q4
  refine ⟨φ, e, h, w, h1, E, R, q1, fun φ' H' v x' R' r => ?_⟩
  have q3 : truM w h1 = .ok t h' := q3
  unfold truM at q3
  split at q3
  · rename_i b hb
    cases q3
    exact vT_ex (Q := fun t H => Q (.bl (!t)) H) ⟨φ', h', w, t, r, R', hb, fun φ2 H2 x2 R2 => a φ2 H2 _ (x'.trans x2) R2 rep_bl⟩
  · cases q3
end
end HP

set_option Elab.async false
set_option linter.all false
set_option maxRecDepth 10000
set_option maxHeartbeats 1000000
/-! The evaluator, part K: tests, comparisons, calls. -/
namespace HP
open PySem PySem.Spec PyProof.Rows L2
section
variable {W : Wd} {N : List Str} {k : Nat} {cl : Cll} {C : Cx} {sc : Scope} {x : Expr}
theorem chE_and {T : Tb} {N : List Str} {a b : E} {sc : Scope} {y z : Expr} {r : List Expr} {pos : Pos} : chE T N (.and a b) sc (.BoolOp .And (y :: z :: r) pos) = (chE T N a sc y && (match r with | [] => chE T N b sc z | _ => chE T N b sc (.BoolOp .And (z :: r) pos))) := by cases r <;> rfl
theorem chE_or {T : Tb} {N : List Str} {a b : E} {sc : Scope} {y z : Expr} {r : List Expr} {pos : Pos} : chE T N (.or a b) sc (.BoolOp .Or (y :: z :: r) pos) = (chE T N a sc y && (match r with | [] => chE T N b sc z | _ => chE T N b sc (.BoolOp .Or (z :: r) pos))) := by cases r <;> rfl
abbrev tB (W : Wd) (cl : Cll) (a : E) : TT := tT W fun e => (evE W.P cl a e).bnd truM
theorem truM_ok {w : X} {h h' : Hq} {t : Bool} (q : truM w h = .ok t h') : h' = h ∧ truX w h = some t := by
  unfold truM at q
  split at q
  · rename_i b hb
    cases q
    exact ⟨rfl, hb⟩
  · cases q
theorem PW.imp {e : Expr} {t t' : TT} (p : PW C e t) (k : ∀ σ H Q, t' σ H Q → t σ H Q) : PW C e t' := ⟨fun whole pins s σ H Q I q => p.run whole pins s σ H Q I (k σ H Q q)⟩
/-- a truth that is known -/
theorem tru_next {φ φ' : List Addr} {H H' : Hp} {w : X} {v : V} {h : Hq} {t : Bool} {Q : Bool → Hp → Prop} (ht : truX w h = some t) (x' : Ext φ φ' H H') (R' : Rel W φ' h H') (r : Rep W φ' H' w v) (a : AftB W φ H t h Q) : vT W v H' Q :=
  ⟨φ', h, w, t, r, R', ht, fun φ2 H2 x2 R2 => a φ2 H2 (x'.trans x2) R2⟩
theorem pe_andX (ok : Okc W N k cl C) {a b : E} (h : chE W.T N (.and a b) sc x = true) (iha : ∀ y, chE W.T N a sc y = true → PE C y (tE W (evE W.P cl a))) (ihb : ∀ y, chE W.T N b sc y = true → PE C y (tE W (evE W.P cl b))) : PE C x (tE W (evE W.P cl (.and a b))) := by
  cases x <;> first | (exact absurd h Bool.false_ne_true) | skip
  rename_i op xs pos
  cases op <;> first | (exact absurd h Bool.false_ne_true) | skip
  cases xs with
  | nil => exact absurd h Bool.false_ne_true
  | cons y r =>
    cases r with
    | nil => exact absurd h Bool.false_ne_true
    | cons z r =>
      rw [chE_and] at h
      simp only [Bool.and_eq_true] at h
      have hb : PE C (.BoolOp .And (z :: r) pos) (tE W (evE W.P cl b)) := by
        cases r with
        | nil => exact pe_one (ihb _ h.2)
        | cons _ _ => exact ihb _ h.2
      refine PE.imp (pe_andT (iha _ h.1) hb) fun σ H Q q => ?_
      rw [ok.hK]
      obtain ⟨φ, e, h, z, h', E, R, q, aq⟩ := q
      obtain ⟨w, h1, q1, q2⟩ := bnd_eq q
      obtain ⟨t, h2, q3, q4⟩ := bnd_eq q2
      obtain ⟨rfl, ht⟩ := truM_ok q3
      refine ⟨φ, e, h, w, h2, E, R, q1, fun φ' H' v x' R' r => ?_⟩
      refine vT_ex (Q := fun t H => if t = true then tE W (evE W.P cl b) σ H Q else Q v H) ⟨φ', h2, w, t, r, R', ht, fun φ2 H2 x2 R2 => ?_⟩
      cases t with
      | true =>
        rw [if_pos rfl]
        exact ⟨φ2, e, h2, z, h', E.ext (x'.trans x2), R2, q4, fun φ3 H3 u x3 R3 r3 => aq φ3 H3 u ((x'.trans x2).trans x3) R3 r3⟩
      | false =>
        rw [if_neg Bool.false_ne_true]
        cases q4
        exact aq φ2 H2 v (x'.trans x2) R2 (r.ext x2)
theorem pe_orX (ok : Okc W N k cl C) {a b : E} (h : chE W.T N (.or a b) sc x = true) (iha : ∀ y, chE W.T N a sc y = true → PE C y (tE W (evE W.P cl a))) (ihb : ∀ y, chE W.T N b sc y = true → PE C y (tE W (evE W.P cl b))) : PE C x (tE W (evE W.P cl (.or a b))) := by
  cases x <;> first | (exact absurd h Bool.false_ne_true) | skip
  rename_i op xs pos
  cases op <;> first | (exact absurd h Bool.false_ne_true) | skip
  cases xs with
  | nil => exact absurd h Bool.false_ne_true
  | cons y r =>
    cases r with
    | nil => exact absurd h Bool.false_ne_true
    | cons z r =>
      rw [chE_or] at h
      simp only [Bool.and_eq_true] at h
      have hb : PE C (.BoolOp .Or (z :: r) pos) (tE W (evE W.P cl b)) := by
        cases r with
        | nil => exact pe_one (ihb _ h.2)
        | cons _ _ => exact ihb _ h.2
      refine PE.imp (pe_orT (iha _ h.1) hb) fun σ H Q q => ?_
      rw [ok.hK]
      obtain ⟨φ, e, h, z, h', E, R, q, aq⟩ := q
      obtain ⟨w, h1, q1, q2⟩ := bnd_eq q
      obtain ⟨t, h2, q3, q4⟩ := bnd_eq q2
      obtain ⟨rfl, ht⟩ := truM_ok q3
      refine ⟨φ, e, h, w, h2, E, R, q1, fun φ' H' v x' R' r => ?_⟩
      refine vT_ex (Q := fun t H => if t = true then Q v H else tE W (evE W.P cl b) σ H Q) ⟨φ', h2, w, t, r, R', ht, fun φ2 H2 x2 R2 => ?_⟩
      cases t with
      | false =>
        rw [if_neg Bool.false_ne_true]
        exact ⟨φ2, e, h2, z, h', E.ext (x'.trans x2), R2, q4, fun φ3 H3 u x3 R3 r3 => aq φ3 H3 u ((x'.trans x2).trans x3) R3 r3⟩
      | true =>
        rw [if_pos rfl]
        cases q4
        exact aq φ2 H2 v (x'.trans x2) R2 (r.ext x2)
/-! ### tests -/
def plainT : Expr → Bool
  | .UnaryOp .Not _ _ | .BoolOp .. | .IfExp .. | .Compare .. => false
  | _ => true
theorem isTrue_whole {e : Expr} (h : plainT e = true) (env : Env) (whole : Sem Value) : isTrue e env whole = (do let v ← whole; standAt e.pos; holding [v] (truthy v)) := by
  cases e <;> first | rfl | (exact absurd h Bool.false_ne_true) | skip
  rename_i op y p
  cases op <;> first | rfl | (exact absurd h Bool.false_ne_true)
theorem pt_plainX (ok : Okc W N k cl C) {a : E} (p : PE C x (tE W (evE W.P cl a))) (h : plainT x = true) : PT C x (tB W cl a) := by
  refine PT.imp (pt_truth p fun whole => isTrue_whole h C.env whole) fun σ H Q q => ?_
  rw [ok.hK]
  obtain ⟨φ, e, h, z, h', E, R, q, aq⟩ := q
  obtain ⟨w, h1, q1, q2⟩ := bnd_eq q
  obtain ⟨rfl, ht⟩ := truM_ok q2
  exact ⟨φ, e, h, w, h', E, R, q1, fun φ' H' v x' R' r => vT_ex (tru_next ht x' R' r aq)⟩
theorem pt_notX {a : E} (h : chE W.T N (.not a) sc x = true) (iha : ∀ y, chE W.T N a sc y = true → PT C y (tB W cl a)) : PT C x (tB W cl (.not a)) := by
  cases x <;> first | (exact absurd h Bool.false_ne_true) | skip
  rename_i op y p
  cases op <;> first | (exact absurd h Bool.false_ne_true) | skip
  refine PT.imp (pt_not (iha _ h)) fun σ H Q q => ?_
  obtain ⟨φ, e, h, z, h', E, R, q, aq⟩ := q
  obtain ⟨w, h1, q1, q2⟩ := bnd_eq q
  obtain ⟨w2, h2, q3, q4⟩ := bnd_eq q1
  obtain ⟨t, h3, q5, q6⟩ := bnd_eq q4
  cases q6
  obtain ⟨rfl, ht⟩ := truM_ok q2
  cases ht
  refine ⟨φ, e, h, t, _, E, R, ?_, fun φ' H' x' R' => aq φ' H' x' R'⟩
  show (evE W.P cl a e h).bnd truM = _
  rw [q3]
  exact q5
theorem pw_andX {a b : E} (h : chE W.T N (.and a b) sc x = true) (iha : ∀ y, chE W.T N a sc y = true → PT C y (tB W cl a)) (ihb : ∀ y, chE W.T N b sc y = true → PT C y (tB W cl b)) (ihw : ∀ ys pos, chE W.T N b sc (.BoolOp .And ys pos) = true → PW C (.BoolOp .And ys pos) (tB W cl b)) : PW C x (tB W cl (.and a b)) := by
  cases x <;> first | (exact absurd h Bool.false_ne_true) | skip
  rename_i op xs pos
  cases op <;> first | (exact absurd h Bool.false_ne_true) | skip
  cases xs with
  | nil => exact absurd h Bool.false_ne_true
  | cons y r =>
    cases r with
    | nil => exact absurd h Bool.false_ne_true
    | cons z r =>
      rw [chE_and] at h
      simp only [Bool.and_eq_true] at h
      have hb : PW C (.BoolOp .And (z :: r) pos) (tB W cl b) := by
        cases r with
        | nil => exact pw_and1 (ihb _ h.2)
        | cons _ _ => exact ihw _ _ h.2
      refine PW.imp (pw_and (iha _ h.1) hb) fun σ H Q q => ?_
      obtain ⟨φ, e, h, z, h', E, R, q, aq⟩ := q
      obtain ⟨w, h1, q1, q2⟩ := bnd_eq q
      obtain ⟨w2, h2, q3, q4⟩ := bnd_eq q1
      obtain ⟨t, h3, q5, q6⟩ := bnd_eq q4
      refine ⟨φ, e, h, t, h3, E, R, ?_, fun φ' H' x' R' => ?_⟩
      · show (evE W.P cl a e h).bnd truM = _
        rw [q3]
        exact q5
      · cases t with
        | true =>
          rw [if_pos rfl]
          refine ⟨φ', e, h3, z, h', E.ext x', R', ?_, fun φ2 H2 x2 R2 => aq φ2 H2 (x'.trans x2) R2⟩
          show (evE W.P cl b e h3).bnd truM = _
          have q6 : evE W.P cl b e h3 = .ok w h1 := q6
          rw [q6]
          exact q2
        | false =>
          rw [if_neg Bool.false_ne_true]
          cases q6
          obtain ⟨rfl, ht⟩ := truM_ok q5
          obtain ⟨rfl, ht2⟩ := truM_ok q2
          rw [ht] at ht2
          cases ht2
          exact aq φ' H' x' R'
theorem pw_orX {a b : E} (h : chE W.T N (.or a b) sc x = true) (iha : ∀ y, chE W.T N a sc y = true → PT C y (tB W cl a)) (ihb : ∀ y, chE W.T N b sc y = true → PT C y (tB W cl b)) (ihw : ∀ ys pos, chE W.T N b sc (.BoolOp .Or ys pos) = true → PW C (.BoolOp .Or ys pos) (tB W cl b)) : PW C x (tB W cl (.or a b)) := by
  cases x <;> first | (exact absurd h Bool.false_ne_true) | skip
  rename_i op xs pos
  cases op <;> first | (exact absurd h Bool.false_ne_true) | skip
  cases xs with
  | nil => exact absurd h Bool.false_ne_true
  | cons y r =>
    cases r with
    | nil => exact absurd h Bool.false_ne_true
    | cons z r =>
      rw [chE_or] at h
      simp only [Bool.and_eq_true] at h
      have hb : PW C (.BoolOp .Or (z :: r) pos) (tB W cl b) := by
        cases r with
        | nil => exact pw_or1 (ihb _ h.2)
        | cons _ _ => exact ihw _ _ h.2
      refine PW.imp (pw_or (iha _ h.1) hb) fun σ H Q q => ?_
      obtain ⟨φ, e, h, z, h', E, R, q, aq⟩ := q
      obtain ⟨w, h1, q1, q2⟩ := bnd_eq q
      obtain ⟨w2, h2, q3, q4⟩ := bnd_eq q1
      obtain ⟨t, h3, q5, q6⟩ := bnd_eq q4
      refine ⟨φ, e, h, t, h3, E, R, ?_, fun φ' H' x' R' => ?_⟩
      · show (evE W.P cl a e h).bnd truM = _
        rw [q3]
        exact q5
      · cases t with
        | false =>
          rw [if_neg Bool.false_ne_true]
          refine ⟨φ', e, h3, z, h', E.ext x', R', ?_, fun φ2 H2 x2 R2 => aq φ2 H2 (x'.trans x2) R2⟩
          show (evE W.P cl b e h3).bnd truM = _
          have q6 : evE W.P cl b e h3 = .ok w h1 := q6
          rw [q6]
          exact q2
        | true =>
          rw [if_pos rfl]
          cases q6
          obtain ⟨rfl, ht⟩ := truM_ok q5
          obtain ⟨rfl, ht2⟩ := truM_ok q2
          rw [ht] at ht2
          cases ht2
          exact aq φ' H' x' R'
theorem pw_ifExp {c a b : Expr} {pos : Pos} {tc t1 t2 : TT} (hc : PT C c tc) (ha : PT C a t1) (hb : PT C b t2) : PW C (.IfExp c a b pos) (fun σ H Q => tc σ H fun k H1 => if k = true then t1 σ H1 Q else t2 σ H1 Q) := by
  refine ⟨fun whole pins s σ H Q I q => ?_⟩
  unfold PySem.isTrue
  refine wpAny_bind (thn (hc.run pins s σ H _ I q) fun d s1 ⟨H1, I1, q1⟩ => ?_)
  cases d with
  | true => exact ha.run pins s1 σ H1 Q I1 (by simpa using q1)
  | false => exact hb.run pins s1 σ H1 Q I1 (by simpa using q1)
theorem pw_iteX {c a b : E} (h : chE W.T N (.ite c a b) sc x = true) (ihc : ∀ y, chE W.T N c sc y = true → PT C y (tB W cl c)) (iha : ∀ y, chE W.T N a sc y = true → PT C y (tB W cl a)) (ihb : ∀ y, chE W.T N b sc y = true → PT C y (tB W cl b)) : PW C x (tB W cl (.ite c a b)) := by
  cases x <;> first | (exact absurd h Bool.false_ne_true) | skip
  rename_i u y z p
  have h : (chE W.T N c sc u && chE W.T N a sc y && chE W.T N b sc z) = true := h
  simp only [Bool.and_eq_true] at h
  refine PW.imp (pw_ifExp (ihc _ h.1.1) (iha _ h.1.2) (ihb _ h.2)) fun σ H Q q => ?_
  obtain ⟨φ, e, h, z, h', E, R, q, aq⟩ := q
  obtain ⟨w, h1, q1, q2⟩ := bnd_eq q
  obtain ⟨w2, h2, q3, q4⟩ := bnd_eq q1
  obtain ⟨t, h3, q5, q6⟩ := bnd_eq q4
  refine ⟨φ, e, h, t, h3, E, R, ?_, fun φ' H' x' R' => ?_⟩
  · show (evE W.P cl c e h).bnd truM = _
    rw [q3]
    exact q5
  · cases t with
    | true =>
      rw [if_pos rfl]
      refine ⟨φ', e, h3, z, h', E.ext x', R', ?_, fun φ2 H2 x2 R2 => aq φ2 H2 (x'.trans x2) R2⟩
      show (evE W.P cl a e h3).bnd truM = _
      have q6 : evE W.P cl a e h3 = .ok w h1 := q6
      rw [q6]
      exact q2
    | false =>
      rw [if_neg Bool.false_ne_true]
      refine ⟨φ', e, h3, z, h', E.ext x', R', ?_, fun φ2 H2 x2 R2 => aq φ2 H2 (x'.trans x2) R2⟩
      show (evE W.P cl b e h3).bnd truM = _
      have q6 : evE W.P cl b e h3 = .ok w h1 := q6
      rw [q6]
      exact q2
end
end HP

set_option Elab.async false
set_option linter.all false
set_option maxRecDepth 10000
set_option maxHeartbeats 1000000
/-! The evaluator, part L: calls, own ==. -/
namespace HP
open PySem PySem.Spec PyProof.Rows L2
section
variable {W : Wd} {N : List Str} {k : Nat} {cl : Cll} {C : Cx} {sc : Scope} {x : Expr}
theorem rep_ins {φ : List Addr} {h : Hq} {H : Hp} {x : X} {c : Nat} {v : V} (R : Rel W φ h H) (r : Rep W φ H x v) (e : clsX x h = some c) : ∃ a dx fs, v = .ref a ∧ H a = some (.ins (W.ca c) dx fs) := by
  unfold clsX at e
  split at e
  · cases e
    obtain ⟨a, vs, rfl, ⟨_, dx, fs, d, h1, _⟩, _⟩ := r
    exact ⟨a, dx, fs, rfl, h1⟩
  · split at e
    · rename_i hl
      cases e
      obtain ⟨a, e1, e2, dx, gs, e3, _⟩ := R.ob r hl
      exact ⟨a, dx, gs, e1, e3⟩
    · cases e
  · cases e
/-- a def of the program is called, by values -/
theorem run_call (ok : Okc W N k cl C) {f : Nat} {d : FnD} (hf : W.P.fn f = some d) {A : Around} (hr : Room k A) (hg : A.guards = some []) (hfr : A.frames = C.A.frames) {pins : List (Addr × Obj)} {s : Shared} {σ : SlotL} {H : Hp} {us : List Value} {vs : List V} {Q : VK} (I : L2.Inv C pins σ H s) (rv : Vals vs us)
    (q : spC W cl f vs H Q E0) : codeAny (model C.prog C.w) A (.call (.ref (W.fa f)) ⟨us, []⟩) (CR CX0 C.stack C.prog C.w H s Q E0) s := by
  have e := I.env0
  exact ok.calls f d hf A hr hg C.stack s H us vs Q ⟨by rw [hfr]; exact e.frames, e.mod, e.bs, e.bsz, e.funs, e.frf, e.hok, e.bare⟩ rv q
theorem call_fnX (ok : Okc W N k cl C) {f : Nat} {d : FnD} (hf : W.P.fn f = some d) : CallR C (.ref (W.fa f)) (fun vs H Q => spC W cl f vs H Q E0) := by
  intro pins s σ H vs us Q I rv q
  refine wpAny_call (codeAny_mono (run_call ok hf (ok.room.mono (Nat.le_succ k)) ok.guards rfl I rv q) fun r s' hq => ?_)
  cases r with
  | error e => exact hq.elim
  | ok fl =>
    cases fl with
    | ret u => exact I.after hq
    | next => exact hq.elim
    | brk => exact hq.elim
    | cont => exact hq.elim
theorem op_eqM (ok : Okc W N k cl C) {o : Cp} {op : CmpOp} (ho : cpB o op = true) : OpR C (compareOp op) (vB W (eqM W.P cl o)) := by
  intro pins s σ H v u vv uu Q I rv ru q
  obtain ⟨φ, h, x, y, z, h', rx, ry, R, e, a⟩ := q
  have hu := ok.units
  -- the class's own
  have own : ∀ {c f : Nat} {d : ClD} (hc : clsX x h = some c) (hd : W.P.cl c = some d) (he : PySem.W.findIn W.K (.ref (W.ca c)) (PySem.cmpInfo op).2.1 = some (some (.ref (W.fa f))) ∧ PySem.W.isFn W.K (.ref (W.fa f)) = true ∧ (W.P.fn f).isSome = true ∧ dflX W.P f 2 = []) (hq : compareOp op vv uu = richCompare op vv uu),
      (if ((clsX y h).bind W.P.cl).isSome then (cl f [x, y] h).bnd fun v h1 => match v with
      | .bl b => .ok (.bl b) h1
      | _ => .bad
      else .bad) = HP.R.ok z h' → (d.eq.isSome = true ∨ d.ne.isSome = true) → wpAny (model C.prog C.w) C.A (compareOp op vv uu) (EP C pins σ Q) C.xe s := by
    intro c f d hc hd he hq e hen
    obtain ⟨he1, he2, hfn, hdf⟩ := he
    split at e
    · rename_i hy
      obtain ⟨d2, hy⟩ := Option.isSome_iff_exists.mp hy
      rw [Option.bind_eq_some_iff] at hy
      obtain ⟨c2, hy, hy2⟩ := hy
      have hnf := (ok.facts.cls c d hd).nfst hen c2 (by rw [hy2]; rfl)
      obtain ⟨t, h1, q1, q2⟩ := bnd_eq e
      obtain ⟨p, dx, fs, rfl, hp⟩ := rep_ins R rx hc
      obtain ⟨p2, dx2, fs2, rfl, hp2⟩ := rep_ins R ry hy
      cases rv
      cases ru
      rw [hq]
      obtain ⟨mA, J, _⟩ := ins_get I.hok hp
      obtain ⟨mB, J', _⟩ := ins_get I.hok hp2
      obtain ⟨od, J, _⟩ := J.look
      obtain ⟨od', J', _⟩ := J'.look
      obtain ⟨mm, hF⟩ := I.fr
      rw [← ok.hK] at he1 he2 hnf
      refine PySem.W.cmp_K (op := op) (tb := .ref (W.ca c2)) (by omega) hF I.ok.mod.kin J J'.type hnf he1 he2 ?_
      obtain ⟨fd, hfd⟩ := Option.isSome_iff_exists.mp hfn
      have sp : spC W cl f [.ref p, .ref p2] H (fun w H1 => ∃ b, w = .bl b ∧ Q (.bl b) H1) E0 := ⟨W.Z, φ, h, [x, y], t, h1, ⟨_, _, rfl, rx, _, _, rfl, ry, rfl⟩, R, by show cl f ([x, y] ++ dflX W.P f 2) h = _; rw [hdf]; exact q1, fun φ' H' w x' R' r => by
        split at q2
        · cases q2
          cases r
          exact ⟨_, rfl, a φ' H' _ x' R' rep_bl⟩
        · cases q2⟩
      refine thn (call_fnX ok hfd pins s σ H _ [.ref p, .ref p2] _ I (.cons (show L2.RelV (.ref p) (.ref p) from rfl) (.cons (show L2.RelV (.ref p2) (.ref p2) from rfl) .nil)) sp) fun w s' ⟨w', H', I', rw', b, eb, qb⟩ => ?_
      subst eb
      cases rw'
      exact ⟨.bl b, H', I', rfl, qb⟩
    · cases e
  have plain : (match cmpX o x y h with | some b => .ok (.bl b) h | none => .bad) = HP.R.ok z h' → wpAny (model C.prog C.w) C.A (compareOp op vv uu) (EP C pins σ Q) C.xe s := fun e =>
    op_cmpX ok.hK (by omega) ho pins s σ H v u vv uu Q I rv ru ⟨φ, h, x, y, z, h', rx, ry, R, e, a⟩
  unfold eqM at e
  by_cases h1 : o = .eq
  · subst h1
    rw [if_pos rfl] at e
    split at e
    · rename_i f hf
      rw [Option.bind_eq_some_iff] at hf
      obtain ⟨c, hc, hf⟩ := hf
      rw [Option.bind_eq_some_iff] at hf
      obtain ⟨d, hd, hf⟩ := hf
      cases op <;> first | (exact absurd ho (by decide)) | skip
      exact own hc hd ((ok.facts.cls c d hd).eq f hf) rfl e (.inl (by rw [hf]; rfl))
    · exact plain e
  · rw [if_neg h1] at e
    by_cases h2 : o = .ne
    · subst h2
      rw [if_pos rfl] at e
      split at e
      · rename_i f hf
        rw [Option.bind_eq_some_iff] at hf
        obtain ⟨c, hc, hf⟩ := hf
        rw [Option.bind_eq_some_iff] at hf
        obtain ⟨d, hd, hf⟩ := hf
        cases op <;> first | (exact absurd ho (by decide)) | skip
        exact own hc hd ((ok.facts.cls c d hd).ne f hf) rfl e (.inr (by rw [hf]; rfl))
      · exact plain e
    · rw [if_neg h2] at e
      exact plain e
end
end HP

set_option Elab.async false
set_option linter.all false
set_option maxRecDepth 10000
set_option maxHeartbeats 1000000
/-! The evaluator, part M: comparisons, places, slices, fields. -/
namespace HP
open PySem PySem.Spec PyProof.Rows L2
section
variable {W : Wd} {N : List Str} {k : Nat} {cl : Cll} {C : Cx} {sc : Scope} {x : Expr}
theorem bnd_ok' {α β : Type} {r : R α} {f : α → M β} {a : α} {h : Hq} (e : r = .ok a h) : r.bnd f = f a h := by rw [e]; rfl
theorem marks_plain {op : CmpOp} {b : Expr} (h : plainB b = true) : behindInMarks op b = false := by
  cases b <;> first | rfl | (exact absurd h Bool.false_ne_true)
theorem ix_plain {b : Expr} (h : plainB b = true) : PlainIx b := by
  intro o i
  cases b <;> first | rfl | (exact absurd h Bool.false_ne_true)
theorem base_plain {o : Expr} (h : (!isCall0 o) = true) (m : Str) (env : Env) (w : Sem Value) : attributeBase o m env w = w := by
  cases o <;> first | rfl | skip
  rename_i f args kws pos
  cases args with
  | nil => exact absurd h Bool.false_ne_true
  | cons a r => cases f <;> rfl
theorem eqM_bl {o : Cp} {x y z : X} {h h' : Hq} (e : eqM W.P cl o x y h = .ok z h') : ∃ b, z = .bl b := by
  unfold eqM at e
  generalize (if o = .eq then (clsX x h).bind fun c => (W.P.cl c).bind (·.eq) else if o = .ne then (clsX x h).bind fun c => (W.P.cl c).bind (·.ne) else none) = q at e
  cases q with
  | some f =>
    simp only at e
    split at e
    · obtain ⟨v, h1, q1, q2⟩ := bnd_eq e
      split at q2
      · cases q2
        exact ⟨_, rfl⟩
      · cases q2
    · cases e
  | none =>
    simp only at e
    split at e
    · cases e
      exact ⟨_, rfl⟩
    · cases e
theorem pe_cmpX (ok : Okc W N k cl C) {o : Cp} {a b : E} (h : chE W.T N (.cmp o a b) sc x = true) (iha : ∀ y, chE W.T N a sc y = true → PE C y (tE W (evE W.P cl a))) (ihb : ∀ y, chE W.T N b sc y = true → PE C y (tE W (evE W.P cl b))) :
    PE C x (tE W (evE W.P cl (.cmp o a b))) ∧ PT C x (tB W cl (.cmp o a b)) := by
  cases x <;> first | (exact absurd h Bool.false_ne_true) | skip
  rename_i y ops zs p
  cases ops with
  | nil => exact absurd h Bool.false_ne_true
  | cons op ops =>
  cases ops with
  | cons _ _ => cases zs <;> exact absurd h Bool.false_ne_true
  | nil =>
  cases zs with
  | nil => exact absurd h Bool.false_ne_true
  | cons z zs =>
  cases zs with
  | cons _ _ => exact absurd h Bool.false_ne_true
  | nil =>
  have h : (cpB o op && chE W.T N a sc y && chE W.T N b sc z && plainB z) = true := h
  simp only [Bool.and_eq_true] at h
  have ho := op_eqM ok h.1.1.1
  refine ⟨PE.imp (pe_cmpR ho (iha _ h.1.1.2) (ihb _ h.1.2) (marks_plain h.2)) fun σ H Q q => tE_bin q, ?_⟩
  refine PT.imp (pt_cmpR ho (iha _ h.1.1.2) (ihb _ h.1.2) (marks_plain h.2)) fun σ H Q q => ?_
  obtain ⟨φ, e, h, t, h', E, R, q, aq⟩ := q
  obtain ⟨w, h1, q1, q2⟩ := bnd_eq q
  obtain ⟨rfl, ht⟩ := truM_ok q2
  refine tE_bin (g := eqM W.P cl o) (ma := evE W.P cl a) (mb := evE W.P cl b) ⟨φ, e, h, w, h', E, R, q1, fun φ' H' v x' R' r => ?_⟩
  obtain ⟨u, h2, q3, q4⟩ := bnd_eq q1
  obtain ⟨u2, h3, q5, q6⟩ := bnd_eq q4
  obtain ⟨b, rfl⟩ := eqM_bl q6
  cases ht
  cases r
  exact ⟨_, rfl, aq φ' H' x' R'⟩
theorem tE_chn {o p : Cp} {a b c : E} {σ : SlotL} {H : Hp} {Q : VK} (q : tE W (evE W.P cl (.chn o p a b c)) σ H Q) : tChain (vB W (cmpM o)) (vB W (cmpM p)) (tE W (evE W.P cl a)) (tE W (evE W.P cl b)) (tE W (evE W.P cl c)) σ H Q := by
  obtain ⟨φ, e, h, w, h', E, R, q, aq⟩ := q
  obtain ⟨u, h1, q1, q2⟩ := bnd_eq q
  obtain ⟨u2, h2, q3, q4⟩ := bnd_eq q2
  refine ⟨φ, e, h, u, h1, E, R, q1, fun φ1 H1 v x1 R1 r1 => ⟨φ1, e, h1, u2, h2, E.ext x1, R1, q3, fun φ2 H2 v2 x2 R2 r2 => ?_⟩⟩
  split at q4
  · rename_i hc
    obtain ⟨u3, h3, q5, q6⟩ := bnd_eq q4
    refine ⟨φ2, h2, u, u2, .bl true, h2, r1.ext x2, r2, R2, by unfold cmpM; rw [hc], fun φ3 H3 v3 x3 R3 r3 => ?_⟩
    cases r3
    refine ⟨true, rfl, ?_⟩
    rw [if_pos rfl]
    refine ⟨φ3, e, h2, u3, h3, E.ext ((x1.trans x2).trans x3), R3, q5, fun φ4 H4 v4 x4 R4 r4 => ?_⟩
    refine ⟨φ4, h3, u2, u3, w, h', (r2.ext x3).ext x4, r4, R4, ?_, fun φ5 H5 v5 x5 R5 r5 => aq φ5 H5 v5 ((((x1.trans x2).trans x3).trans x4).trans x5) R5 r5⟩
    unfold cmpM
    exact q6
  · rename_i hc
    cases q4
    refine ⟨φ2, h', u, u2, .bl false, h', r1.ext x2, r2, R2, by unfold cmpM; rw [hc], fun φ3 H3 v3 x3 R3 r3 => ?_⟩
    cases r3
    refine ⟨false, rfl, ?_⟩
    rw [if_neg Bool.false_ne_true]
    exact aq φ3 H3 _ ((x1.trans x2).trans x3) R3 rep_bl
  · cases q4
theorem chn_bl {o p : Cp} {a b c : E} {e : Env'} {h h' : Hq} {z : X} (q : evE W.P cl (.chn o p a b c) e h = .ok z h') : ∃ b, z = .bl b := by
  obtain ⟨u, h1, q1, q2⟩ := bnd_eq q
  obtain ⟨u2, h2, q3, q4⟩ := bnd_eq q2
  split at q4
  · obtain ⟨u3, h3, q5, q6⟩ := bnd_eq q4
    split at q6
    · cases q6
      exact ⟨_, rfl⟩
    · cases q6
  · cases q4
    exact ⟨_, rfl⟩
  · cases q4
theorem pe_chnX (ok : Okc W N k cl C) {o p : Cp} {a b c : E} (h : chE W.T N (.chn o p a b c) sc x = true) (iha : ∀ y, chE W.T N a sc y = true → PE C y (tE W (evE W.P cl a))) (ihb : ∀ y, chE W.T N b sc y = true → PE C y (tE W (evE W.P cl b)))
    (ihc : ∀ y, chE W.T N c sc y = true → PE C y (tE W (evE W.P cl c))) : PE C x (tE W (evE W.P cl (.chn o p a b c))) ∧ PT C x (tB W cl (.chn o p a b c)) := by
  cases x <;> first | (exact absurd h Bool.false_ne_true) | skip
  rename_i y ops zs pos
  rcases ops with _ | ⟨op, _ | ⟨oq, _ | _⟩⟩ <;> first | (exact absurd h Bool.false_ne_true) | skip
  rcases zs with _ | ⟨z, _ | ⟨t, _ | _⟩⟩ <;> first | (exact absurd h Bool.false_ne_true) | skip
  have h : (cpB o op && cpB p oq && chE W.T N a sc y && chE W.T N b sc z && chE W.T N c sc t && plainB z && plainB t) = true := h
  simp only [Bool.and_eq_true] at h
  obtain ⟨⟨⟨⟨⟨⟨h1, h2⟩, h3⟩, h4⟩, h5⟩, h6⟩, h7⟩ := h
  have hu := ok.units
  have ho := op_cmpX ok.hK (by omega) h1
  have hp := op_cmpX ok.hK (by omega) h2
  have hm : lastMarks [op, oq] [z, t] = false := marks_plain h7
  refine ⟨PE.imp (pe_chain ho hp (iha _ h3) (ihb _ h4) (ihc _ h5) hm) fun σ H Q q => tE_chn q, ?_⟩
  refine PT.imp (pt_chain ho hp (iha _ h3) (ihb _ h4) (ihc _ h5) hm) fun σ H Q q => ?_
  obtain ⟨φ, e, h, t, h', E, R, q, aq⟩ := q
  obtain ⟨w, h1, q1, q2⟩ := bnd_eq q
  obtain ⟨rfl, ht⟩ := truM_ok q2
  refine tE_chn ⟨φ, e, h, w, h', E, R, q1, fun φ' H' v x' R' r => ?_⟩
  obtain ⟨b, rfl⟩ := chn_bl q1
  cases ht
  cases r
  exact ⟨_, rfl, aq φ' H' x' R'⟩
theorem pe_idxX (ok : Okc W N k cl C) {a i : E} (h : chE W.T N (.idx a i) sc x = true) (iha : ∀ y, chE W.T N a sc y = true → PE C y (tE W (evE W.P cl a))) (ihi : ∀ y, chE W.T N i sc y = true → PE C y (tE W (evE W.P cl i))) : PE C x (tE W (evE W.P cl (.idx a i))) := by
  cases x <;> first | (exact absurd h Bool.false_ne_true) | skip
  rename_i y z p
  have h : (plainB z && chE W.T N a sc y && chE W.T N i sc z) = true := by
    cases z <;> first | exact h | (exact absurd h Bool.false_ne_true)
  simp only [Bool.and_eq_true] at h
  have hu := ok.units
  have pi := ix_plain h.1.1
  exact PE.imp (PE.or (pe_ix (ix_idx ok.hK) (iha _ h.1.2) (ihi _ h.2) pi) (pe_dget (by omega) (iha _ h.1.2) (ihi _ h.2) pi)) fun σ H Q q => tE_idx q
/-! ### slices -/
def tO (W : Wd) (m : Env' → M (List X)) : TO := fun σ H Q => ∃ φ e h xs h' o, ERel W φ H e σ ∧ Rel W φ h H ∧ m e h = .ok xs h' ∧ optI xs = some o ∧ ∀ φ' H', Ext φ φ' H H' → Rel W φ' h' H' → Q o H'
theorem optI_eq {l : List X} {o : Option Int} (h : optI l = some o) : l = prt o := by
  unfold optI at h
  split at h
  · cases h
    rfl
  · cases h
    rfl
  · cases h
theorem PO.imp {e : Option Expr} {t t' : TO} (p : PO C e t) (k : ∀ σ H Q, t' σ H Q → t σ H Q) : PO C e t' := ⟨fun pins s σ H Q I q => p.run pins s σ H Q I (k σ H Q q)⟩
theorem po_optX {es : Es} {l : Option Expr} (h : chO W.T N es sc l = true) (ih : ∀ xs, chEs W.T N es sc xs = true → PA C xs (tL W (evEs W.P cl es))) (ih1 : ∀ e es', es = .cons e es' → ∀ y, chE W.T N e sc y = true → PE C y (tE W (evE W.P cl e))) : PO C l (tO W (evEs W.P cl es)) := by
  cases es with
  | nil =>
    cases l with
    | some _ => exact absurd h Bool.false_ne_true
    | none =>
      refine PO.imp po_none fun σ H Q q => ?_
      obtain ⟨φ, e, h, xs, h', o, E, R, q1, q2, a⟩ := q
      cases q1
      cases q2
      exact a φ H .refl R
  | cons e es =>
    cases es with
    | cons _ _ => cases l <;> exact absurd h Bool.false_ne_true
    | nil =>
      cases l with
      | none => exact absurd h Bool.false_ne_true
      | some y =>
        refine PO.imp (po_some (ih1 e .nil rfl y h)) fun σ H Q q => ?_
        obtain ⟨φ, e, h, xs, h', o, E, R, q1, q2, a⟩ := q
        obtain ⟨z, h1, q3, q4⟩ := bnd_eq q1
        obtain ⟨zs, h2, q5, q6⟩ := bnd_eq q4
        cases q5
        cases q6
        refine ⟨φ, e, h, z, _, E, R, q3, fun φ' H' v x' R' r => ?_⟩
        cases z with
        | int i =>
          have q2 : some (some i) = some o := q2
          cases q2
          cases r
          exact ⟨_, rfl, a φ' H' x' R'⟩
        | _ => exact absurd q2 (by simp [optI])
theorem pe_slcX (ok : Okc W N k cl C) {m : Bool} {a : E} {lo hi : Es} (h : chE W.T N (.slc m a lo hi) sc x = true) (iha : ∀ y, chE W.T N a sc y = true → PE C y (tE W (evE W.P cl a)))
    (ihl : ∀ l, chO W.T N lo sc l = true → PO C l (tO W (evEs W.P cl lo))) (ihh : ∀ l, chO W.T N hi sc l = true → PO C l (tO W (evEs W.P cl hi))) : PE C x (tE W (evE W.P cl (.slc m a lo hi))) := by
  cases x <;> first | (exact absurd h Bool.false_ne_true) | skip
  rename_i y z p
  cases z <;> first | (exact absurd h Bool.false_ne_true) | skip
  rename_i l u st p2
  cases st <;> first | (exact absurd h Bool.false_ne_true) | skip
  have h : (chE W.T N a sc y && chO W.T N lo sc l && chO W.T N hi sc u) = true := h
  simp only [Bool.and_eq_true] at h
  refine PE.imp (pe_slice (sl_vS (m := m) ok.hK) (iha _ h.1.1) (ihl _ h.1.2) (ihh _ h.2)) fun σ H Q q => ?_
  obtain ⟨φ, e, h, z, h', E, R, q, a⟩ := q
  obtain ⟨w, h1, q1, q2⟩ := bnd_eq q
  obtain ⟨l, h2, q3, q4⟩ := bnd_eq q2
  obtain ⟨u, h3, q5, q6⟩ := bnd_eq q4
  have hl : ∃ o, optI l = some o ∧ ∃ o2, optI u = some o2 := by
    unfold slcX at q6
    split at q6
    · rename_i o1 o2 e1 e2
      exact ⟨o1, e1, o2, e2⟩
    · cases q6
  obtain ⟨o1, e1, o2, e2⟩ := hl
  refine ⟨φ, e, h, w, h1, E, R, q1, fun φ1 H1 v x1 R1 r1 => ⟨φ1, e, h1, l, h2, o1, E.ext x1, R1, q3, e1, fun φ2 H2 x2 R2 => ⟨φ2, e, h2, u, h3, o2, (E.ext x1).ext x2, R2, q5, e2, fun φ3 H3 x3 R3 => ?_⟩⟩⟩
  rw [optI_eq e1, optI_eq e2] at q6
  exact ⟨φ3, h3, w, z, h', (r1.ext x2).ext x3, R3, q6, fun φ4 H4 v4 x4 R4 r4 => a φ4 H4 v4 (((x1.trans x2).trans x3).trans x4) R4 r4⟩
/-! ### fields -/
theorem lookI {φ : List Addr} {H : Hp} {f : Nat} {z : X} (hf : f < W.nf) : ∀ {gs : List Nat} {xs : List X} {fs : List (Str × V)}, (∀ g ∈ gs, g < W.nf) → fs.map (·.1) = gs.map W.T.fld → Reps W φ H xs (fs.map (·.2)) → getI f gs xs = some z → ∃ v, fs.lookup (W.T.fld f) = some v ∧ Rep W φ H z v
  | [], _, _, _, _, _, e => by simp [getI] at e
  | g :: gs, [], _, _, _, _, e => by simp [getI] at e
  | g :: gs, x :: xs, [], _, h, _, _ => by simp at h
  | g :: gs, x :: xs, (n, u) :: fs, hg, h, r, e => by
    simp only [List.map_cons, List.cons.injEq] at h
    obtain ⟨v, s, e1, r1, r2⟩ := r
    simp only [List.map_cons, List.cons.injEq] at e1
    obtain ⟨rfl, rfl⟩ := e1
    obtain ⟨rfl, h⟩ := h
    unfold getI at e
    split at e
    · rename_i hgf
      cases e
      subst hgf
      exact ⟨u, by simp [List.lookup_cons], r1⟩
    · rename_i hgf
      obtain ⟨v, g1, g2⟩ := lookI hf (fun g hh => hg g (List.mem_cons_of_mem _ hh)) h r2 e
      refine ⟨v, ?_, g2⟩
      have ne : ¬ W.T.fld f = W.T.fld g := fun z => hgf (W.inj f g hf (hg g List.mem_cons_self) z).symm
      rw [List.lookup_cons, show (W.T.fld f == W.T.fld g) = false from beq_eq_false_iff_ne.mpr ne]
      exact g1
theorem lookF {φ : List Addr} {H : Hp} {f : Nat} {z : X} (hf : f < W.nf) : ∀ {gs : List (Nat × X)} {fs : List (Str × V)}, (∀ g ∈ gs, g.1 < W.nf) → fs.map (·.1) = gs.map (fun p => W.T.fld p.1) → Reps W φ H (gs.map (·.2)) (fs.map (·.2)) → getF f gs = some z → ∃ v, fs.lookup (W.T.fld f) = some v ∧ Rep W φ H z v
  | [], _, _, _, _, e => by simp [getF] at e
  | (g, x) :: gs, [], _, h, _, _ => by simp at h
  | (g, x) :: gs, (n, u) :: fs, hg, h, r, e => by
    simp only [List.map_cons, List.cons.injEq] at h
    obtain ⟨v, s, e1, r1, r2⟩ := r
    simp only [List.map_cons, List.cons.injEq] at e1
    obtain ⟨rfl, rfl⟩ := e1
    obtain ⟨rfl, h⟩ := h
    unfold getF at e
    split at e
    · rename_i hgf
      cases e
      subst hgf
      exact ⟨u, by simp [List.lookup_cons], r1⟩
    · rename_i hgf
      obtain ⟨v, g1, g2⟩ := lookF hf (fun g hh => hg g (List.mem_cons_of_mem _ hh)) h r2 e
      refine ⟨v, ?_, g2⟩
      have ne : ¬ W.T.fld f = W.T.fld g := fun z => hgf (W.inj f g hf (hg (g, x) List.mem_cons_self) z).symm
      rw [List.lookup_cons, show (W.T.fld f == W.T.fld g) = false from beq_eq_false_iff_ne.mpr ne]
      exact g1
/-- a name that is no field -/
theorem lookN {f : Nat} (hf : f < W.nf) : ∀ {gs : List Nat} {fs : List (Str × V)}, (∀ g ∈ gs, g < W.nf) → fs.map (·.1) = gs.map W.T.fld → f ∉ gs → fs.lookup (W.T.fld f) = none
  | [], [], _, _, _ => rfl
  | [], _ :: _, _, h, _ => by simp at h
  | g :: gs, [], _, h, _ => by simp at h
  | g :: gs, (n, u) :: fs, hg, h, nm => by
    simp only [List.map_cons, List.cons.injEq] at h
    obtain ⟨rfl, h⟩ := h
    have ne : ¬ W.T.fld f = W.T.fld g := fun z => nm (W.inj f g hf (hg g List.mem_cons_self) z ▸ List.mem_cons_self)
    rw [List.lookup_cons, show (W.T.fld f == W.T.fld g) = false from beq_eq_false_iff_ne.mpr ne]
    exact lookN hf (fun g hh => hg g (List.mem_cons_of_mem _ hh)) h fun z => nm (List.mem_cons_of_mem _ z)
theorem fld_look (F : Facts W C.mg) {φ : List Addr} {h : Hq} {H : Hp} {x z : X} {v : V} {f : Nat} (R : Rel W φ h H) (r : Rep W φ H x v) (e : fldX W.P x f h = some z) :
    ∃ a c d dx fs u, v = .ref a ∧ H a = some (.ins (W.ca c) dx fs) ∧ W.P.cl c = some d ∧ f ∈ d.flds ∧ fs.lookup (W.T.fld f) = some u ∧ Rep W φ H z u := by
  unfold fldX at e
  split at e
  · rename_i c xs
    split at e
    · rename_i d hd
      obtain ⟨a, vs, rfl, ⟨_, dx, fs, d2, h1, h2, h3, h4, h5⟩, rs⟩ := r
      rw [hd] at h2
      cases h2
      have hm : ∀ {gs : List Nat} {xs : List X}, getI f gs xs = some z → f ∈ gs := by
        intro gs
        induction gs with
        | nil => intro xs q; simp [getI] at q
        | cons g gs ih =>
          intro xs q
          cases xs with
          | nil => simp [getI] at q
          | cons y ys =>
            unfold getI at q
            split at q
            · rename_i hh
              rw [hh]
              exact List.mem_cons_self
            · exact List.mem_cons_of_mem _ (ih q)
      have mf := hm e
      have all : ∀ g ∈ d.flds, g < W.nf := fun g hg => ((F.cls c d hd).noat g hg).2
      obtain ⟨u, g1, g2⟩ := lookI (all f mf) all h3 (by rw [h4]; exact rs) e
      exact ⟨a, c, d, dx, fs, u, rfl, h1, hd, mf, g1, g2⟩
    · cases e
  · split at e
    · rename_i hl
      split at e
      · rename_i d hd
        split at e
        · rename_i hc
          have mf : f ∈ d.flds := by simpa using hc
          obtain ⟨a, e1, e2, dx, gs, e3, e4, e5, _, _, e6⟩ := R.ob r hl
          obtain ⟨u, g1, g2⟩ := lookF ((F.cls _ d hd).noat f mf).2 (fun g hg => (e6 g hg).1) e4 e5 e
          exact ⟨a, _, d, dx, gs, u, e1, e3, hd, mf, g1, g2⟩
        · cases e
      · cases e
    · cases e
  · cases e
theorem pe_fldX (ok : Okc W N k cl C) {a : E} {f : Nat} (h : chE W.T N (.fld a f) sc x = true) (iha : ∀ y, chE W.T N a sc y = true → PE C y (tE W (evE W.P cl a))) : PE C x (tE W (evE W.P cl (.fld a f))) := by
  cases x <;> first | (exact absurd h Bool.false_ne_true) | skip
  rename_i y n p
  have h : (eqS (W.T.fld f) n && !isCall0 y && chE W.T N a sc y) = true := h
  simp only [Bool.and_eq_true] at h
  have en := eqS_iff h.1.1
  subst en
  refine PE.imp (pe_fld (iha _ h.2) (base_plain h.1.2 _ _ _)) fun σ H Q q => ?_
  obtain ⟨φ, e, h, z, h', E, R, q, aq⟩ := q
  obtain ⟨w, h1, q1, q2⟩ := bnd_eq q
  refine ⟨φ, e, h, w, h1, E, R, q1, fun φ' H' v x' R' r => ?_⟩
  split at q2
  · rename_i z' hz
    cases q2
    obtain ⟨a, c, d, dx, fs, u, rfl, g1, g2, g3, g4, g5⟩ := fld_look ok.facts R' r hz
    have F := ok.facts.cls c d g2
    rw [ok.hK]
    exact ⟨a, _, dx, fs, u, rfl, g1, F.cls, (F.noat f g3).1, g4, aq φ' H' u x' R' g5⟩
  · cases q2
end
end HP

set_option Elab.async false
set_option linter.all false
set_option maxRecDepth 10000
set_option maxHeartbeats 1000000
/-! The evaluator, part N: what a def hands back. -/
namespace HP
open PySem PySem.Spec PyProof.Rows L2
section
variable {W : Wd} {φ φ' : List Addr} {H H' : Hp}
mutual
theorem bel_of : ∀ {x : X} {v : V}, Rep W φ H x v → X.bel φ.length x = true
  | .non, _, _ => rfl
  | .bl _, _, _ => rfl
  | .int _, _, _ => rfl
  | .str _, _, _ => rfl
  | .fn _, _, _ => rfl
  | .tup xs, v, h => by
    obtain ⟨a, vs, e1, h1, h2⟩ := h
    exact bels_of h2
  | .lst xs, v, h => by
    obtain ⟨a, vs, e1, h1, h2⟩ := h
    exact bels_of h2
  | .scr xs, v, h => by
    obtain ⟨a, vs, e1, h1, h2⟩ := h
    exact bels_of h2
  | .ins c xs, v, h => by
    obtain ⟨a, vs, e1, h1, h2⟩ := h
    exact bels_of h2
  | .ob l, v, h => by
    obtain ⟨a, e1, h1⟩ := h
    exact decide_eq_true (List.getElem?_eq_some_iff.mp h1).1
  | .lam f, v, h => rfl
theorem bels_of : ∀ {xs : List X} {vs : List V}, Reps W φ H xs vs → X.bels φ.length xs = true
  | [], _, _ => rfl
  | x :: xs, vs, h => by
    obtain ⟨v, r, e1, h1, h2⟩ := h
    exact Bool.and_eq_true_iff.mpr ⟨bel_of h1, bels_of h2⟩
end
theorem pre_get {l : Nat} {a : Addr} (p : φ <+: φ') (hl : l < φ.length) (h : φ'[l]? = some a) : φ[l]? = some a := by
  obtain ⟨t, rfl⟩ := p
  rwa [List.getElem?_append_left hl] at h
theorem pre_out {a : Addr} (p : φ <+: φ') (h : Off W φ' a) : Off W φ a := ⟨fun z => h.1 (p.subset z), h.2⟩
mutual
/-- seen from fewer places -/
theorem Rep.back (p : φ <+: φ') : ∀ {x : X} {v : V}, Rep W φ' H x v → X.bel φ.length x = true → Rep W φ H x v
  | .non, _, h, _ => h
  | .bl _, _, h, _ => h
  | .int _, _, h, _ => h
  | .str _, _, h, _ => h
  | .fn _, _, h, _ => h
  | .lam f, v, h, _ => by
    obtain ⟨a, e1, c, q, h1, h2⟩ := h
    exact ⟨a, e1, c, q, ⟨pre_out p h1.1, h1.2⟩, pre_out p h2.1, h2.2⟩
  | .tup xs, v, h, b => by
    obtain ⟨a, vs, e1, h1, h2⟩ := h
    exact ⟨a, vs, e1, h1.imp (fun z => ⟨pre_out p z.1, z.2⟩) id, Reps.back p h2 b⟩
  | .lst xs, v, h, b => by
    obtain ⟨a, vs, e1, h1, h2⟩ := h
    exact ⟨a, vs, e1, ⟨pre_out p h1.1, h1.2⟩, Reps.back p h2 b⟩
  | .scr xs, v, h, b => by
    obtain ⟨a, vs, e1, h1, h2⟩ := h
    exact ⟨a, vs, e1, h1.imp (fun z => ⟨pre_out p z.1, z.2⟩) id, Reps.back p h2 b⟩
  | .ins c xs, v, h, b => by
    obtain ⟨a, vs, e1, h1, h2⟩ := h
    exact ⟨a, vs, e1, ⟨pre_out p h1.1, h1.2⟩, Reps.back p h2 b⟩
  | .ob l, v, h, b => by
    obtain ⟨a, e1, h1⟩ := h
    exact ⟨a, e1, pre_get p (of_decide_eq_true b) h1⟩
theorem Reps.back (p : φ <+: φ') : ∀ {xs : List X} {vs : List V}, Reps W φ' H xs vs → X.bels φ.length xs = true → Reps W φ H xs vs
  | [], _, h, _ => h
  | x :: xs, vs, h, b => by
    obtain ⟨v, r, e1, h1, h2⟩ := h
    have b := Bool.and_eq_true_iff.mp b
    exact ⟨v, r, e1, Rep.back p h1 b.1, Reps.back p h2 b.2⟩
end
mutual
theorem bel_noOb : ∀ {x : X} (n : Nat), X.noOb x = true → X.bel n x = true
  | .non, _, _ => rfl
  | .bl _, _, _ => rfl
  | .int _, _, _ => rfl
  | .str _, _, _ => rfl
  | .fn _, _, _ => rfl
  | .lam _, _, _ => rfl
  | .tup xs, n, h => bels_noOb n h
  | .lst xs, n, h => bels_noOb n h
  | .ins _ xs, n, h => bels_noOb n h
  | .scr _, _, h => nomatch h
  | .ob _, _, h => nomatch h
theorem bels_noOb : ∀ {xs : List X} (n : Nat), X.noObs xs = true → X.bels n xs = true
  | [], _, _ => rfl
  | x :: xs, n, h => by
    have h := Bool.and_eq_true_iff.mp h
    exact Bool.and_eq_true_iff.mpr ⟨bel_noOb n h.1, bels_noOb n h.2⟩
end
theorem krel_bel : ∀ {ks : List (X × X)} {vs : List (Key × V)}, KRel W φ H ks vs → X.bels φ.length (ks.map (·.2)) = true
  | [], _, _ => rfl
  | (k, x) :: r, vs, h => by
    obtain ⟨q, v, s, e1, e2, h1, h2⟩ := h
    exact Bool.and_eq_true_iff.mpr ⟨bel_of h1, krel_bel h2⟩
theorem krel_back (p : φ <+: φ') : ∀ {ks : List (X × X)} {vs : List (Key × V)}, KRel W φ' H ks vs → X.bels φ.length (ks.map (·.2)) = true → KRel W φ H ks vs
  | [], _, h, _ => h
  | (k, x) :: r, vs, h, b => by
    obtain ⟨q, v, s, e1, e2, h1, h2⟩ := h
    have b := Bool.and_eq_true_iff.mp b
    exact ⟨q, v, s, e1, e2, h1.back p b.1, krel_back p h2 b.2⟩
/-- what is asked of an object that stays -/
def O.bel2 (n : Nat) : O → Bool
  | .lst xs => X.bels n xs
  | .dct kvs => X.bels n (kvs.map (·.2))
  | .ins _ fs => X.bels n (fs.map (·.2))
  | .tbl => true
theorem bel2_of {n : Nat} {o : O} (h : O.bel n o = true) : O.bel2 n o = true := by
  cases o with
  | lst xs => exact h
  | dct kvs => exact (Bool.and_eq_true_iff.mp h).2
  | ins c fs => exact h
  | tbl => rfl
theorem orel_bel {o : O} {ho : Option HO} (h : ORel W φ H o ho) : O.bel2 φ.length o = true := by
  cases o with
  | lst xs =>
    obtain ⟨vs, e1, h1⟩ := h
    exact bels_of h1
  | dct kvs =>
    obtain ⟨vs, e1, h1⟩ := h
    exact krel_bel h1
  | ins c fs =>
    obtain ⟨dx, gs, e1, e2, h1, h2⟩ := h
    exact bels_of h1
  | tbl => rfl
theorem orel_back (p : φ <+: φ') {o : O} {ho : Option HO} (h : ORel W φ' H o ho) (b : O.bel2 φ.length o = true) : ORel W φ H o ho := by
  cases o with
  | lst xs =>
    obtain ⟨vs, e1, h1⟩ := h
    exact ⟨vs, e1, h1.back p b⟩
  | dct kvs =>
    obtain ⟨vs, e1, h1⟩ := h
    exact ⟨vs, e1, krel_back p h1 b⟩
  | ins c fs =>
    obtain ⟨dx, gs, e1, e2, h1, h2⟩ := h
    exact ⟨dx, gs, e1, e2, h1.back p b, h2⟩
  | tbl =>
    obtain ⟨ps, e1, h1, h2⟩ := h
    refine ⟨ps, e1, h1, fun pos cv k => ?_⟩
    obtain ⟨c, P, q, e2, e3, h3, h4⟩ := h2 pos cv k
    exact ⟨c, P, q, e2, e3, pre_out p h3, h4⟩
theorem mapO_reps {g : X → Option X} (P : ∀ x y v, g x = some y → Rep W φ' H x v → Rep W φ H y v) : ∀ {xs ys : List X} {vs : List V}, mapO g xs = some ys → Reps W φ' H xs vs → Reps W φ H ys vs
  | [], ys, vs, e, r => by
    cases e
    exact r
  | x :: xs, ys, vs, e, r => by
    unfold mapO at e
    split at e
    · rename_i y zs h1 h2
      cases e
      obtain ⟨v, s, rfl, r1, r2⟩ := r
      exact ⟨v, s, rfl, P _ _ _ h1 r1, mapO_reps P h2 r2⟩
    · cases e
theorem frz_ok {h : Hq} (R : Rel W φ' h H) (p : φ <+: φ') : ∀ (k : Nat) (x y : X) (v : V), frzX W.P φ.length h k x = some y → Rep W φ' H x v → Rep W φ H y v := by
  have nob : ∀ {x : X} {v : V}, X.noOb x = true → Rep W φ' H x v → Rep W φ H x v := fun b r => r.back p (bel_noOb _ b)
  have far : ∀ {l : Nat} {a : Addr}, ¬ l < φ.length → φ'[l]? = some a → Off W φ a := fun {l a} hl e => ⟨fun z => by
    obtain ⟨m, hm⟩ := List.mem_iff_getElem?.mp z
    have lm : m < φ.length := (List.getElem?_eq_some_iff.mp hm).1
    obtain ⟨t, rfl⟩ := p
    have e2 : (φ ++ t)[m]? = some a := by rw [List.getElem?_append_left lm]; exact hm
    obtain ⟨h1, q1⟩ := List.getElem?_eq_some_iff.mp e
    obtain ⟨h2, q2⟩ := List.getElem?_eq_some_iff.mp e2
    have := (List.getElem_inj R.nd).mp (q1.trans q2.symm)
    omega, fun z => (R.zz a z).2 (List.mem_of_getElem? e)⟩
  intro k
  induction k with
  | zero =>
    intro x y v e r
    unfold frzX at e
    split at e
    · rename_i b
      cases e
      exact nob b r
    · cases e
  | succ k ih =>
    intro x y v e r
    unfold frzX at e
    split at e
    · rename_i b
      cases e
      exact nob b r
    · split at e
      · rename_i xs
        rw [Option.map_eq_some_iff] at e
        obtain ⟨ys, e1, rfl⟩ := e
        obtain ⟨a, vs, rfl, h1, h2⟩ := r
        exact ⟨a, vs, rfl, h1.imp (fun z => ⟨pre_out p z.1, z.2⟩) id, mapO_reps ih e1 h2⟩
      · rename_i xs
        rw [Option.map_eq_some_iff] at e
        obtain ⟨ys, e1, rfl⟩ := e
        obtain ⟨a, vs, rfl, h1, h2⟩ := r
        exact ⟨a, vs, rfl, ⟨pre_out p h1.1, h1.2⟩, mapO_reps ih e1 h2⟩
      · rename_i c xs
        rw [Option.map_eq_some_iff] at e
        obtain ⟨ys, e1, rfl⟩ := e
        obtain ⟨a, vs, rfl, h1, h2⟩ := r
        exact ⟨a, vs, rfl, ⟨pre_out p h1.1, h1.2⟩, mapO_reps ih e1 h2⟩
      · rename_i l
        split at e
        · rename_i hl
          cases e
          obtain ⟨a, rfl, h1⟩ := r
          exact ⟨a, rfl, pre_get p hl h1⟩
        · rename_i hl
          split at e
          · rename_i xs hx
            rw [Option.map_eq_some_iff] at e
            obtain ⟨ys, e1, rfl⟩ := e
            obtain ⟨a, rfl, e2, vs, e3, h2⟩ := R.ob r hx
            exact ⟨a, vs, rfl, ⟨far hl e2, e3⟩, mapO_reps ih e1 h2⟩
          · rename_i c fs hx
            split at e
            · rename_i d hd
              split at e
              · rename_i hb
                rw [Option.map_eq_some_iff] at e
                obtain ⟨ys, e1, rfl⟩ := e
                simp only [Bool.and_eq_true, decide_eq_true_eq] at hb
                obtain ⟨a, rfl, e2, dx, gs, e3, e4, h2, _, _, h3⟩ := R.ob r hx
                refine ⟨a, gs.map (·.2), rfl, ⟨far hl e2, dx, gs, d, e3, hd, ?_, rfl, ?_⟩, mapO_reps ih e1 h2⟩
                · rw [e4, ← hb.2, List.map_map]
                  rfl
                · rw [← hb.2]
                  simp only [List.all_eq_true, decide_eq_true_eq, List.mem_map]
                  rintro _ ⟨q, hq, rfl⟩
                  exact (h3 q hq).1
              · cases e
            · cases e
          · cases e
      · cases e
/-- what a def hands back stands -/
theorem fin_ok {f : Bool} {h0 h1 h2 : Hq} {v z : X} {u : V} (R0 : Rel W φ h0 H) (x : Ext φ φ' H H') (R : Rel W φ' h1 H') (r : Rep W φ' H' v u) (e : finX W.P f h0 v h1 = .ok z h2) : ∃ φ2, Ext φ φ2 H H' ∧ Rel W φ2 h2 H' ∧ Rep W φ2 H' z u := by
  have take : ∀ o2 : Hq, o2 = h1.take h0.length → (∀ (l : Nat) (o : O), o2[l]? = some o → O.bel2 φ.length o = true) → Rel W φ o2 H' := by
    intro o2 e2 hb
    subst e2
    have hlen : h0.length ≤ h1.length := by
      rw [← R0.len, ← R.len]
      exact x.pre.length_le
    refine ⟨?_, R0.nd, fun z hz => ⟨(R.zz z hz).1, fun q => (R.zz z hz).2 (x.pre.subset q)⟩, fun l o ho => ?_, R0.tb⟩
    · rw [List.length_take, R0.len]
      omega
    · have hb2 := hb l o ho
      rw [List.getElem?_take] at ho
      split at ho
      · rename_i hl
        obtain ⟨a, e1, q⟩ := R.at_ l o ho
        have e3 := pre_get x.pre (by rw [R0.len]; exact hl) e1
        exact ⟨a, e3, orel_back x.pre q hb2⟩
      · cases ho
  have xx : Ext φ φ H H' := ⟨List.prefix_refl _, fun _ h k => absurd h k, x.keep⟩
  unfold finX at e
  cases f with
  | false =>
    cases e
    exact ⟨φ', x, R, r⟩
  | true =>
    rw [if_pos rfl] at e
    split at e
    · rename_i w hw
      have rw' : Rep W φ H' w u := frz_ok R x.pre 8 v w u (by rw [R0.len]; exact hw) r
      split at e
      · rename_i ht
        cases e
        exact ⟨φ, xx, take h0 ht.symm fun l o ho => let ⟨a, _, q⟩ := R0.at_ l o ho; orel_bel q, rw'⟩
      · split at e
        · rename_i ht
          cases e
          refine ⟨φ, xx, take _ rfl fun l o ho => ?_, rw'⟩
          rw [List.all_eq_true] at ht
          have := ht o (List.mem_of_getElem? ho)
          rw [R0.len]
          exact bel2_of this
        · cases e
          exact ⟨φ', x, R, r⟩
    · cases e
      exact ⟨φ', x, R, r⟩
end
end HP

set_option Elab.async false
set_option linter.all false
set_option maxRecDepth 10000
set_option maxHeartbeats 1000000
/-! The evaluator, part O: calls. -/
namespace HP
open PySem PySem.Spec PyProof.Rows L2
section
variable {W : Wd} {N : List Str} {k : Nat} {cl : Cll} {C : Cx} {sc : Scope} {x : Expr}
theorem chEs_all {es : Es} {xs : List Expr} (h : chEs W.T N es sc xs = true) : xs.all plainB = true := by
  induction xs generalizing es with
  | nil => rfl
  | cons y ys ih =>
    cases es with
    | nil => exact absurd h Bool.false_ne_true
    | cons e es =>
      have h : (chE W.T N e sc y && plainB y && chEs W.T N es sc ys) = true := h
      simp only [Bool.and_eq_true] at h
      rw [List.all_cons, h.1.2, ih h.2]
      rfl
theorem chEs_nil {es : Es} (h : chEs W.T N es sc [] = true) : es = .nil := by
  cases es with
  | nil => rfl
  | cons _ _ => exact absurd h Bool.false_ne_true
theorem all_tail {y : Expr} {ys : List Expr} (h : (y :: ys).all plainB = true) : plainB y = true ∧ ys.all plainB = true := Bool.and_eq_true_iff.mp h
/-- a call of a value that stands in the written part -/
theorem with_K {f : Addr} {r : List V → Hp → VK → Prop} (hc : CallR C (.ref f) r) (hk : PySem.W.keepIn C.K (.ref f) = true) {es : Es} {xs : List Expr} (he : chEs W.T N es sc xs = true) (ha : PA C xs (tL W (evEs W.P cl es))) (pos : Pos)
    (pins : List (Addr × Obj)) (s : Shared) (σ : SlotL) (H : Hp) (Q : VK) (I : L2.Inv C pins σ H s) (q : tL W (evEs W.P cl es) σ H fun vs H1 => r vs H1 Q) :
    wpAny (model C.prog C.w) C.A (callWith pos (.ref f) [] (backTo pos (starEach xs C.env)) (backToKw pos (keywordEach [] C.env))) (EP C pins σ Q) C.xe s := by
  cases xs with
  | nil =>
    have := chEs_nil he
    subst this
    exact PySem.W.callWith_K0 I.kIn hk (hc pins s σ H [] [] Q I .nil (tL_nil q))
  | cons y ys =>
    obtain ⟨h1, h2⟩ := all_tail (chEs_all he)
    exact PySem.W.callWith_K (h₀ := C.base) I.ok.mod.kin hk (thn (ha.run pos pins s σ H _ I q) fun us s1 ⟨vs, H1, I1, r1, q1⟩ => ⟨I1.kIn, hc pins s1 σ H1 vs us Q I1 r1 q1⟩) (star_plain h1) (any_plain pos h2)
theorem CE.mono' {φ : List Addr} {H : Hp} {x : X} {h' : Hq} {Q : VK} {φ2 : List Addr} {H2 : Hp} (a : Aft W φ H x h' Q) (x2 : Ext φ φ2 H H2) : Aft W φ2 H2 x h' Q := fun φ3 H3 v x3 R3 r3 => a φ3 H3 v (x2.trans x3) R3 r3
theorem pe_callX (ok : Okc W N k cl C) (hsc : C.env.scope = sc) {f : Nat} {es : Es} (h : chE W.T N (.call f es) sc x = true) (ihs : ∀ xs, chEs W.T N es sc xs = true → PA C xs (tL W (evEs W.P cl es))) : PE C x (tE W (evE W.P cl (.call f es))) := by
  cases x <;> first | (exact absurd h Bool.false_ne_true) | skip
  rename_i fx xs kws p
  cases fx <;> first | (exact absurd h Bool.false_ne_true) | skip
  cases kws <;> first | (exact absurd h Bool.false_ne_true) | skip
  rename_i y p2
  have h : (isGlo sc (W.T.fn f) y && chEs W.T N es sc xs) = true := by
    rcases xs with _ | ⟨_, _ | ⟨_, _ | _⟩⟩ <;> exact h
  simp only [Bool.and_eq_true] at h
  obtain ⟨e1, e2, e3, e4⟩ := isGlo_of h.1 hsc
  refine ⟨fun pins s σ H Q I q => ?_⟩
  cases hf : W.P.fn f with
  | none =>
    exfalso
    obtain ⟨φ, e, h, ys, h', E, R, q1, a⟩ := q
    obtain ⟨zs, h1, q2, q3⟩ := bnd_eq q1
    rw [ok.clno f _ _ hf] at q3
    cases q3
  | some d =>
    have q := tE_call (g := fun xs => cl f (xs ++ dflX W.P f xs.length)) q
    have hm := ok.facts.fn f (by rw [e1]; exact e4)
    rw [e1] at hm
    refine wpAny_Call_Name_kw (ld_glob I e2 hm ?_ e3)
    refine with_K (call_fnX ok hf) (by rw [ok.hK]; exact ok.facts.keep f d hf) h.2 (ihs _ h.2) p pins s σ H Q I ?_
    obtain ⟨φ, e, h, ys, h', E, R, q1, a⟩ := q
    refine ⟨φ, e, h, ys, h', E, R, q1, fun φ' H' vs x' R' r => ?_⟩
    obtain ⟨φ2, h2, zs, z, h3, r2, R2, q2, a2⟩ := a φ' H' vs x' R' r
    exact ⟨W.Z, φ2, h2, zs, z, h3, r2, R2, q2, a2⟩
/-- an instance is made -/
theorem rel_made {φ : List Addr} {h : Hq} {H : Hp} {c : Nat} {d : ClD} {dx p : Addr} (hd : W.P.cl c = some d) (R : Rel W φ h H) (hx : H p = none) (hn : H dx = none) (ne : dx ≠ p) :
    Rel W (φ ++ [p]) (h ++ [.ins c []]) (upd (upd H dx (.own p)) p (.ins (W.ca c) dx [])) ∧ Ext φ (φ ++ [p]) H (upd (upd H dx (.own p)) p (.ins (W.ca c) dx [])) ∧ Rep W (φ ++ [p]) (upd (upd H dx (.own p)) p (.ins (W.ca c) dx [])) (.ob h.length) (.ref p) := by
  have h2 : upd H dx (.own p) p = none := by rw [upd_ne (fun z => ne z.symm)]; exact hx
  refine ⟨(R.fresh hn).place h2 ⟨dx, [], rfl, rfl, rfl, d, hd, fun _ z => nomatch z⟩, (Ext.fresh hn).trans (.place h2), ⟨p, rfl, ?_⟩⟩
  rw [← R.len, List.getElem?_append_right (Nat.le_refl _)]
  simp
theorem under_guards {A : Around} {c : Addr} {us : List Value} (h : A.guards = some []) : (A.under (.builtin "type.__call__" ⟨.ref c :: us, []⟩)).guards = some [] := by
  unfold Around.under
  simp only
  rw [h]
  rfl
theorem call_mkX (ok : Okc W N k cl C) {c : Nat} {d : ClD} (hd : W.P.cl c = some d) : CallR C (.ref (W.ca c)) (vC W (mkX W.P cl c)) := by
  intro pins s σ H vs us Q I rv q
  obtain ⟨φ, h, xs, z, h', rx, R, e, a⟩ := q
  have F := ok.facts.cls c d hd
  unfold mkX at e
  rw [hd] at e
  simp only at e
  have hx := I.hok.fresh (Nat.le_succ s.heap.objs.size)
  have hdx := I.hok.fresh (Nat.le_refl s.heap.objs.size)
  have ne : s.heap.objs.size ≠ s.heap.objs.size + 1 := Nat.ne_of_lt (Nat.lt_succ_self _)
  obtain ⟨R2, x2, r2⟩ := rel_made (c := c) hd R hx hdx ne
  have I2 := Inv.made (C := W.ca c) I
  cases hi : d.init with
  | none =>
    rw [hi] at e
    simp only at e
    split at e
    · rename_i h0
      obtain rfl : xs = [] := by simpa using h0
      cases rx
      cases rv
      obtain ⟨m1, m2, m3⟩ := F.ini0 hi
      rw [← ok.hK] at m1 m2 m3
      obtain ⟨hh, g, dd, t, os⟩ := s
      have Y := PySem.W.makes_of (M := model C.prog C.w) I.kIn m1
      refine wpAny_call (PySem.W.make_core Y (PySem.W.looks_findIn I.kIn m2) (fun self => PySem.W.Looks.of_pure (PySem.W.oi_bind self)) (.inr ⟨rfl, rfl⟩) ?_)
      have e2 : ((hh.push PySem.W.emptyDict).push (PySem.W.instObj (W.ca c) hh.objs.size)).get? (hh.objs.size + 1) = some (PySem.W.instObj (W.ca c) hh.objs.size) := by
        have := Heap.get?_push_size (hh.push PySem.W.emptyDict) (o := PySem.W.instObj (W.ca c) hh.objs.size) rfl
        rwa [Heap.size_push] at this
      have t1 : PySem.W.Looks (model C.prog C.w) ((hh.push PySem.W.emptyDict).push (PySem.W.instObj (W.ca c) hh.objs.size)) (typeOf (.ref (hh.objs.size + 1))) (.ref (W.ca c)) := (PySem.W.Looks.ld e2).andThen .now
      have t2 : PySem.W.Looks (model C.prog C.w) ((hh.push PySem.W.emptyDict).push (PySem.W.instObj (W.ca c) hh.objs.size)) (isInstance (.ref (hh.objs.size + 1)) (.type "object")) true := t1.andThen (Y.top.keeps fun b o e => Heap.get?_push_of_some _ (Heap.get?_push_of_some _ e))
      refine codeAny_call_builtin PySem.W.oi_plain PySem.W.entry_oi (@PySem.W.check_slot (model C.prog C.w) _ _ _ "object.__init__" "object" "__init__" (.ref (hh.objs.size + 1)) [] [] _ PySem.W.oi_kind PySem.W.oi_split t2 (PySem.W.oi_args (.ref (hh.objs.size + 1))) ?_)
      rw [PySem.W.oi_run]
      refine wpAny_pure (And.intro rfl ?_)
      refine ⟨.ref (hh.objs.size + 1), _, I2, rfl, ?_⟩
      split at e
      · rename_i hf
        simp only [Bool.and_eq_true, List.isEmpty_iff] at hf
        cases e
        refine a φ _ _ ⟨List.prefix_refl _, fun _ h k => absurd h k, x2.keep⟩ ⟨R.len, R.nd, fun z hz => ⟨(R2.zz z hz).1, (R.zz z hz).2⟩, fun l o ho => ?_, R.tb⟩ ⟨_, [], rfl, ⟨R.off hx, _, [], d, upd_same, hd, ?_, rfl, ?_⟩, rfl⟩
        · obtain ⟨b, e1, q⟩ := R.at_ l o ho
          obtain ⟨b2, e3, q2⟩ := (R2.at_ l o (by rw [List.getElem?_append_left (List.getElem?_eq_some_iff.mp ho).1]; exact ho))
          have e4 := x2.get e1
          rw [e4] at e3
          cases e3
          exact ⟨b, e1, orel_back x2.pre q2 (orel_bel q)⟩
        · rw [hf.2]
          rfl
        · rw [hf.2]
          rfl
      · cases e
        exact a _ _ _ x2 R2 r2
    · cases e
  | some f =>
    rw [hi] at e
    simp only at e
    obtain ⟨v, h1, q1, q2⟩ := bnd_eq e
    split at q2
    · have M := F.ini f hi
      rw [← ok.hK] at M
      have r3 : Vals (V.ref (s.heap.objs.size + 1) :: vs) (Value.ref (s.heap.objs.size + 1) :: us) := .cons rfl rv
      have hfn : ∃ fd, W.P.fn f = some fd := by
        cases hf : W.P.fn f with
        | none =>
          rw [ok.clno f _ _ hf] at q1
          cases q1
        | some fd => exact ⟨fd, rfl⟩
      obtain ⟨fd, hfd⟩ := hfn
      refine wpAny_call (make_map (f := W.fa f) I.kIn M.makes M.init (beq_iff_eq.mp M.fn) (codeAny_mono (run_call (Q := fun v H1 => v = .non ∧ Q (.ref (s.heap.objs.size + 1)) H1) ok hfd (ok.room.make _ us []) (under_guards ok.guards) ?_ I2 r3 ?_) fun r s' hq => ?_))
      · have := (I2.env0.make (W.ca c) us []).frames
        rw [this]
        exact I2.env0.frames.symm
      · have hl : xs.length + 1 = (X.ob h.length :: xs).length := rfl
        refine ⟨W.Z, φ ++ [s.heap.objs.size + 1], h ++ [O.ins c []], X.ob h.length :: xs, .non, h1, ⟨_, _, rfl, r2, rx.ext x2⟩, R2, ?_, fun φ' H' w x' R' r => ?_⟩
        · exact q1
        · cases r
          obtain ⟨φ3, x3, R3, r3⟩ := fin_ok R (x2.trans x') R' (r2.ext x') q2
          exact ⟨rfl, a φ3 H' _ x3 R3 r3⟩
      · cases r with
        | error e => exact hq.elim
        | ok fl =>
          cases fl with
          | ret u =>
            obtain ⟨v, H', I3, rv, ev, q3⟩ := I2.after hq
            subst ev
            exact ⟨rv, ⟨V.ref (s.heap.objs.size + 1), H', I3, rfl, q3⟩⟩
          | next => exact hq.elim
          | brk => exact hq.elim
          | cont => exact hq.elim
    · cases q2
theorem pe_mkX (ok : Okc W N k cl C) (hsc : C.env.scope = sc) {c : Nat} {es : Es} (h : chE W.T N (.mk c es) sc x = true) (ihs : ∀ xs, chEs W.T N es sc xs = true → PA C xs (tL W (evEs W.P cl es))) : PE C x (tE W (evE W.P cl (.mk c es))) := by
  cases x <;> first | (exact absurd h Bool.false_ne_true) | skip
  rename_i fx xs kws p
  cases fx <;> first | (exact absurd h Bool.false_ne_true) | skip
  cases kws <;> first | (exact absurd h Bool.false_ne_true) | skip
  rename_i y p2
  have h : (isGlo sc (W.T.cl c) y && chEs W.T N es sc xs) = true := by
    rcases xs with _ | ⟨_, _ | ⟨_, _ | _⟩⟩ <;> exact h
  simp only [Bool.and_eq_true] at h
  obtain ⟨e1, e2, e3, e4⟩ := isGlo_of h.1 hsc
  refine ⟨fun pins s σ H Q I q => ?_⟩
  cases hd : W.P.cl c with
  | none =>
    exfalso
    obtain ⟨φ, e, h, ys, h', E, R, q1, a⟩ := q
    obtain ⟨zs, h1, q2, q3⟩ := bnd_eq q1
    unfold mkX at q3
    rw [hd] at q3
    cases q3
  | some d =>
    have q := tE_call (g := mkX W.P cl c) q
    have hm := ok.facts.cl c (by rw [e1]; exact e4)
    rw [e1] at hm
    refine wpAny_Call_Name_kw (ld_glob I e2 hm ?_ e3)
    have hk : PySem.W.keepIn C.K (.ref (W.ca c)) = true := by
      rw [ok.hK]
      have F := ok.facts.cls c d hd
      cases hi : d.init with
      | none => exact (F.ini0 hi).2.2
      | some f => exact (F.ini f hi).kp
    exact with_K (call_mkX ok hd) hk h.2 (ihs _ h.2) p pins s σ H Q I q
/-! ### methods -/
theorem meth_tree {o : Expr} {m : Str} {apos pos : Pos} {args : List Expr} {env : Env} (hb : attributeBase o m env (eval o env) = eval o env) (hp : args.all plainB = true) (hl : (apos.endLine == pos.line) = true) (hn : args.length < 29) :
    eval (.Call (.Attribute o m apos) args [] pos) env = (do
      let ov ← eval o env
      standAt apos.atName
      let (f, first) ← holding [ov] (getMethod ov m (do return (← importBound o env).getD true))
      callWith pos f first (backTo pos (starEach args env)) (backToKw pos (keywordEach [] env))) := by
  have few : methodCallForm (args.length + ([] : List Keyword).length) (backTo pos (starEach args env)) (backToKw pos (keywordEach [] env)) = true := by
    unfold methodCallForm
    have h1 : (backTo pos (starEach args env)).all (fun p => !p.1) = true := by
      have := any_plain (env := env) pos hp
      rw [List.all_eq_not_any_not]
      simpa using this
    rw [h1]
    have h2 : (backToKw pos (keywordEach [] env)).all (fun p => p.1.isSome) = true := rfl
    rw [h2]
    have h3 : (backToKw pos (keywordEach [] env)).isEmpty = true := rfl
    rw [h3]
    simp
    omega
  rw [arm_eval_Call, hb]
  unfold methodCall calleeOf methodCallPos
  rw [few]
  simp only [Bool.not_true, Bool.false_or, hl, if_true]
  rfl
theorem getN_mem {m f : Nat} : ∀ {ms : List (Nat × Nat)}, getN m ms = some f → (m, f) ∈ ms
  | [], h => nomatch h
  | (a, v) :: r, h => by
    unfold getN at h
    split at h
    · rename_i e
      cases h
      subst e
      exact List.mem_cons_self
    · exact List.mem_cons_of_mem _ (getN_mem h)
/-- an instance, and no attribute of that name -/
theorem rep_ins2 {φ : List Addr} {h : Hq} {H : Hp} {x : X} {c m : Nat} {d : ClD} {v : V} (F : Facts W C.mg) (R : Rel W φ h H) (r : Rep W φ H x v) (e : clsX x h = some c) (hd : W.P.cl c = some d) (hm : m ∉ d.flds) (hn : m < W.nf) :
    ∃ a dx fs, v = .ref a ∧ H a = some (.ins (W.ca c) dx fs) ∧ fs.lookup (W.T.fld m) = none := by
  have all : ∀ g ∈ d.flds, g < W.nf := fun g hg => ((F.cls c d hd).noat g hg).2
  unfold clsX at e
  split at e
  · cases e
    obtain ⟨a, vs, rfl, ⟨_, dx, fs, d2, h1, h2, h3, _⟩, _⟩ := r
    rw [hd] at h2
    cases h2
    exact ⟨a, dx, fs, rfl, h1, lookN hn all h3 hm⟩
  · split at e
    · rename_i _ fs hl
      cases e
      obtain ⟨a, e1, e2, dx, gs, e3, e4, e5, d2, h7, e6⟩ := R.ob r hl
      refine ⟨a, dx, gs, e1, e3, lookN (gs := fs.map (·.1)) hn ?_ (by rw [e4, List.map_map]; rfl) ?_⟩
      · intro g hg
        obtain ⟨p, hp, rfl⟩ := List.mem_map.mp hg
        exact (e6 p hp).1
      · intro hg
        obtain ⟨p, hp, e7⟩ := List.mem_map.mp hg
        have h8 := (e6 p hp).2
        rw [hd] at h7
        cases h7
        rw [e7] at h8
        exact hm h8
    · cases e
  · cases e
theorem pe_mthX (ok : Okc W N k cl C) {a : E} {m : Nat} {es : Es} (h : chE W.T N (.mth a m es) sc x = true) (iha : ∀ y, chE W.T N a sc y = true → PE C y (tE W (evE W.P cl a))) (ihs : ∀ xs, chEs W.T N es sc xs = true → PA C xs (tL W (evEs W.P cl es))) : PE C x (tE W (evE W.P cl (.mth a m es))) := by
  cases x <;> first | (exact absurd h Bool.false_ne_true) | skip
  rename_i fx xs kws p
  cases fx <;> first | (exact absurd h Bool.false_ne_true) | skip
  cases kws <;> first | (exact absurd h Bool.false_ne_true) | skip
  rename_i y n ap
  have h : (eqS (W.T.fld m) n && !isCall0 y && chE W.T N a sc y && chEs W.T N es sc xs && (ap.endLine == p.line) && decide (xs.length < 29)) = true := by
    rcases xs with _ | ⟨_, _ | ⟨_, _ | _⟩⟩ <;> exact h
  simp only [Bool.and_eq_true, decide_eq_true_eq] at h
  obtain ⟨⟨⟨⟨⟨h1, h2⟩, h3⟩, h4⟩, h5⟩, h6⟩ := h
  have en := eqS_iff h1
  subst en
  have hp := chEs_all h4
  refine ⟨fun pins s σ H Q I q => ?_⟩
  refine PySem.W.methodCall_KW (pl := do return (← importBound y C.env).getD true) ?_ (meth_tree (base_plain h2 _ _ _) hp (by simpa using h5) h6)
  obtain ⟨φ, e, h, z, h', E, R, q, aq⟩ := q
  obtain ⟨w, hq, q1, q2⟩ := bnd_eq q
  refine thn ((iha _ h3).run pins s σ H (fun v H1 => ∃ φ', Ext φ φ' H H1 ∧ Rel W φ' hq H1 ∧ Rep W φ' H1 w v) I ⟨φ, e, h, w, hq, E, R, q1, fun φ' H' v x' R' r => ⟨φ', x', R', r⟩⟩) fun u s1 ⟨v, H1, I1, rv, φ1, x1, R1, r1⟩ => ?_
  split at q2
  · rename_i f hf
    unfold mthX at hf
    split at hf
    · rename_i c hc
      split at hf
      · rename_i d hd
        have F := ok.facts.cls c d hd
        obtain ⟨m1, m2, m3⟩ := F.meth (m, f) (getN_mem hf)
        obtain ⟨p1, dx, fs, rfl, g1, g2⟩ := rep_ins2 ok.facts R1 r1 hc hd m2 m3
        obtain rfl : u = Value.ref p1 := rv
        have F1 := F.cls
        rw [← ok.hK] at F1 m1
        refine getmeth_ok I1 g1 F1 m1 g2 ?_
        obtain ⟨zs, h2', q3, q4⟩ := bnd_eq q2
        have hfn : ∃ fd, W.P.fn f = some fd := by
          cases hf : W.P.fn f with
          | none =>
            rw [ok.clno f _ _ hf] at q4
            cases q4
          | some fd => exact ⟨fd, rfl⟩
        obtain ⟨fd, hfd⟩ := hfn
        have call : ∀ s2 H2 us vs φ2, L2.Inv C pins σ H2 s2 → Vals vs us → Ext φ1 φ2 H1 H2 → Rel W φ2 h2' H2 → Reps W φ2 H2 zs vs → wpAny (model C.prog C.w) C.A (PySem.call (.ref (W.fa f)) (.ref p1 :: us)) (EP C pins σ Q) C.xe s2 := fun s2 H2 us vs φ2 I2 rvs x2 R2 rs => by
          refine call_fnX ok hfd pins s2 σ H2 (.ref p1 :: vs) (.ref p1 :: us) Q I2 (.cons rfl rvs) ?_
          refine ⟨W.Z, φ2, h2', w :: zs, z, h', ⟨_, _, rfl, r1.ext x2, rs⟩, R2, q4, fun φ3 H3 v3 x3 R3 r3 => aq φ3 H3 v3 ((x1.trans x2).trans x3) R3 r3⟩
        cases xs with
        | nil =>
          have := chEs_nil h4
          subst this
          cases q3
          exact PySem.W.callWith_K0 (first := [.ref p1]) I1.kIn m1.kp (call s1 H1 [] [] φ1 I1 .nil .refl R1 rfl)
        | cons y ys =>
          obtain ⟨hp1, hp2⟩ := all_tail hp
          refine PySem.W.callWith_K (first := [.ref p1]) (h₀ := C.base) I.ok.mod.kin m1.kp (thn ((ihs _ h4).run p pins s1 σ H1 (fun vs H2 => ∃ φ2, Ext φ1 φ2 H1 H2 ∧ Rel W φ2 h2' H2 ∧ Reps W φ2 H2 zs vs) I1 ⟨φ1, e, hq, zs, h2', E.ext x1, R1, q3, fun φ' H' v x' R' r => ⟨φ', x', R', r⟩⟩) fun us s2 ⟨vs, H2, I2, r2, φ2, x2, R2, rs⟩ => ⟨I2.kIn, ?_⟩) (star_plain hp1) (any_plain p hp2)
          exact call s2 H2 us vs φ2 I2 r2 x2 R2 rs
      · cases hf
    · cases hf
  · cases q2
end
end HP

set_option Elab.async false
set_option linter.all false
set_option maxRecDepth 10000
set_option maxHeartbeats 1000000
/-! The evaluator, part P: built-ins by name, isinstance, displays of dicts. -/
namespace HP
open PySem PySem.Spec PyProof.Rows L2
section
variable {W : Wd} {N : List Str} {k : Nat} {cl : Cll} {C : Cx} {sc : Scope} {x : Expr}
theorem bi_boot {b : Bi} (h : b ≠ .gcd) : bootBuiltins b.name = some b.val := by
  cases b <;> first | (exact absurd rfl h) | (show bootBuiltins _ = some _; decide +kernel)
theorem bi_nm (b : Bi) : b.name ≠ "__name__" ∧ (b.name == ("__debug__" : Str)) = false := by cases b <;> decide +kernel
theorem bi_free {b : Bi} (h : b ≠ .gcd) : b.name ∈ bnames := by
  cases b <;> first | (exact absurd rfl h) | (show _ ∈ L2s _; decide +kernel)
theorem bi_kind (b : Bi) : (∃ i, b.val = .builtin i) ∨ ∃ i, b.val = .type i := by
  cases b <;> first | (exact .inl ⟨_, rfl⟩) | (exact .inr ⟨_, rfl⟩)
/-- a call of a built-in by its value -/
theorem with_B {v : Value} {r : List V → Hp → VK → Prop} (hv : (∃ i, v = .builtin i) ∨ ∃ i, v = .type i) (hc : CallR C v r) {ta : TA} {y : Expr} {ys : List Expr} (hp : (y :: ys).all plainB = true) (ha : PA C (y :: ys) ta) (pos : Pos)
    (pins : List (Addr × Obj)) (s : Shared) (σ : SlotL) (H : Hp) (Q : VK) (I : L2.Inv C pins σ H s) (q : ta σ H fun vs H1 => r vs H1 Q) :
    wpAny (model C.prog C.w) C.A (callWith pos v [] (backTo pos (starEach (y :: ys) C.env)) (backToKw pos (keywordEach [] C.env))) (EP C pins σ Q) C.xe s := by
  obtain ⟨h1, h2⟩ := all_tail hp
  rcases hv with ⟨i, rfl⟩ | ⟨i, rfl⟩
  · exact PyProof.Rows.callWith_builtin1 (thn (ha.run pos pins s σ H _ I q) fun us s1 ⟨vs, H1, I1, r1, q1⟩ => hc pins s1 σ H1 vs us Q I1 r1 q1) (star_plain h1) (any_plain pos h2)
  · exact PyProof.Rows.callWith_type1 (thn (ha.run pos pins s σ H _ I q) fun us s1 ⟨vs, H1, I1, r1, q1⟩ => hc pins s1 σ H1 vs us Q I1 r1 q1) (star_plain h1) (any_plain pos h2)
theorem pe_biX (ok : Okc W N k cl C) (hsc : C.env.scope = sc) {m : Bool} {b : Bi} {es : Es} (h : chE W.T N (.bi m b es) sc x = true) (ihs : ∀ xs, chEs W.T N es sc xs = true → PA C xs (tL W (evEs W.P cl es))) : PE C x (tE W (evE W.P cl (.bi m b es))) := by
  cases x <;> first | (exact absurd h Bool.false_ne_true) | skip
  rename_i fx xs kws p
  cases fx <;> first | (exact absurd h Bool.false_ne_true) | skip
  cases kws <;> first | (exact absurd h Bool.false_ne_true) | skip
  rename_i y p2
  have h : (isGlo sc b.name y && chEs W.T N es sc xs && !xs.isEmpty && (!decide (b = .gcd) || W.T.gcd)) = true := by
    rcases xs with _ | ⟨_, _ | ⟨_, _ | _⟩⟩ <;> exact h
  simp only [Bool.and_eq_true] at h
  obtain ⟨⟨⟨h1, h2⟩, h3⟩, h4⟩ := h
  obtain ⟨e1, e2, e3, e4⟩ := isGlo_of h1 hsc
  subst e1
  cases xs with
  | nil => exact absurd h3 Bool.false_ne_true
  | cons z zs =>
  have hcall : CallR C b.val (vC W (biX m b)) := call_bi ok.hK ok.calm ok.guards ok.units
  refine ⟨fun pins s σ H Q I q => ?_⟩
  have q := tE_call (g := biX m b) q
  have go := with_B (bi_kind b) hcall (chEs_all h2) (ihs _ h2) p pins s σ H Q I q
  refine wpAny_Call_Name_kw ?_
  by_cases hb : b = .gcd
  · subst hb
    have hT : W.T.gcd = true := by simpa using h4
    exact ld_glob I e2 (ok.facts.gcd hT) go e3
  · exact ld_blt I e2 (ok.facts.free _ (bi_free hb)) (bi_boot hb) go (bi_nm b).1 e3
/-! ### methods of built-in types -/
theorem pe_bmX (ok : Okc W N k cl C) {m : Bool} {b : Bm} {o : E} {es : Es} (h : chE W.T N (.bm m b o es) sc x = true) (iho : ∀ y, chE W.T N o sc y = true → PE C y (tE W (evE W.P cl o))) (ihs : ∀ xs, chEs W.T N es sc xs = true → PA C xs (tL W (evEs W.P cl es))) : PE C x (tE W (evE W.P cl (.bm m b o es))) := by
  cases x <;> first | (exact absurd h Bool.false_ne_true) | skip
  rename_i fx xs kws p
  cases fx <;> first | (exact absurd h Bool.false_ne_true) | skip
  cases kws <;> first | (exact absurd h Bool.false_ne_true) | skip
  rename_i y n ap
  have h : (eqS b.name n && !isCall0 y && chE W.T N o sc y && chEs W.T N es sc xs && (ap.endLine == p.line) && decide (xs.length < 9)) = true := by
    rcases xs with _ | ⟨_, _ | ⟨_, _ | _⟩⟩ <;> exact h
  simp only [Bool.and_eq_true, decide_eq_true_eq] at h
  obtain ⟨⟨⟨⟨⟨h1, h2⟩, h3⟩, h4⟩, h5⟩, h6⟩ := h
  have en := eqS_iff h1
  subst en
  have hp := chEs_all h4
  have hl : (ap.endLine == p.line) = true := by simpa using h5
  by_cases hb : b = .append
  · subst hb
    cases xs with
    | nil =>
      have := chEs_nil h4
      subst this
      refine ⟨fun pins s σ H Q I q => ?_⟩
      exfalso
      obtain ⟨φ, e, h, z, h', E, R, q, a⟩ := q
      obtain ⟨u, h1, q1, q2⟩ := bnd_eq q
      split at q2
      · obtain ⟨us, h2, q3, q4⟩ := bnd_eq q2
        cases q3
        cases u <;> cases q4
      · cases q2
    | cons z zs =>
      obtain ⟨hp1, hp2⟩ := all_tail hp
      have few : ((backTo p (starEach (z :: zs) C.env)).all (fun x => !x.1) && (backToKw p (keywordEach [] C.env)).all (fun x => x.1.isSome)
          && decide ((z :: zs).length + ([] : List Keyword).length + (if ([] : List Keyword).isEmpty then 0 else 1) < 30)) = true := by
        have h1 : (backTo p (starEach (z :: zs) C.env)).all (fun q => !q.1) = true := by
          have := any_plain (env := C.env) p hp
          rw [List.all_eq_not_any_not]
          simpa using this
        rw [h1]
        have h2 : (backToKw p (keywordEach [] C.env)).all (fun q => q.1.isSome) = true := rfl
        rw [h2]
        simp only [Bool.true_and, decide_eq_true_eq, List.length_nil, List.isEmpty_nil, if_true]
        omega
      refine PE.imp (pe_bm PySem.F.plainAttrs_list PySem.F.slot_list_append PySem.F.type_list_append (mt_appendX (W := W) (m := m)) (iho _ h3) (ihs _ h4) (base_plain h2 _ _ _) few hl (star_plain hp1) (any_plain p hp2)) fun σ H Q q => ?_
      obtain ⟨φ0, e0, h0, z0, h0', E0, R0, q0, a0⟩ := q
      obtain ⟨u, h1, q2, q3⟩ := bnd_eq q0
      split at q3
      · rename_i hr
        obtain ⟨us, h2, q4, q5⟩ := bnd_eq q3
        refine ⟨φ0, e0, h0, u, h1, E0, R0, q2, fun φ1 H1 v x1 R1 r1 => ⟨?_, ⟨φ1, e0, h1, us, h2, E0.ext x1, R1, q4, fun φ2 H2 vs x2 R2 r2 => ⟨φ2, h2, u, us, z0, h0', r1.ext x2, r2, R2, q5, fun φ3 H3 v3 x3 R3 r3 => a0 φ3 H3 v3 ((x1.trans x2).trans x3) R3 r3⟩⟩⟩⟩
        unfold bmR at hr
        split at hr
        · split at hr
          · rename_i l _ xs hl
            obtain ⟨p1, rfl, _, ws, g1, _⟩ := R1.ob r1 hl
            exact .inl ⟨rfl, ws, .inl (.inl g1)⟩
          · cases hr
        · exact absurd ‹Bm.append = Bm.bitlen› (by decide)
        · cases hr
      · cases q3
  · by_cases hb2 : b = .bitlen
    · subst hb2
      cases xs with
      | nil =>
        have := chEs_nil h4
        subst this
        refine PE.imp (pe_bits (iho _ h3) (base_plain h2 _ _ _) hl) fun σ H Q q => ?_
        obtain ⟨φ0, e0, h0, z0, h0', E0, R0, q0, a0⟩ := q
        obtain ⟨u, h1, q2, q3⟩ := bnd_eq q0
        split at q3
        · rename_i hr
          obtain ⟨us, h2, q4, q5⟩ := bnd_eq q3
          cases q4
          refine ⟨φ0, e0, h0, u, _, E0, R0, q2, fun φ1 H1 v x1 R1 r1 => ?_⟩
          cases u <;> first | (exact absurd hr Bool.false_ne_true) | skip
          rename_i i
          cases q5
          cases r1
          refine ⟨i, rfl, a0 φ1 H1 _ x1 R1 ?_⟩
          have e : Builtin.Int.intBits i = (if i = 0 then (0 : Nat) else i.natAbs.log2 + 1) := by
            unfold Builtin.Int.intBits
            by_cases z : i = 0
            · subst z; rfl
            · simp [z]
          rw [e]
          exact rep_int
        · cases q3
      | cons z zs =>
        refine ⟨fun pins s σ H Q I q => ?_⟩
        exfalso
        obtain ⟨φ, e, h, z0, h', E, R, q, a⟩ := q
        obtain ⟨u, h1, q1, q2⟩ := bnd_eq q
        split at q2
        · obtain ⟨us, h2, q3, q4⟩ := bnd_eq q2
          cases es with
          | nil => exact absurd h4 Bool.false_ne_true
          | cons e1 es1 =>
            obtain ⟨w1, h3, q5, q6⟩ := bnd_eq q3
            obtain ⟨w2, h4, q7, q8⟩ := bnd_eq q6
            cases q8
            cases u <;> cases q4
        · cases q2
    · refine ⟨fun pins s σ H Q I q => ?_⟩
      exfalso
      obtain ⟨φ, e, h, z, h', E, R, q, a⟩ := q
      obtain ⟨u, h1, q1, q2⟩ := bnd_eq q
      split at q2
      · rename_i hr
        cases b <;> first | (exact absurd hr Bool.false_ne_true) | (exact hb rfl) | (exact hb2 rfl)
      · cases q2
end
end HP

set_option Elab.async false
set_option linter.all false
set_option maxRecDepth 10000
set_option maxHeartbeats 1000000
/-! The evaluator, part Q: isinstance, ranges as lists, reversed lists, displays of dicts. -/
namespace HP
open PySem PySem.Spec PyProof.Rows L2
/-- a value's class -/
def kdX (x : X) (h : Hq) : Option Kd := match x with
  | .non => some .non
  | .bl _ => some .bl
  | .int _ => some .int
  | .str _ => some .str
  | .tup _ => some .tup
  | .lst _ => some .lst
  | .ins c _ => some (.ins c)
  | .ob l => match h[l]? with
    | some (.lst _) => some .lst
    | some (.dct _) => some .dct
    | some (.ins c _) => some (.ins c)
    | _ => none
  | _ => none
theorem isi_kd {x : X} {h : Hq} {t : Tk} {b : Bool} (hx : ∀ l, x = .ob l → h[l]? ≠ none) (e : isiX x h t = some b) : ∃ k, kdX x h = some k ∧ kdIs k t = some b := by
  cases x with
  | ob l =>
    unfold kdX
    cases hl : h[l]? with
    | none => exact absurd hl (hx l rfl)
    | some o => cases o <;> cases t <;> simp_all [isiX, isTb, isiY, kdIs]
  | scr => cases t <;> simp_all [isiX, isTb, isiY]
  | fn => cases t <;> simp_all [isiX, isTb, isiY]
  | lam => cases t <;> simp_all [isiX, isTb, isiY]
  | _ => cases t <;> simp_all [isiX, isTb, isiY, kdX, kdIs]
section
variable {W : Wd} {N : List Str} {k : Nat} {cl : Cll} {C : Cx} {sc : Scope} {x : Expr}
theorem ty_kd (F : Facts W C.mg) {φ : List Addr} {h : Hq} {H : Hp} {x : X} {v : V} {k : Kd} (R : Rel W φ h H) (r : Rep W φ H x v) (e : kdX x h = some k) (hk : ∀ c, k = .ins c → (W.P.cl c).isSome) : TyX W.K H v (k.val W) := by
  have ins : ∀ {a c : Nat} {dx : Addr} {fs : List (Str × V)}, H a = some (.ins (W.ca c) dx fs) → k = .ins c → TyX W.K H (.ref a) (W.ca c |> Value.ref) := fun {a c dx fs} h1 e => by
    obtain ⟨d, hd⟩ := Option.isSome_iff_exists.mp (hk c e)
    have G := F.cls c d hd
    exact .base (.ins h1 G.cls G.isa.1 F.isg.1 F.isg.2 G.isa.2)
  unfold kdX at e
  split at e
  · cases e; cases r; exact .base .non
  · cases e; cases r; exact .base (.bl _)
  · cases e; cases r; exact .base (.int _)
  · cases e; cases r; exact .base (.str _)
  · cases e
    obtain ⟨a, vs, rfl, h1, _⟩ := r
    rcases h1.sq with (h1 | ⟨o, h1⟩) | ⟨ob, its, n, h2, h3, _⟩
    · exact .base (.tup h1)
    · exact .fTuple h1
    · exact .kTuple h2 h3
  · cases e
    obtain ⟨a, vs, rfl, h1, _⟩ := r
    exact .base (.lst h1.2)
  · cases e
    obtain ⟨a, vs, rfl, ⟨_, dx, fs, d, h1, _⟩, _⟩ := r
    exact ins h1 rfl
  · split at e
    · rename_i hl
      cases e
      obtain ⟨a, rfl, _, vs, h1, _⟩ := R.ob r hl
      exact .base (.lst h1)
    · rename_i hl
      cases e
      obtain ⟨a, rfl, _, vs, h1, _⟩ := R.ob r hl
      exact .base (.dK h1)
    · rename_i hl
      cases e
      obtain ⟨a, rfl, _, dx, gs, h1, _⟩ := R.ob r hl
      exact ins h1 rfl
    · cases e
  · cases e
theorem ob_there {φ : List Addr} {h : Hq} {H : Hp} {x : X} {v : V} (R : Rel W φ h H) (r : Rep W φ H x v) : ∀ l, x = .ob l → h[l]? ≠ none := by
  rintro l rfl e
  obtain ⟨a, _, h1⟩ := r
  have := (List.getElem?_eq_some_iff.mp h1).1
  rw [R.len] at this
  rw [List.getElem?_eq_getElem this] at e
  cases e
def Tk.v (W : Wd) : Tk → V
  | .tint => .ty "int" | .tbool => .ty "bool" | .tstr => .ty "str" | .tlist => .ty "list" | .ttuple => .ty "tuple" | .tnone => .ty "NoneType" | .cls c => .ref (W.ca c)
theorem tk_cls (t : Tk) : ClsV (t.v W) (t.val W) := by cases t <;> first | exact .ty _ | exact .own _
theorem tk_boot {t : Tk} (h : t ≠ .tnone) (h2 : ∀ c, t ≠ .cls c) : bootBuiltins (t.name W.T) = some (t.val W) ∧ t.name W.T ∈ bnames ∧ t.name W.T ≠ "__name__" := by
  have c1 : bootBuiltins "int" = some (.type "int") ∧ ("int" : Str) ∈ bnames ∧ ("int" : Str) ≠ "__name__" := by decide +kernel
  have c2 : bootBuiltins "bool" = some (.type "bool") ∧ ("bool" : Str) ∈ bnames ∧ ("bool" : Str) ≠ "__name__" := by decide +kernel
  have c3 : bootBuiltins "str" = some (.type "str") ∧ ("str" : Str) ∈ bnames ∧ ("str" : Str) ≠ "__name__" := by decide +kernel
  have c4 : bootBuiltins "list" = some (.type "list") ∧ ("list" : Str) ∈ bnames ∧ ("list" : Str) ≠ "__name__" := by decide +kernel
  have c5 : bootBuiltins "tuple" = some (.type "tuple") ∧ ("tuple" : Str) ∈ bnames ∧ ("tuple" : Str) ≠ "__name__" := by decide +kernel
  cases t with
  | tnone => exact absurd rfl h
  | cls c => exact absurd rfl (h2 c)
  | tint => exact c1
  | tbool => exact c2
  | tstr => exact c3
  | tlist => exact c4
  | ttuple => exact c5
theorem pe_tk (ok : Okc W N k cl C) (hsc : C.env.scope = sc) {t : Tk} {x : Expr} (h : tkB W.T sc t x = true) : PE C x (tC (t.v W)) ∧ plainB x = true ∧ (∀ c, t = .cls c → (W.T.cl c).cps.size ≠ 0) := by
  cases x <;> first | (exact absurd h Bool.false_ne_true) | skip
  rename_i y p
  have h : (!decide (t = .tnone) && isGlo sc (t.name W.T) y) = true := h
  simp only [Bool.and_eq_true, Bool.not_eq_true', decide_eq_false_iff_not] at h
  obtain ⟨e1, e2, e3, e4⟩ := isGlo_of h.2 hsc
  subst e1
  refine ⟨?_, rfl, fun c hc => by subst hc; exact e4⟩
  by_cases hc : ∃ c, t = .cls c
  · obtain ⟨c, rfl⟩ := hc
    exact pe_glob e2 (ok.facts.cl c e4) (show L2.RelV (.ref (W.ca c)) (.ref (W.ca c)) from rfl) e3
  · have hb := tk_boot (W := W) h.1 (fun c e => hc ⟨c, e⟩)
    refine pe_bltn e2 (ok.facts.free _ hb.2.1) hb.1 ?_ hb.2.2 e3
    cases t <;> first | rfl | exact absurd ⟨_, rfl⟩ hc
/-- the classes, one after the other -/
def tKs (W : Wd) (ts : List Tk) : TA := fun _ H Q => Q (ts.map (Tk.v W)) H
theorem pa_tks (ok : Okc W N k cl C) (hsc : C.env.scope = sc) : ∀ {ts : List Tk} {xs : List Expr}, tksB W.T sc ts xs = true → PA C xs (tKs W ts) ∧ xs.all plainB = true ∧ ∀ t ∈ ts, ∀ c, t = .cls c → (W.T.cl c).cps.size ≠ 0
  | [], [], _ => ⟨⟨fun pos pins s σ H Q I q => pa_nil.run pos pins s σ H Q I q⟩, rfl, fun t h => nomatch h⟩
  | [], _ :: _, h => absurd h Bool.false_ne_true
  | _ :: _, [], h => absurd h Bool.false_ne_true
  | t :: ts, x :: xs, h => by
    have h := Bool.and_eq_true_iff.mp h
    obtain ⟨p1, p2, p3⟩ := pe_tk ok hsc h.1
    obtain ⟨q1, q2, q3⟩ := pa_tks ok hsc h.2
    refine ⟨PA.imp (pa_cons p1 q1 (star_plain p2)) fun σ H Q q => q, by rw [List.all_cons, p2, q2]; rfl, fun t' h' => ?_⟩
    rcases List.mem_cons.mp h' with rfl | h'
    · exact p3
    · exact q3 t' h'
theorem kit_one (F : Facts W C.mg) {φ : List Addr} {h : Hq} {H : Hp} {x : X} {v : V} (R : Rel W φ h H) (r : Rep W φ H x v) {t : Tk} {b : Bool} (ht : ∀ c, t = .cls c → (W.T.cl c).cps.size ≠ 0) (hx : ∀ c, clsX x h = some c → (W.P.cl c).isSome) (e : isiX x h t = some b) :
    ∃ k, kdX x h = some k ∧ PySem.W.kitOne W.K (k.val W) (t.val W) = some b := by
  obtain ⟨k, h1, h2⟩ := isi_kd (ob_there R r) e
  refine ⟨k, h1, F.kit k t b h2 (fun c hc => hx c ?_) ht⟩
  subst hc
  unfold kdX at h1
  unfold clsX
  split at h1 <;> first | (cases h1; done) | skip
  · cases h1
    rfl
  · split at h1 <;> first | (cases h1; done) | skip
    cases h1
    rename_i hl
    simp only [hl]
/-- an instance's class is known -/
theorem cls_known {φ : List Addr} {h : Hq} {H : Hp} {x : X} {v : V} (R : Rel W φ h H) (r : Rep W φ H x v) : ∀ c, clsX x h = some c → (W.P.cl c).isSome := by
  intro c e
  unfold clsX at e
  split at e
  · cases e
    obtain ⟨a, vs, rfl, ⟨_, dx, fs, d, h1, h2, _⟩, _⟩ := r
    rw [h2]
    rfl
  · split at e
    · rename_i hl
      cases e
      obtain ⟨a, e1, e2, dx, gs, e3, e4, e5, d2, h7, e6⟩ := R.ob r hl
      rw [h7]
      rfl
    · cases e
  · cases e
theorem kit_all (F : Facts W C.mg) {φ : List Addr} {h : Hq} {H : Hp} {x : X} {v : V} (R : Rel W φ h H) (r : Rep W φ H x v) {k : Kd} (hk : kdX x h = some k) : ∀ {ts : List Tk} {b : Bool}, (∀ t ∈ ts, ∀ c, t = .cls c → (W.T.cl c).cps.size ≠ 0) → isiA x h ts = some b → PySem.W.kitAny W.K (k.val W) (ts.map (Tk.val W)) = some b
  | [], b, _, e => by
    cases e
    rfl
  | t :: ts, b, ht, e => by
    unfold isiA at e
    have one : ∀ {c : Bool}, isiX x h t = some c → PySem.W.kitOne W.K (k.val W) (t.val W) = some c := fun {c} e => by
      obtain ⟨k2, h1, h2⟩ := kit_one F R r (ht t List.mem_cons_self) (cls_known R r) e
      rw [hk] at h1
      cases h1
      exact h2
    split at e
    · rename_i hi
      cases e
      exact kitAny_cons (one hi) (fun z => nomatch z) fun _ => rfl
    · rename_i hi
      exact kitAny_cons (one hi) (fun _ => kit_all F R r hk (fun t' h' => ht t' (List.mem_cons_of_mem _ h')) e) fun z => nomatch z
    · cases e
theorem tks_cls (ts : List Tk) : Paired ClsV (ts.map (Tk.v W)) (ts.map (Tk.val W)) := by
  induction ts with
  | nil => exact .nil
  | cons t ts ih => exact .cons (tk_cls t) ih
theorem isiA_kd {x : X} {h : Hq} (hx : ∀ l, x = .ob l → h[l]? ≠ none) {t : Tk} {ts : List Tk} {b : Bool} (e : isiA x h (t :: ts) = some b) : ∃ k, kdX x h = some k := by
  unfold isiA at e
  split at e
  · rename_i hi
    exact let ⟨k, h1, _⟩ := isi_kd hx hi; ⟨k, h1⟩
  · rename_i hi
    exact let ⟨k, h1, _⟩ := isi_kd hx hi; ⟨k, h1⟩
  · cases e
theorem pe_isiX (ok : Okc W N k cl C) (hsc : C.env.scope = sc) {a : E} {ts : List Tk} (h : chE W.T N (.isi a ts) sc x = true) (iha : ∀ y, chE W.T N a sc y = true → PE C y (tE W (evE W.P cl a))) : PE C x (tE W (evE W.P cl (.isi a ts))) := by
  cases x <;> first | (exact absurd h Bool.false_ne_true) | skip
  rename_i fx xs kws p
  cases fx <;> first | (exact absurd h Bool.false_ne_true) | skip
  rename_i n p2
  rcases xs with _ | ⟨y, _ | ⟨z, _ | ⟨_, _⟩⟩⟩ <;> first | (exact absurd h Bool.false_ne_true) | skip
  cases kws <;> first | (exact absurd h Bool.false_ne_true) | skip
  have h : (isGlo sc "isinstance" n && chE W.T N a sc y && plainB y && tkzB W.T sc ts z) = true := h
  simp only [Bool.and_eq_true] at h
  obtain ⟨⟨⟨h1, h2⟩, h3⟩, h4⟩ := h
  obtain ⟨e1, e2, e3, e4⟩ := isGlo_of h1 hsc
  subst e1
  have hb : bootBuiltins "isinstance" = some (.builtin "isinstance") := by decide +kernel
  have hfr : ("isinstance" : Str) ∈ bnames := by decide +kernel
  refine ⟨fun pins s σ H Q I q => wpAny_Call_Name_kw (ld_blt I e2 (ok.facts.free _ hfr) hb ?_ (by decide +kernel) e3)⟩
  obtain ⟨φ, e, h0, z0, h', E, R, q, aq⟩ := q
  obtain ⟨w, h1', q1, q2⟩ := bnd_eq q
  split at q2
  · rename_i bb hbb
    cases q2
    unfold tkzB at h4
    split at h4
    · rename_i t wn wp
      obtain ⟨p1, p2', p3⟩ := pe_tk ok hsc h4
      refine with_B (.inl ⟨_, rfl⟩) (call_isi (X := C)) (by rw [List.all_cons, h3, List.all_cons, p2']; rfl) (pa_cons (iha _ h2) (pa_cons p1 pa_nil (star_plain p2')) (star_plain h3)) p pins s σ H Q I ?_
      refine ⟨φ, e, h0, w, h', E, R, q1, fun φ1 H1 v x1 R1 r1 => ?_⟩
      have hi : isiX w h' t = some bb := by
        unfold isiA at hbb
        split at hbb
        · rename_i hi
          cases hbb
          exact hi
        · rename_i hi
          cases hbb
          exact hi
        · cases hbb
      obtain ⟨kd, k1, k2⟩ := kit_one ok.facts R1 r1 p3 (cls_known R1 r1) hi
      have hc := cls_known R1 r1
      refine ⟨v, t.v W, kd.val W, t.val W, bb, rfl, tk_cls t, ?_, by rw [ok.hK]; exact k2, aq φ1 H1 _ x1 R1 rep_bl⟩
      rw [ok.hK]
      exact ty_kd ok.facts R1 r1 k1 fun c hk => hc c (by
        subst hk
        unfold kdX at k1
        unfold clsX
        split at k1 <;> first | (cases k1; done) | skip
        · cases k1
          rfl
        · split at k1 <;> first | (cases k1; done) | skip
          cases k1
          rename_i hl
          simp only [hl])
    · rename_i zs tp1 tp2
      simp only [Bool.and_eq_true, decide_eq_true_eq] at h4
      obtain ⟨⟨t1, t2⟩, t3⟩ := h4
      obtain ⟨g1, g2, g3⟩ := pa_tks ok hsc t1
      refine with_B (.inl ⟨_, rfl⟩) (call_isiT (X := C)) (by rw [List.all_cons, h3]; rfl) (pa_cons (iha _ h2) (pa_cons (pe_tup g1) pa_nil (star_plain rfl)) (star_plain h3)) p pins s σ H Q I ?_
      refine ⟨φ, e, h0, w, h', E, R, q1, fun φ1 H1 v x1 R1 r1 => ?_⟩
      refine ⟨by rw [List.length_map, sizeLine_eq]; omega, fun tp htp => ?_⟩
      cases ts with
      | nil => exact absurd t2 (by decide)
      | cons t ts =>
      obtain ⟨kd, k1⟩ := isiA_kd (ob_there R1 r1) hbb
      have k2 := kit_all ok.facts R1 r1 k1 g3 hbb
      have hc := cls_known R1 r1
      have R2 := R1.fresh (o := .tup ((t :: ts).map (Tk.v W))) htp
      have r2 := r1.ext (Ext.fresh (o := .tup ((t :: ts).map (Tk.v W))) htp)
      refine ⟨v, tp, _, kd.val W, _, bb, rfl, upd_same, tks_cls _, ?_, by rw [ok.hK]; exact k2, aq φ1 _ _ (x1.trans (.fresh htp)) R2 rep_bl⟩
      rw [ok.hK]
      exact ty_kd ok.facts R2 r2 k1 fun c hk => hc c (by
        subst hk
        unfold kdX at k1
        unfold clsX
        split at k1 <;> first | (cases k1; done) | skip
        · cases k1
          rfl
        · split at k1 <;> first | (cases k1; done) | skip
          cases k1
          rename_i hl
          simp only [hl])
    · cases h4
  · cases q2
/-! ### each of a list -/
def AllE (p : E → Prop) : Es → Prop
  | .nil => True
  | .cons e es => p e ∧ AllE p es
/-- all that an expression is wanted for -/
def GoodE (W : Wd) (N : List Str) (cl : Cll) (C : Cx) (sc : Scope) (e : E) : Prop := ∀ y, chE W.T N e sc y = true → PE C y (tE W (evE W.P cl e))
theorem pe_revX (ok : Okc W N k cl C) {m : Bool} {a : E} (h : chE W.T N (.rev m a) sc x = true) (iha : GoodE W N cl C sc a) : PE C x (tE W (evE W.P cl (.rev m a))) := by
  cases x <;> first | (exact absurd h Bool.false_ne_true) | skip
  rename_i y z p
  cases z <;> first | (exact absurd h Bool.false_ne_true) | skip
  rename_i l u st p2
  rcases l with _ | _ <;> rcases u with _ | _ <;> rcases st with _ | st <;> first | (exact absurd h Bool.false_ne_true) | skip
  cases st <;> first | (exact absurd h Bool.false_ne_true) | skip
  rename_i op v p3
  cases op <;> first | (exact absurd h Bool.false_ne_true) | skip
  cases v <;> first | (exact absurd h Bool.false_ne_true) | skip
  rename_i c n p4
  cases c <;> first | (exact absurd h Bool.false_ne_true) | skip
  rename_i i
  rcases i with (_ | _ | _) | _ <;> first | (exact absurd h Bool.false_ne_true) | skip
  have h : chE W.T N a sc y = true := h
  refine PE.imp (pe_revL (iha _ h)) fun σ H Q q => ?_
  rw [ok.hK]
  obtain ⟨φ, e, h, z, h', E, R, q, aq⟩ := q
  obtain ⟨w, h1, q1, q2⟩ := bnd_eq q
  refine ⟨φ, e, h, w, h1, E, R, q1, fun φ1 H1 v x1 R1 r1 => ?_⟩
  split at q2
  · rename_i xs hx
    obtain ⟨p, vs, rfl, t, qq⟩ := rep_lst R1 r1 hx
    have a' : Aft W φ1 H1 z h' Q := fun φ2 H2 v x2 R2 r2 => aq φ2 H2 v (x1.trans x2) R2 r2
    exact ⟨p, vs, rfl, .inl (.inl t), (Aft.newL R1 qq.reverse q2 a').2⟩
  · cases q2
/-! ### ranges -/
def tRg0 (W : Wd) (ml : Env' → M (List X)) : SlotL → Hp → (Int → Int → Hp → Prop) → Prop := fun σ H Q => ∃ φ e h xs h' a b, ERel W φ H e σ ∧ Rel W φ h H ∧ ml e h = .ok xs h' ∧ (xs = [.int b] ∧ a = 0 ∨ xs = [.int a, .int b]) ∧ ∀ φ' H', Ext φ φ' H H' → Rel W φ' h' H' → Q a b H'
theorem prg_X (ok : Okc W N k cl C) (hsc : C.env.scope = sc) {es : Es} {xs : List Expr} {n : Str} {p pos : Pos} (hn : isGlo sc "range" n = true) (he : chEs W.T N es sc xs = true) (ih : AllE (GoodE W N cl C sc) es) : PRg C (.Call (.Name n p) xs [] pos) (tRg0 W (evEs W.P cl es)) := by
  obtain ⟨e1, e2, e3, e4⟩ := isGlo_of hn hsc
  subst e1
  have hm : C.mg "range" = none := ok.facts.free _ (by decide +kernel)
  have vac : ∀ {P : Prop} {σ H} {Q : Int → Int → Hp → Prop}, (∀ e h ys h', evEs W.P cl es e h = .ok ys h' → ys.length ≠ 1 ∧ ys.length ≠ 2) → tRg0 W (evEs W.P cl es) σ H Q → P := fun {P σ H Q} hv q => by
    obtain ⟨φ, e, h, ys, h', a, b, E, R, q1, q2, a⟩ := q
    obtain ⟨v1, v2⟩ := hv e h ys h' q1
    rcases q2 with ⟨rfl, _⟩ | rfl
    · exact absurd rfl v1
    · exact absurd rfl v2
  cases es with
  | nil =>
    intro pins s σ H Q I q
    exact vac (fun e h ys h' q => by cases q; exact ⟨by decide, by decide⟩) q
  | cons a es =>
    cases xs with
    | nil => exact absurd he Bool.false_ne_true
    | cons x xs =>
    have he : (chE W.T N a sc x && plainB x && chEs W.T N es sc xs) = true := he
    simp only [Bool.and_eq_true] at he
    cases es with
    | nil =>
      cases xs with
      | cons _ _ => exact absurd he.2 Bool.false_ne_true
      | nil =>
      have r := prg_1 (p := p) (pos := pos) e2 hm (ih.1 x he.1.1) (star_plain he.1.2)
      intro pins s σ H Q I q
      refine r pins s σ H Q I ?_
      obtain ⟨φ, e, h, ys, h', a, b, E, R, q1, q2, aq⟩ := q
      obtain ⟨w, h1, q3, q4⟩ := bnd_eq q1
      obtain ⟨ws, h2, q5, q6⟩ := bnd_eq q4
      cases q5
      cases q6
      refine ⟨φ, e, h, w, _, E, R, q3, fun φ1 H1 v x1 R1 r1 => ?_⟩
      rcases q2 with ⟨q2, rfl⟩ | q2
      · cases q2
        cases r1
        exact ⟨b, rfl, aq φ1 H1 x1 R1⟩
      · cases q2
    | cons b es =>
      cases xs with
      | nil => exact absurd he.2 Bool.false_ne_true
      | cons y xs =>
      have he2 : (chE W.T N b sc y && plainB y && chEs W.T N es sc xs) = true := he.2
      simp only [Bool.and_eq_true] at he2
      cases es with
      | nil =>
        cases xs with
        | cons _ _ => exact absurd he2.2 Bool.false_ne_true
        | nil =>
        have r := prg_2 (p := p) (pos := pos) e2 hm (ih.1 x he.1.1) (ih.2.1 y he2.1.1) (star_plain he.1.2) (star_plain he2.1.2) (any_plain pos (by rw [List.all_cons, he2.1.2]; rfl))
        intro pins s σ H Q I q
        refine r pins s σ H Q I ?_
        obtain ⟨φ, e, h, ys, h', a, b, E, R, q1, q2, aq⟩ := q
        obtain ⟨w, h1, q3, q4⟩ := bnd_eq q1
        obtain ⟨ws, h2, q5, q6⟩ := bnd_eq q4
        obtain ⟨w2, h3, q7, q8⟩ := bnd_eq q5
        obtain ⟨ws2, h4, q9, q10⟩ := bnd_eq q8
        cases q9
        cases q10
        cases q6
        refine ⟨φ, e, h, w, h1, E, R, q3, fun φ1 H1 v x1 R1 r1 => ⟨φ1, e, h1, w2, _, E.ext x1, R1, q7, fun φ2 H2 v2 x2 R2 r2 => ?_⟩⟩
        rcases q2 with ⟨q2, rfl⟩ | q2
        · cases q2
        · cases q2
          have r1 := r1.ext x2
          cases r1
          cases r2
          exact ⟨_, _, rfl, rfl, aq φ2 H2 (x1.trans x2) R2⟩
      | cons c es =>
        intro pins s σ H Q I q
        refine vac (fun e h ys h' q => ?_) q
        obtain ⟨w, h1, q3, q4⟩ := bnd_eq q
        obtain ⟨ws, h2, q5, q6⟩ := bnd_eq q4
        obtain ⟨w2, h3, q7, q8⟩ := bnd_eq q5
        obtain ⟨ws2, h4, q9, q10⟩ := bnd_eq q8
        obtain ⟨w3, h5, q11, q12⟩ := bnd_eq q9
        obtain ⟨ws3, h6, q13, q14⟩ := bnd_eq q12
        cases q14
        cases q10
        cases q6
        exact ⟨by simp, by simp⟩
theorem rng_ab {xs : List X} {ys : List X} (h : rngX xs = some ys) : ∃ a b : Int, (xs = [.int b] ∧ a = 0 ∨ xs = [.int a, .int b]) ∧ -(2 ^ 62) ≤ a ∧ a < 2 ^ 62 ∧ -(2 ^ 62) ≤ b ∧ b < 2 ^ 62 ∧ ys = (List.range (b - a).toNat).map fun (k : Nat) => .int (a + k) := by
  unfold rngX at h
  split at h
  · rename_i n
    split at h
    · rename_i hb
      cases h
      simp only [Bool.and_eq_true, decide_eq_true_eq] at hb
      refine ⟨0, n, .inl ⟨rfl, rfl⟩, by decide, by decide, hb.1, hb.2, ?_⟩
      rw [Int.sub_zero]
      congr 1
      funext k
      rw [Int.zero_add]
    · cases h
  · rename_i a b
    split at h
    · rename_i hb
      cases h
      simp only [Bool.and_eq_true, decide_eq_true_eq] at hb
      exact ⟨a, b, .inr rfl, hb.1.1.1, hb.1.1.2, hb.1.2, hb.2, rfl⟩
    · cases h
  · cases h
theorem reps_rg {φ : List Addr} {H : Hp} (a : Int) : ∀ (n : Nat) (f : Nat → Nat), Reps W φ H ((List.range n).map fun k => .int (a + (f k : Nat))) ((List.range n).map fun i => V.int (a + (f i : Nat)))
  | 0, _ => rfl
  | n + 1, f => by
    rw [List.range_succ_eq_map, List.map_cons, List.map_cons, List.map_map, List.map_map]
    exact ⟨_, _, rfl, rep_int, reps_rg a n (f ∘ Nat.succ)⟩
theorem pe_lrgX (ok : Okc W N k cl C) (hsc : C.env.scope = sc) {m : Bool} {es : Es} (h : chE W.T N (.lrg m es) sc x = true) (ih : AllE (GoodE W N cl C sc) es) : PE C x (tE W (evE W.P cl (.lrg m es))) := by
  cases x <;> first | (exact absurd h Bool.false_ne_true) | skip
  rename_i fx xs kws p
  cases fx <;> first | (exact absurd h Bool.false_ne_true) | skip
  rename_i n p2
  rcases xs with _ | ⟨y, r⟩ <;> first | (exact absurd h Bool.false_ne_true) | skip
  cases y <;> first | (exact absurd h Bool.false_ne_true) | skip
  rename_i gx ys kws2 p3
  cases gx <;> first | (exact absurd h Bool.false_ne_true) | skip
  rename_i n2 p4
  cases kws2 <;> first | (exact absurd h Bool.false_ne_true) | skip
  cases r <;> first | (exact absurd h Bool.false_ne_true) | skip
  cases kws <;> first | (exact absurd h Bool.false_ne_true) | skip
  have h : (isGlo sc "list" n && isGlo sc "range" n2 && chEs W.T N es sc ys) = true := h
  simp only [Bool.and_eq_true] at h
  obtain ⟨e1, e2, e3, e4⟩ := isGlo_of h.1.1 hsc
  subst e1
  refine PE.imp (pe_listRg ok.calm e2 (ok.facts.free _ (by decide +kernel)) (prg_X ok hsc h.1.2 h.2 ih) (star_plain rfl)) fun σ H Q q => ?_
  obtain ⟨φ, e, h, z, h', E, R, q, aq⟩ := q
  obtain ⟨ws, h1, q1, q2⟩ := bnd_eq q
  cases hy : rngX ws with
  | none =>
    rw [hy] at q2
    cases q2
  | some ys =>
    rw [hy] at q2
    obtain ⟨a, b, f1, f2, f3, f4, f5, rfl⟩ := rng_ab hy
    refine ⟨φ, e, h, ws, h1, a, b, E, R, q1, f1, fun φ1 H1 x1 R1 => ?_⟩
    have a' : Aft W φ1 H1 z h' Q := fun φ2 H2 v x2 R2 r2 => aq φ2 H2 v (x1.trans x2) R2 r2
    have rr : Reps W φ1 H1 ((List.range (b - a).toNat).map fun (k : Nat) => .int (a + k)) (rgV a b) := reps_rg a _ id
    obtain ⟨k1, k2⟩ := Aft.newL R1 rr q2 a'
    refine ⟨⟨f2, f3, f4, f5, ?_⟩, k2⟩
    rw [rgV_length, sizeLine_eq] at k1
    exact k1
end
end HP

set_option Elab.async false
set_option linter.all false
set_option maxRecDepth 10000
set_option maxHeartbeats 1000000
/-! The evaluator, part R: displays of dicts. -/
namespace HP
open PySem PySem.Spec PyProof.Rows L2
section
variable {W : Wd} {N : List Str} {k : Nat} {cl : Cll} {C : Cx} {sc : Scope} {x : Expr}
def tPs (W : Wd) (cl : Cll) : List Str → Es → List (TE × TE)
  | k :: ks, .cons e es => (tC (.str k), tE W (evE W.P cl e)) :: tPs W cl ks es
  | _, _ => []
theorem pps_X {pos : Pos} : ∀ {ks : List Str} {vs : Es} {ys : List (Option Expr)} {xs : List Expr}, keysB ks ys = true → chEs W.T N vs sc xs = true → ys.length = xs.length → AllE (GoodE W N cl C sc) vs → PPs C pos ys xs (tPs W cl ks vs) ∧ ys.all (·.isSome) = true ∧ ks.length = ys.length
  | [], .nil, [], [], _, _, _, _ => ⟨pps_nil, rfl, rfl⟩
  | [], .cons _ _, [], [], _, h, _, _ => absurd h Bool.false_ne_true
  | [], _, _ :: _, _, h, _, _, _ => absurd h Bool.false_ne_true
  | [], _, [], _ :: _, _, _, h, _ => by simp at h
  | _ :: _, _, [], _, h, _, _, _ => absurd h Bool.false_ne_true
  | _ :: _, _, none :: _, _, h, _, _, _ => absurd h Bool.false_ne_true
  | _ :: _, _, _ :: _, [], _, _, h, _ => by simp at h
  | _ :: _, .nil, some _ :: _, _ :: _, _, h, _, _ => absurd h Bool.false_ne_true
  | k :: ks, .cons e es, some y :: ys, x :: xs, h1, h2, h3, h4 => by
    cases y <;> first | (exact absurd h1 Bool.false_ne_true) | skip
    rename_i c n p
    cases c <;> first | (exact absurd h1 Bool.false_ne_true) | skip
    have h1 := Bool.and_eq_true_iff.mp h1
    have h2 : (chE W.T N e sc x && plainB x && chEs W.T N es sc xs) = true := h2
    simp only [Bool.and_eq_true] at h2
    have ek := eqS_iff h1.1
    subst ek
    obtain ⟨g1, g2, g3⟩ := pps_X (pos := pos) h1.2 h2.2 (by simpa using h3) h4.2
    exact ⟨pps_cons pe_str (h4.1 x h2.1.1) g1, by rw [List.all_cons, g2]; rfl, by simp [g3]⟩
theorem tE_mono {m : Env' → M X} {σ : SlotL} {H : Hp} {Q Q' : VK} (q : tE W m σ H Q) (hk : ∀ v H, Q v H → Q' v H) : tE W m σ H Q' := by
  obtain ⟨φ, e, h, x, h', E, R, q1, a⟩ := q
  exact ⟨φ, e, h, x, h', E, R, q1, fun φ' H' v x' R' r => hk _ _ (a φ' H' v x' R' r)⟩
theorem tPs_mono : ∀ {ks : List Str} {vs : Es} {σ : SlotL} {H : Hp} {Q Q' : List (V × V) → Hp → Prop}, tPairs (tPs W cl ks vs) σ H Q → (∀ ps H, Q ps H → Q' ps H) → tPairs (tPs W cl ks vs) σ H Q'
  | [], _, _, _, _, _, q, hk => hk _ _ q
  | _ :: _, .nil, _, _, _, _, q, hk => hk _ _ q
  | k :: ks, .cons e es, _, _, _, _, q, hk => tE_mono (show tE W (evE W.P cl e) _ _ _ from q) fun v H q => tPs_mono q fun ps H q => hk _ _ q
theorem tP_of : ∀ {ks : List Str} {vs : Es} {ys : List (Option Expr)} {xs : List Expr}, keysB ks ys = true → chEs W.T N vs sc xs = true → ys.length = xs.length → ∀ (σ : SlotL) (H : Hp) (Q : List V → Hp → Prop), tL W (evEs W.P cl vs) σ H Q →
    tPairs (tPs W cl ks vs) σ H fun ps H2 => ∃ us, ps = (ks.map V.str).zip us ∧ Q us H2
  | [], .nil, [], [], _, _, _, σ, H, Q, q => ⟨[], rfl, tL_nil q⟩
  | [], .cons _ _, [], [], _, h, _, _, _, _, _ => absurd h Bool.false_ne_true
  | [], _, _ :: _, _, h, _, _, _, _, _, _ => absurd h Bool.false_ne_true
  | [], _, [], _ :: _, _, _, h, _, _, _, _ => by simp at h
  | _ :: _, _, [], _, h, _, _, _, _, _, _ => absurd h Bool.false_ne_true
  | _ :: _, _, none :: _, _, h, _, _, _, _, _, _ => absurd h Bool.false_ne_true
  | _ :: _, _, _ :: _, [], _, _, h, _, _, _, _ => by simp at h
  | _ :: _, .nil, some _ :: _, _ :: _, _, h, _, _, _, _, _ => absurd h Bool.false_ne_true
  | k :: ks, .cons e es, some y :: ys, x :: xs, h1, h2, h3, σ, H, Q, q => by
    cases y <;> first | (exact absurd h1 Bool.false_ne_true) | skip
    rename_i c n p
    cases c <;> first | (exact absurd h1 Bool.false_ne_true) | skip
    have h1 := Bool.and_eq_true_iff.mp h1
    have h2 : (chE W.T N e sc x && plainB x && chEs W.T N es sc xs) = true := h2
    simp only [Bool.and_eq_true] at h2
    obtain ⟨φ, ev, h, zs, h', E, R, q, aq⟩ := q
    obtain ⟨w, h1', q1, q2⟩ := bnd_eq q
    obtain ⟨ws, h2', q3, q4⟩ := bnd_eq q2
    cases q4
    refine ⟨φ, ev, h, w, h1', E, R, q1, fun φ1 H1 v x1 R1 r1 => ?_⟩
    have q5 : tL W (evEs W.P cl es) σ H1 (fun us H2 => Q (v :: us) H2) := ⟨φ1, ev, h1', ws, h', E.ext x1, R1, q3, fun φ2 H2 us x2 R2 r2 => aq φ2 H2 _ (x1.trans x2) R2 ⟨_, _, rfl, r1.ext x2, r2⟩⟩
    have q6 := tP_of h1.2 h2.2 (by simpa using h3) σ H1 _ q5
    refine tPs_mono q6 ?_
    rintro ps H3 ⟨us, rfl, q7⟩
    exact ⟨v :: us, rfl, q7⟩
theorem merge_nd : ∀ (kvs acc : List (Key × V)), (∀ kv ∈ kvs, ∀ a ∈ acc, a.1 ≠ kv.1) → (kvs.map (·.1)).Nodup → mergeK acc kvs = acc ++ kvs
  | [], acc, _, _ => by simp [mergeK]
  | kv :: kvs, acc, h1, h2 => by
    have hp : putK acc kv.1 kv.2 = acc ++ [kv] := by
      unfold putK
      rw [if_neg]
      intro z
      rw [List.any_eq_true] at z
      obtain ⟨a, ha, hb⟩ := z
      exact h1 kv List.mem_cons_self a ha (of_decide_eq_true hb)
    have h3 := List.nodup_cons.mp (by simpa using h2 : ((kv.1 :: kvs.map (·.1)) : List Key).Nodup)
    show mergeK (putK acc kv.1 kv.2) kvs = _
    rw [hp, merge_nd kvs (acc ++ [kv]) ?_ h3.2, List.append_assoc]
    · rfl
    · intro kv' hk a ha
      rcases List.mem_append.mp ha with ha | ha
      · exact h1 kv' (List.mem_cons_of_mem _ hk) a ha
      · rw [List.mem_singleton.mp ha]
        intro z
        exact h3.1 (List.mem_map.mpr ⟨kv', hk, z.symm⟩)
theorem krel_zip {φ : List Addr} {H : Hp} : ∀ {ks : List Str} {xs : List X} {us : List V}, Reps W φ H xs us → xs.length = ks.length → KRel W φ H ((ks.map X.str).zip xs) ((ks.map (Sum.inr : Str → Key)).zip us)
  | [], [], us, r, _ => by cases r; exact rfl
  | [], _ :: _, _, _, h => by simp at h
  | _ :: _, [], _, _, h => by simp at h
  | k :: ks, x :: xs, us, r, h => by
    obtain ⟨v, s, rfl, r1, r2⟩ := r
    exact ⟨_, _, _, rfl, rfl, r1, krel_zip r2 (by simpa using h)⟩
theorem pe_dctX (ok : Okc W N k cl C) {ks : List Str} {vs : Es} (h : chE W.T N (.dct ks vs) sc x = true) (ih : AllE (GoodE W N cl C sc) vs) : PE C x (tE W (evE W.P cl (.dct ks vs))) := by
  cases x <;> first | (exact absurd h Bool.false_ne_true) | skip
  rename_i ys xs p
  have h : (keysB ks ys && chEs W.T N vs sc xs && !ks.isEmpty && decide (ks.length ≤ 15) && decide (ys.length = xs.length)) = true := h
  simp only [Bool.and_eq_true, decide_eq_true_eq] at h
  obtain ⟨⟨⟨⟨h1, h2⟩, h3⟩, h4⟩, h5⟩ := h
  obtain ⟨g1, g2, g3⟩ := pps_X (C := C) (cl := cl) (pos := p) h1 h2 h5 ih
  have ne : ys ≠ [] := by
    rintro rfl
    cases ks with
    | nil => exact absurd h3 Bool.false_ne_true
    | cons _ _ => simp at g3
  refine PE.imp (pe_disp g1 g2 h5 ne (by omega)) fun σ H Q q => ?_
  obtain ⟨φ, e, h, z, h', E, R, q, aq⟩ := q
  obtain ⟨ws, h1', q1, q2⟩ := bnd_eq q
  split at q2
  · rename_i hc
    simp only [Bool.and_eq_true, decide_eq_true_eq] at hc
    obtain ⟨⟨c1, c2⟩, c3⟩ := hc
    cases q2
    intro p hp
    have R1 : Rel W (φ ++ [p]) (h ++ [.dct []]) (upd H p (.dK [])) := R.place hp ⟨[], rfl, rfl⟩
    have x1 : Ext φ (φ ++ [p]) H (upd H p (.dK [])) := .place hp
    refine tPs_mono (tP_of h1 h2 h5 σ _ (fun us H2 => us.length = ks.length ∧ H2 p = some (.dK []) ∧ Q (.ref p) (upd H2 p (.dK ((ks.map (Sum.inr : Str → Key)).zip us)))) ?_) ?_
    · refine ⟨φ ++ [p], e, h ++ [.dct []], ws, h1', E.ext x1, R1, q1, fun φ2 H2 us x2 R2 r2 => ?_⟩
      obtain ⟨a, a1, ks', a2, a3⟩ := R2.at_ _ _ c3
      have a4 : (φ ++ [p])[h.length]? = some p := by
        rw [← R.len, List.getElem?_append_right (Nat.le_refl _)]
        simp
      have a5 := x2.get a4
      rw [a1] at a5
      cases a5
      cases a3
      refine ⟨by rw [← r2.length, c1], a2, ?_⟩
      have mp : p ∈ φ2 := List.mem_of_getElem? a1
      exact aq φ2 _ _ ((x1.trans x2).trans (.write mp)) (R2.write a1 ⟨_, rfl, krel_zip (r2.ext (.write mp)) c1⟩) ⟨p, rfl, a1⟩
    · rintro ps H3 ⟨us, rfl, b1, b2, b3⟩
      refine ⟨b2, (ks.map (Sum.inr : Str → Key)).zip us, ?_, ?_, ?_⟩
      · have : ∀ (ks : List Str) (us : List V), (ks.map V.str).zip us = (((ks.map (Sum.inr : Str → Key)).zip us).map fun kv => (kV kv.1, kv.2)) := by
          intro ks
          induction ks with
          | nil => intro us; rfl
          | cons k ks ih =>
            intro us
            cases us with
            | nil => rfl
            | cons u us => simp [ih us, kV]
        exact this ks us
      · rw [List.length_zip, List.length_map]
        omega
      · rw [merge_nd]
        · exact b3
        · intro _ _ a ha
          cases ha
        · have : (((ks.map (Sum.inr : Str → Key)).zip us).map (·.1)) = ks.map Sum.inr := by
            rw [List.map_fst_zip]
            rw [List.length_map]
            omega
          rw [this]
          exact c2.map _ fun a b hab z => hab (by simpa using z)
  · cases q2
end
end HP

set_option Elab.async false
set_option linter.all false
set_option maxRecDepth 10000
set_option maxHeartbeats 4000000
/-! The evaluator, part S: a tuple times one. -/
namespace HP
open PySem PySem.Spec PyProof.Rows L2
theorem tuple_one (l : Addr) (its : Array Value) (n : Nat) (dd : Option Addr) (sl : Array (Option Value)) (u : Tok) :
    Meets (Builtin.«tuple.__mul__» ⟨[.ref l, .int 1 u], []⟩) (fun _ R s => s.heap.get? l = some { cls := .type "tuple", dict := dd, data := .seq its n, slots := sl } ∧ R (.ok (.ret (.ref l))) s) := by
  refine .of_wp fun prog w A R s hh => ?_
  obtain ⟨hp, g, d, tk, os⟩ := s
  obtain ⟨at_, hh⟩ := hh
  have idx := AutoSeq1.idx_int
  have one : (its.isEmpty || (1 : Int) == 1) = true := by simp
  wp_walk using wpAny_loadPart' at_
  exact ⟨_, rfl, hh⟩
theorem op_one {C : Cx} : OpR C (binaryOp .Mult) (fun x y H Q => ∃ l xs, x = .ref l ∧ y = .int 1 ∧ SqT C.K H l xs ∧ Q (.ref l) H) := by
  intro pins s σ H x y v u Q I rx ry hh
  obtain ⟨l, xs, e1, e2, sq, q⟩ := hh
  subst e1 e2
  cases rx
  obtain ⟨t, rfl⟩ := ry
  obtain ⟨its, _, ⟨o, ho, hc, n, hd⟩, _⟩ := I.tuple sq
  obtain ⟨oc, dd, dt, sl⟩ := o
  have hc : oc = .type "tuple" := hc
  have hd : dt = .seq its.toArray n := hd
  subst hc hd
  have ty : s.TypeIs (.ref l) "tuple" := ⟨_, ho, rfl⟩
  have fin := call_meets (A := C.A) (E := C.xe) (prog := C.prog) (w := C.w) (Q := EP C pins σ Q) PySem.F.slot_tuple_mul ty PySem.F.entry_tuple_mul (PySem.F.args_tuple_mul_2 _ _) (tuple_one l its.toArray n dd sl t) ⟨ho, ⟨.ref l, H, I, rfl, q⟩⟩
  exact wpAny_binaryOp_repeat_ref (T := "tuple") (U := "int") (by decide) ty (fun s' => typeIs_int s' 1 t) noFill_tuple_mul PySem.F.fills_int_mul PySem.F.slot_int_rmul repeat_tuple PySem.F.slot_int_index.lookup
    (call_meets PySem.F.slot_int_rmul (typeIs_int s 1 t) PySem.F.entry_int_rmul (PySem.F.args_int_rmul_2 _ _) (int_rmul_tuple 1 t l its.toArray n dd sl) ⟨ho, rfl, ty, fin⟩)
end HP

set_option Elab.async false
set_option linter.all false
set_option maxRecDepth 10000
set_option maxHeartbeats 1000000
/-! The evaluator, part T: what is walked. -/
namespace HP
open PySem PySem.Spec PyProof.Rows L2
abbrev NewZ (W : Wd) (H : Hp) (Z : List Addr) : Prop := ∀ z ∈ Z, z ∈ W.Z ∨ H z = none
section
variable {W : Wd} {φ : List Addr} {H : Hp} {Z : List Addr}
theorem Off.z {a : Addr} {o : HO} (n : NewZ W H Z) (h : Off W φ a) (e : H a = some o) : Off (W.z Z) φ a := ⟨h.1, fun q => (n a q).elim h.2 fun z => by rw [z] at e; cases e⟩
theorem Off.zr {a : Addr} {o : HO} (n : NewZ W H Z) (h : Off W φ a) (e : Rd H a o) : Off (W.z Z) φ a := e.elim (fun e => h.z n e) fun ⟨_, e⟩ => h.z n e
mutual
theorem Rep.z (n : NewZ W H Z) : ∀ {x : X} {v : V}, Rep W φ H x v → Rep (W.z Z) φ H x v
  | .non, _, h => h
  | .bl _, _, h => h
  | .int _, _, h => h
  | .str _, _, h => h
  | .fn _, _, h => h
  | .tup xs, v, h => by
    obtain ⟨a, vs, e1, h1, h2⟩ := h
    exact ⟨a, vs, e1, h1.imp (fun q => ⟨q.1.zr n q.2, q.2⟩) id, Reps.z n h2⟩
  | .lst xs, v, h => by
    obtain ⟨a, vs, e1, h1, h2⟩ := h
    exact ⟨a, vs, e1, ⟨h1.1.z n h1.2, h1.2⟩, Reps.z n h2⟩
  | .scr xs, v, h => by
    obtain ⟨a, vs, e1, h1, h2⟩ := h
    exact ⟨a, vs, e1, h1.imp (fun q => ⟨q.1.zr n q.2, q.2⟩) id, Reps.z n h2⟩
  | .ins c xs, v, h => by
    obtain ⟨a, vs, e1, ⟨h0, dx, fs, d, k, r⟩, h2⟩ := h
    exact ⟨a, vs, e1, ⟨h0.z n k, dx, fs, d, k, r⟩, Reps.z n h2⟩
  | .ob l, v, h => h
  | .lam f, v, h => by
    obtain ⟨a, e1, c, q, h1, h2⟩ := h
    exact ⟨a, e1, c, q, ⟨h1.1.z n h1.2, h1.2⟩, h2.1.z n h2.2, h2.2⟩
theorem Reps.z (n : NewZ W H Z) : ∀ {xs : List X} {vs : List V}, Reps W φ H xs vs → Reps (W.z Z) φ H xs vs
  | [], _, h => h
  | x :: xs, vs, h => by
    obtain ⟨v, r, e1, h1, h2⟩ := h
    exact ⟨v, r, e1, Rep.z n h1, Reps.z n h2⟩
end
end
/-- J walks xs, as long as the lists under it stay -/
def Walks (W : Wd) (J : L2.It) (xs : List X) (g : Grd) (φ : List Addr) (H : Hp) : Prop := ∀ Z φ' H' h', Ext φ φ' H H' → NewZ W H Z → Rel (W.z Z) φ' h' H' → grdOk g h' = true →
  (∀ i x, xs[i]? = some x → J.go i H' ∧ ∀ v H'', J.yld i H' v H'' → Ext φ' φ' H' H'' ∧ Rel (W.z Z) φ' h' H'' ∧ Rep (W.z Z) φ' H'' x v) ∧ ∀ i, xs.length ≤ i → J.stop i H'
def SeqsL (W : Wd) (a : Addr) (xs : List X) (g : Grd) (φ : List Addr) (H : Hp) : Prop := ∀ Z φ' H' h', Ext φ φ' H H' → NewZ W H Z → Rel (W.z Z) φ' h' H' → grdOk g h' = true → ∃ vs, SqL W.K H' a vs ∧ Reps (W.z Z) φ' H' xs vs
def SeqsT (W : Wd) (a : Addr) (xs : List X) (φ : List Addr) (H : Hp) : Prop := ∀ Z φ' H', Ext φ φ' H H' → NewZ W H Z → ∃ vs, SqT W.K H' a vs ∧ Reps (W.z Z) φ' H' xs vs
section
variable {W : Wd} {φ φ' : List Addr} {H H' : Hp} {xs ys : List X} {g g' : Grd} {a b : Addr} {h : Hq}
theorem Reps.get' {vs : List V} {i : Nat} {v : V} {x : X} (r : Reps W φ H xs vs) (hv : vs[i]? = some v) (hx : xs[i]? = some x) : Rep W φ H x v := by
  obtain ⟨w, h1, h2⟩ := r.get hx
  rw [hv] at h1
  cases h1
  exact h2
theorem walk_l (hs : SeqsL W a xs g φ H) : Walks W (Itl W.K a) xs g φ H := by
  intro Z φ' H' h' x n R hg
  obtain ⟨vs, q, r⟩ := hs Z φ' H' h' x n R hg
  refine ⟨fun i y hy => ?_, fun i hi => ⟨vs, q, by rw [← r.length]; exact hi⟩⟩
  obtain ⟨v, h1, h2⟩ := r.get hy
  refine ⟨⟨vs, v, q, h1⟩, ?_⟩
  rintro w H'' ⟨rfl, hw⟩
  exact ⟨.refl, R, r.get' (hw vs q) hy⟩
theorem walk_t (hs : SeqsT W a xs φ H) : Walks W (Itt W.K a) xs g φ H := by
  intro Z φ' H' h' x n R hg
  obtain ⟨vs, q, r⟩ := hs Z φ' H' x n
  refine ⟨fun i y hy => ?_, fun i hi => ⟨vs, q, by rw [← r.length]; exact hi⟩⟩
  obtain ⟨v, h1, h2⟩ := r.get hy
  refine ⟨⟨vs, v, q, h1⟩, ?_⟩
  rintro w H'' ⟨rfl, hw⟩
  exact ⟨.refl, R, r.get' (hw vs q) hy⟩
theorem walk_s {z : Str} : Walks W (Its z) (z.cps.toList.map fun c => .str ⟨#[c]⟩) [] φ H := by
  intro Z φ' H' h' x n R hg
  refine ⟨fun i y hy => ?_, fun i hi => by simpa [Its] using hi⟩
  rw [List.getElem?_map, Option.map_eq_some_iff] at hy
  obtain ⟨c, h1, rfl⟩ := hy
  refine ⟨?_, ?_⟩
  · have := (List.getElem?_eq_some_iff.mp h1).1
    simpa [Its] using this
  · rintro w H'' ⟨rfl, c', h2, rfl⟩
    have e : c' = c := by
      have h3 : z.cps.toList[i]? = some c' := by rw [Array.getElem?_toList]; exact h2
      rw [h1] at h3
      cases h3
      rfl
    subst e
    exact ⟨.refl, R, rep_str⟩
theorem walk_r {lo : Int} {n : Nat} : Walks W (Itr lo n) ((List.range n).map fun (k : Nat) => .int (lo + k)) [] φ H := by
  intro Z φ' H' h' x nz R hg
  refine ⟨fun i y hy => ?_, fun i hi => by simpa [Itr] using hi⟩
  rw [List.getElem?_map, Option.map_eq_some_iff] at hy
  obtain ⟨c, h1, rfl⟩ := hy
  obtain ⟨h2, h3⟩ := List.getElem?_eq_some_iff.mp h1
  have e : c = i := by simpa using h3.symm
  subst e
  refine ⟨by simpa [Itr] using h2, ?_⟩
  rintro w H'' ⟨rfl, rfl⟩
  exact ⟨.refl, R, rep_int⟩
theorem grd_append {g g' : Grd} {h : Hq} : grdOk (g ++ g') h = true ↔ grdOk g h = true ∧ grdOk g' h = true := by
  unfold grdOk
  rw [List.all_append, Bool.and_eq_true]
theorem pairs_get {i : Nat} {p : X} (e : (pairs xs ys)[i]? = some p) : ∃ x y, xs[i]? = some x ∧ ys[i]? = some y ∧ p = .tup [x, y] := by
  unfold pairs at e
  rw [List.getElem?_zipWith] at e
  cases h1 : xs[i]? with
  | none => rw [h1] at e; cases e
  | some x =>
    cases h2 : ys[i]? with
    | none => rw [h1, h2] at e; cases e
    | some y =>
      rw [h1, h2] at e
      cases e
      exact ⟨x, y, rfl, rfl, rfl⟩
theorem pairs_len : (pairs xs ys).length = min xs.length ys.length := List.length_zipWith ..
theorem yld_pair {x y : X} {v u : V} {T : Addr} {h : Hq} (R : Rel W φ h H) (hT : H T = none) (r1 : Rep W φ H x v) (r2 : Rep W φ H y u) : Ext φ φ H (upd H T (.tup [v, u])) ∧ Rel W φ h (upd H T (.tup [v, u])) ∧ Rep W φ (upd H T (.tup [v, u])) (.tup [x, y]) (.ref T) :=
  ⟨.fresh hT, R.fresh hT, T, _, rfl, .inl ⟨R.off hT, .inl upd_same⟩, _, _, rfl, r1.ext (.fresh hT), _, _, rfl, r2.ext (.fresh hT), rfl⟩
theorem walk_zl (hs : SeqsL W a xs g φ H) (hs' : SeqsL W b ys g' φ H) : Walks W (Itz W.K a b) (pairs xs ys) (g ++ g') φ H := by
  intro Z φ' H' h' x n R hg
  obtain ⟨g1, g2⟩ := grd_append.mp hg
  obtain ⟨vs, q, r⟩ := hs Z φ' H' h' x n R g1
  obtain ⟨us, q', r'⟩ := hs' Z φ' H' h' x n R g2
  refine ⟨fun i y hy => ?_, fun i hi => ⟨vs, us, q, q', ?_⟩⟩
  · obtain ⟨x1, y1, e1, e2, rfl⟩ := pairs_get hy
    obtain ⟨v, h1, h2⟩ := r.get e1
    obtain ⟨u, h3, h4⟩ := r'.get e2
    refine ⟨⟨vs, us, v, u, q, q', h1, h3⟩, ?_⟩
    rintro w H'' ⟨T, x2, y2, rfl, hT, rfl, f1, f2⟩
    exact yld_pair R hT (r.get' (f1 vs q) e1) (r'.get' (f2 us q') e2)
  · rw [pairs_len, r.length, r'.length] at hi
    omega
theorem walk_zt (hs : SeqsT W a xs φ H) (hs' : SeqsT W b ys φ H) : Walks W (RZ.ItzT W.K a b) (pairs xs ys) g φ H := by
  intro Z φ' H' h' x n R hg
  obtain ⟨vs, q, r⟩ := hs Z φ' H' x n
  obtain ⟨us, q', r'⟩ := hs' Z φ' H' x n
  refine ⟨fun i y hy => ?_, fun i hi => ⟨vs, us, q, q', ?_⟩⟩
  · obtain ⟨x1, y1, e1, e2, rfl⟩ := pairs_get hy
    obtain ⟨v, h1, h2⟩ := r.get e1
    obtain ⟨u, h3, h4⟩ := r'.get e2
    refine ⟨⟨vs, us, v, u, q, q', h1, h3⟩, ?_⟩
    rintro w H'' ⟨T, x2, y2, rfl, hT, rfl, f1, f2⟩
    exact yld_pair R hT (r.get' (f1 vs q) e1) (r'.get' (f2 us q') e2)
  · rw [pairs_len, r.length, r'.length] at hi
    omega
theorem enm_get : ∀ {k i : Nat} {xs : List X} {p : X}, (enmX k xs)[i]? = some p → ∃ x, xs[i]? = some x ∧ p = .tup [.int ((k + i : Nat) : Int), x]
  | _, _, [], _, e => by simp [enmX] at e
  | k, 0, x :: xs, p, e => by
    simp [enmX] at e
    exact ⟨x, rfl, e.symm⟩
  | k, i + 1, x :: xs, p, e => by
    obtain ⟨y, h1, h2⟩ := enm_get (k := k + 1) (i := i) (xs := xs) (by simpa [enmX] using e)
    refine ⟨y, by simpa using h1, ?_⟩
    rw [h2]
    congr 4
    omega
theorem enm_len : ∀ {k : Nat} {xs : List X}, (enmX k xs).length = xs.length
  | _, [] => rfl
  | k, x :: xs => by simp [enmX, enm_len]
theorem walk_e (hs : SeqsL W a xs g φ H) : Walks W (Ite W.K a) (enmX 0 xs) g φ H := by
  intro Z φ' H' h' x n R hg
  obtain ⟨vs, q, r⟩ := hs Z φ' H' h' x n R hg
  refine ⟨fun i y hy => ?_, fun i hi => ⟨vs, q, by rw [← r.length, ← enm_len (k := 0)]; exact hi⟩⟩
  obtain ⟨x1, e1, rfl⟩ := enm_get hy
  obtain ⟨v, h1, h2⟩ := r.get e1
  refine ⟨⟨vs, v, q, h1⟩, ?_⟩
  rintro w H'' ⟨T, x2, rfl, hT, rfl, f1⟩
  rw [Nat.zero_add]
  exact yld_pair R hT rep_int (r.get' (f1 vs q) e1)
theorem seqs_l {x : X} {v : V} {xs : List X} (R : Rel W φ h H) (r : Rep W φ H x v) (e : lstS x h = some xs) : ∃ a vs, v = .ref a ∧ SeqsL W a xs (grdOf x xs) φ H ∧ SqL W.K H a vs := by
  unfold lstS at e
  split at e
  · cases e
    obtain ⟨a, vs, rfl, h1, h2⟩ := id r
    refine ⟨a, vs, rfl, fun Z φ' H' h' x n R' hg => ?_, .inl (.inl h1.2)⟩
    obtain ⟨a', vs', e, h1, h2⟩ := (r.z n).ext x
    cases e
    exact ⟨vs', .inl (.inl h1.2), h2⟩
  · cases e
    obtain ⟨a, vs, rfl, h1, h2⟩ := id r
    refine ⟨a, vs, rfl, fun Z φ' H' h' x n R' hg => ?_, h1.sq⟩
    obtain ⟨a', vs', e, h1, h2⟩ := (r.z n).ext x
    cases e
    exact ⟨vs', h1.sq, h2⟩
  · split at e
    · rename_i hl
      cases e
      obtain ⟨a, rfl, e2, vs, e3, q⟩ := R.ob r hl
      refine ⟨a, vs, rfl, fun Z φ' H' h' x n R' hg => ?_, .inl (.inl e3)⟩
      have hh := (List.all_eq_true.mp hg) _ List.mem_cons_self
      have hh := of_decide_eq_true hh
      obtain ⟨a', e', e2', vs', e3', q'⟩ := R'.ob ((r.z n).ext x) hh
      cases e'
      exact ⟨vs', .inl (.inl e3'), q'⟩
    · cases e
  · cases e
theorem seqs_t {v : V} {xs : List X} (r : Rep W φ H (.tup xs) v) : ∃ a vs, v = .ref a ∧ SeqsT W a xs φ H ∧ SqT W.K H a vs := by
  obtain ⟨a, vs, rfl, h1, h2⟩ := id r
  refine ⟨a, vs, rfl, fun Z φ' H' x n => ?_, h1.sq⟩
  obtain ⟨a', vs', e, h1, h2⟩ := (r.z n).ext x
  cases e
  exact ⟨vs', h1.sq, h2⟩
theorem grd_now {x : X} {xs : List X} (e : lstS x h = some xs) : grdOk (grdOf x xs) h = true := by
  unfold lstS at e
  split at e
  · rfl
  · rfl
  · split at e
    · rename_i hl
      cases e
      unfold grdOk grdOf
      simp [hl]
    · cases e
  · cases e
end
end HP

set_option Elab.async false
set_option linter.all false
set_option maxRecDepth 10000
set_option maxHeartbeats 1000000
/-! The evaluator, part U: what a loop walks. -/
namespace HP
open PySem PySem.Spec PyProof.Rows L2
def tI (W : Wd) (m : Env' → M (List X × Grd)) : TI := fun σ H R => ∃ φ e h p h', ERel W φ H e σ ∧ Rel W φ h H ∧ m e h = .ok p h' ∧ ∀ φ' H' J, Ext φ φ' H H' → Rel W φ' h' H' → Walks W J p.1 p.2 φ' H' → R J H'
section
variable {W : Wd} {N : List Str} {k : Nat} {cl : Cll} {C : Cx} {sc : Scope} {tg x : Expr}
theorem PI.imp {t t' : TI} (p : PI C tg x t) (k : ∀ σ H Q, t' σ H Q → t σ H Q) : PI C tg x t' := ⟨fun pins s σ H Q I q => p.run pins s σ H Q I (k σ H Q q)⟩
theorem PI.or {t t' : TI} (p : PI C tg x t) (p' : PI C tg x t') : PI C tg x (fun σ H Q => t σ H Q ∨ t' σ H Q) := ⟨fun pins s σ H Q I q => q.elim (p.run pins s σ H Q I) (p'.run pins s σ H Q I)⟩
theorem PI.no {t : TI} (p : ∀ σ H Q, t σ H Q → False) : PI C tg x t := ⟨fun pins s σ H Q I q => (p σ H Q q).elim⟩
theorem pi_seqX (ok : Okc W N k cl C) {a : E} (iha : GoodE W N cl C sc a) (h : chE W.T N a sc x = true) : PI C tg x (tI W (evIt W.P cl (.seq a))) := by
  refine PI.imp (PI.or (pi_list (iha x h)) (PI.or (pi_tup (iha x h)) (pi_str (iha x h)))) fun σ H Q q => ?_
  obtain ⟨φ, e, h, p, h', E, R, q, aq⟩ := q
  obtain ⟨w, h1, q1, q2⟩ := bnd_eq q
  split at q2
  · rename_i p' hp
    cases q2
    unfold itX at hp
    split at hp
    · split at hp
      · cases hp
        refine .inr (.inr ⟨φ, e, h, _, h', E, R, q1, fun φ' H' v x' R' r => ?_⟩)
        cases r
        exact ⟨_, rfl, aq φ' H' _ x' R' walk_s⟩
      · cases hp
    · rename_i nstr
      rw [Option.map_eq_some_iff] at hp
      obtain ⟨xs, hs, rfl⟩ := hp
      unfold seqX at hs
      have lst : lstS w h' = some xs → iList C.K (tE W (evE W.P cl a)) σ H Q := fun hl => by
        refine ⟨φ, e, h, w, h', E, R, q1, fun φ' H' v x' R' r => ?_⟩
        obtain ⟨a, vs, rfl, s1, s2⟩ := seqs_l R' r hl
        rw [ok.hK]
        exact ⟨a, rfl, ⟨vs, s2⟩, aq φ' H' _ x' R' (walk_l s1)⟩
      split at hs
      · cases hs
        refine .inr (.inl ⟨φ, e, h, _, h', E, R, q1, fun φ' H' v x' R' r => ?_⟩)
        obtain ⟨a, vs, rfl, s1, s2⟩ := seqs_t r
        rw [ok.hK]
        exact ⟨a, rfl, ⟨vs, s2⟩, aq φ' H' _ x' R' (walk_t s1)⟩
      · exact .inl (lst hs)
      · exact .inl (lst hs)
      · rename_i l
        exact .inl (lst hs)
      · cases hs
  · cases q2
theorem chEs_len : ∀ {es : Es} {xs : List Expr} {e : Env'} {h h1 : Hq} {ws : List X}, chEs W.T N es sc xs = true → evEs W.P cl es e h = .ok ws h1 → xs.length = ws.length
  | .nil, [], _, _, _, _, _, q => by cases q; rfl
  | .nil, _ :: _, _, _, _, _, h, _ => absurd h Bool.false_ne_true
  | .cons _ _, [], _, _, _, _, h, _ => absurd h Bool.false_ne_true
  | .cons a es, x :: xs, _, _, _, _, h, q => by
    have h : (chE W.T N a sc x && plainB x && chEs W.T N es sc xs) = true := h
    simp only [Bool.and_eq_true] at h
    obtain ⟨w, h1, q1, q2⟩ := bnd_eq q
    obtain ⟨ws, h2, q3, q4⟩ := bnd_eq q2
    cases q4
    rw [List.length_cons, List.length_cons, chEs_len h.2 q3]
theorem tL_mono {m : Env' → M (List X)} {σ : SlotL} {H : Hp} {Q Q' : List V → Hp → Prop} (q : tL W m σ H Q) (hk : ∀ v H, Q v H → Q' v H) : tL W m σ H Q' := by
  obtain ⟨φ, e, h, x, h', E, R, q1, a⟩ := q
  exact ⟨φ, e, h, x, h', E, R, q1, fun φ' H' v x' R' r => hk _ _ (a φ' H' v x' R' r)⟩
theorem star_pair {x y : Expr} {env : Env} (h1 : plainB x = true) (h2 : plainB y = true) : starEach [x, y] env = [(false, eval x env), (false, eval y env)] := by rw [star_plain h1, star_plain h2]; rfl
theorem pi_rngX (ok : Okc W N k cl C) (hsc : C.env.scope = sc) {es : Es} {xs : List Expr} {n : Str} {p pos : Pos} (hn : isGlo sc "range" n = true) (he : chEs W.T N es sc xs = true) (ihs : ∀ xs, chEs W.T N es sc xs = true → PA C xs (tL W (evEs W.P cl es))) :
    PI C tg (.Call (.Name n p) xs [] pos) (tI W (evIt W.P cl (.rng es))) := by
  obtain ⟨e1, e2, e3, e4⟩ := isGlo_of hn hsc
  subst e1
  have hm : C.mg "range" = none := ok.facts.free _ (by decide +kernel)
  have hp := chEs_all he
  have pa := ihs xs he
  have go : ∀ σ H Q, tI W (evIt W.P cl (.rng es)) σ H Q → ∃ ws, ∃ a b : Int, (ws = [.int b] ∧ a = 0 ∨ ws = [.int a, .int b]) ∧ -(2 ^ 62) ≤ a ∧ a < 2 ^ 62 ∧ -(2 ^ 62) ≤ b ∧ b < 2 ^ 62 ∧ (∃ e h h1, evEs W.P cl es e h = .ok ws h1) ∧
      tL W (evEs W.P cl es) σ H fun vs H1 => vs = ws.map (fun x => match x with | .int i => V.int i | _ => V.non) ∧ Q (Itr a (b - a).toNat) H1 := fun σ H Q q => by
    obtain ⟨φ, e, h, p, h', E, R, q, aq⟩ := q
    obtain ⟨ws, h1, q1, q2⟩ := bnd_eq q
    split at q2
    · rename_i ys hy
      obtain ⟨a, b, f1, f2, f3, f4, f5, rfl⟩ := rng_ab hy
      cases q2
      refine ⟨ws, a, b, f1, f2, f3, f4, f5, ⟨e, h, h', q1⟩, φ, e, h, ws, h', E, R, q1, fun φ' H' vs x' R' r => ⟨?_, aq φ' H' _ x' R' walk_r⟩⟩
      rcases f1 with ⟨rfl, rfl⟩ | rfl
      · obtain ⟨v, rfl, r1⟩ := reps1 r
        cases r1
        rfl
      · obtain ⟨v, u, rfl, r1, r2⟩ := reps2 r
        cases r1
        cases r2
        rfl
    · cases q2
  rcases xs with _ | ⟨y, _ | ⟨z, _ | ⟨t, r⟩⟩⟩
  · refine PI.no fun σ H Q q => ?_
    obtain ⟨ws, a, b, f1, _, _, _, _, ⟨e, h, h1, q1⟩, _⟩ := go σ H Q q
    have := chEs_len he q1
    rcases f1 with ⟨rfl, _⟩ | rfl <;> simp at this
  · refine PI.imp (pi_range1 e2 hm pa (star_plain (all_tail hp).1)) fun σ H Q q => ?_
    obtain ⟨ws, a, b, f1, f2, f3, f4, f5, ⟨e, h, h1, q1⟩, q2⟩ := go σ H Q q
    have hl := chEs_len he q1
    rcases f1 with ⟨rfl, rfl⟩ | rfl
    · refine tL_mono q2 ?_
      rintro vs H1 ⟨rfl, q⟩
      rw [Int.sub_zero] at q
      exact ⟨b, rfl, f4, f5, q⟩
    · simp at hl
  · refine PI.imp (pi_range2 e2 hm pa (star_pair (all_tail hp).1 (all_tail (all_tail hp).2).1) (star_plain (all_tail (all_tail hp).2).1)) fun σ H Q q => ?_
    obtain ⟨ws, a, b, f1, f2, f3, f4, f5, ⟨e, h, h1, q1⟩, q2⟩ := go σ H Q q
    have hl := chEs_len he q1
    rcases f1 with ⟨rfl, rfl⟩ | rfl
    · simp at hl
    · refine tL_mono q2 ?_
      rintro vs H1 ⟨rfl, q⟩
      exact ⟨a, b, rfl, ⟨f2, f3, f4, f5⟩, q⟩
  · refine PI.no fun σ H Q q => ?_
    obtain ⟨ws, a, b, f1, _, _, _, _, ⟨e, h, h1, q1⟩, _⟩ := go σ H Q q
    have := chEs_len he q1
    rcases f1 with ⟨rfl, _⟩ | rfl <;> simp at this
theorem pi_zipX (ok : Okc W N k cl C) (hsc : C.env.scope = sc) {es : Es} {elts xs : List Expr} {kk : Nat} {n : Str} {p pos tpos : Pos} (hn : isGlo sc "zip" n = true) (he : chEs W.T N es sc xs = true) (ihs : ∀ xs, chEs W.T N es sc xs = true → PA C xs (tL W (evEs W.P cl es))) :
    PI C (.Tuple elts kk tpos) (.Call (.Name n p) xs [] pos) (tI W (evIt W.P cl (.zip es))) := by
  obtain ⟨e1, e2, e3, e4⟩ := isGlo_of hn hsc
  subst e1
  have hm : C.mg "zip" = none := ok.facts.free _ (by decide +kernel)
  have hp := chEs_all he
  have pa := ihs xs he
  have no : ∀ {ws : List X} {h : Hq} {p}, ws.length ≠ 2 → zipI ws h = some p → False := fun {ws h p} hl e => by
    unfold zipI at e
    split at e
    · exact hl rfl
    · exact hl rfl
    · cases e
  have len2 : ∀ σ H Q, tI W (evIt W.P cl (.zip es)) σ H Q → xs.length ≠ 2 → False := fun σ H Q q hl => by
    obtain ⟨φ, e, h, p, h', E, R, q, aq⟩ := q
    obtain ⟨ws, h1, q1, q2⟩ := bnd_eq q
    split at q2
    · rename_i p' hz
      exact no (by rw [← chEs_len he q1]; exact hl) hz
    · cases q2
  rcases xs with _ | ⟨y, _ | ⟨z, _ | ⟨t, r⟩⟩⟩
  · exact PI.no fun σ H Q q => len2 σ H Q q (by simp)
  · exact PI.no fun σ H Q q => len2 σ H Q q (by simp)
  · refine PI.imp (RZ.pi_zipA e2 hm pa (star_plain (all_tail hp).1) (any_plain pos (all_tail hp).2)) fun σ H Q q => ?_
    obtain ⟨φ, e, h, p, h', E, R, q, aq⟩ := q
    obtain ⟨ws, h1, q1, q2⟩ := bnd_eq q
    split at q2
    · rename_i p' hz
      cases q2
      refine ⟨φ, e, h, ws, h', E, R, q1, fun φ' H' vs x' R' r => ?_⟩
      rw [ok.hK]
      unfold zipI at hz
      split at hz
      · rename_i xa xb
        cases hz
        obtain ⟨v, u, rfl, r1, r2⟩ := reps2 r
        obtain ⟨a, va, rfl, s1, s2⟩ := seqs_t r1
        obtain ⟨b, vb, rfl, t1, t2⟩ := seqs_t r2
        exact ⟨a, b, va, vb, rfl, .inr ⟨s2, t2, aq φ' H' _ x' R' (walk_zt s1 t1)⟩⟩
      · split at hz
        · rename_i xa xb e5 e6
          cases hz
          obtain ⟨v, u, rfl, r1, r2⟩ := reps2 r
          obtain ⟨a, va, rfl, s1, s2⟩ := seqs_l R' r1 e5
          obtain ⟨b, vb, rfl, t1, t2⟩ := seqs_l R' r2 e6
          exact ⟨a, b, va, vb, rfl, .inl ⟨s2, t2, aq φ' H' _ x' R' (walk_zl s1 t1)⟩⟩
        · cases hz
      · cases hz
    · cases q2
  · exact PI.no fun σ H Q q => len2 σ H Q q (by simp)
theorem pi_enmX (ok : Okc W N k cl C) (hsc : C.env.scope = sc) {a : E} {elts : List Expr} {kk : Nat} {n : Str} {p pos tpos : Pos} {y : Expr} (hn : isGlo sc "enumerate" n = true) (iha : GoodE W N cl C sc a) (h : chE W.T N a sc y = true) (hy : plainB y = true) :
    PI C (.Tuple elts kk tpos) (.Call (.Name n p) [y] [] pos) (tI W (evIt W.P cl (.enm a))) := by
  obtain ⟨e1, e2, e3, e4⟩ := isGlo_of hn hsc
  subst e1
  have hm : C.mg "enumerate" = none := ok.facts.free _ (by decide +kernel)
  refine PI.imp (pi_enum e2 hm (pa_cons (iha y h) pa_nil (star_plain hy)) (star_plain hy)) fun σ H Q q => ?_
  obtain ⟨φ, e, h, p, h', E, R, q, aq⟩ := q
  obtain ⟨w, h1, q1, q2⟩ := bnd_eq q
  split at q2
  · rename_i p' hz
    cases q2
    refine ⟨φ, e, h, w, h', E, R, q1, fun φ' H' v x' R' r => ?_⟩
    rw [ok.hK]
    unfold enmI at hz
    rw [Option.map_eq_some_iff] at hz
    obtain ⟨xs, hs, rfl⟩ := hz
    obtain ⟨a, va, rfl, s1, s2⟩ := seqs_l R' r hs
    exact ⟨a, va, rfl, s2, aq φ' H' _ x' R' (walk_e s1)⟩
  · cases q2
end
end HP

set_option Elab.async false
set_option linter.all false
set_option maxRecDepth 10000
set_option maxHeartbeats 1000000
/-! The evaluator, part V: targets. -/
namespace HP
open PySem PySem.Spec PyProof.Rows L2
/-- all other names stay -/
def Keeps (sl : List Nat) (σ σ' : SlotL) : Prop := σ'.length = σ.length ∧ ∀ j, j ∉ sl → σ'[j]? = σ[j]?
theorem Keeps.refl {sl : List Nat} {σ : SlotL} : Keeps sl σ σ := ⟨rfl, fun _ _ => rfl⟩
def tG (W : Wd) (sl : List Nat) (m : X → Env' → M Env') : TG := fun v σ H Q => ∃ φ e h x e' h', ERel W φ H e σ ∧ Rel W φ h H ∧ Rep W φ H x v ∧ m x e h = .ok e' h' ∧ ∀ φ' H' σ', Ext φ φ' H H' → Rel W φ' h' H' → ERel W φ' H' e' σ' → Keeps sl σ σ' → Q σ' H'
def tGs (W : Wd) (sl : List Nat) (m : List X → Env' → M Env') : TGs := fun vs σ H Q => ∃ φ e h xs e' h', ERel W φ H e σ ∧ Rel W φ h H ∧ Reps W φ H xs vs ∧ m xs e h = .ok e' h' ∧ ∀ φ' H' σ', Ext φ φ' H H' → Rel W φ' h' H' → ERel W φ' H' e' σ' → Keeps sl σ σ' → Q σ' H'
section
variable {W : Wd} {N : List Str} {k : Nat} {cl : Cll} {C : Cx} {sc os : Scope} {tg x : Expr}
theorem PG.imp {t t' : TG} (p : PG C tg t) (k : ∀ v σ H Q, t' v σ H Q → t v σ H Q) : PG C tg t' := ⟨fun pins s σ H v u Q I r q => p.run pins s σ H v u Q I r (k v σ H Q q)⟩
theorem PG.or {t t' : TG} (p : PG C tg t) (p' : PG C tg t') : PG C tg (fun v σ H Q => t v σ H Q ∨ t' v σ H Q) := ⟨fun pins s σ H v u Q I r q => q.elim (p.run pins s σ H v u Q I r) (p'.run pins s σ H v u Q I r)⟩
theorem PGs.imp {tgs : List Expr} {t t' : TGs} (p : PGs C tgs t) (k : ∀ v σ H Q, t' v σ H Q → t v σ H Q) : PGs C tgs t' := ⟨fun pins s σ H v u Q I r q => p.run pins s σ H v u Q I r (k v σ H Q q)⟩
theorem each_plain {t : Expr} {ts : List Expr} {env : Env} (h : plainB t = true) : assignEach (t :: ts) env = (false, assign t env) :: assignEach ts env := by
  cases t <;> first | rfl | cases h
theorem each_len {env : Env} : ∀ {ts : List Expr}, ts.all plainB = true → (assignEach ts env).length = ts.length ∧ (assignEach ts env).findIdx? (·.1) = none
  | [], _ => ⟨rfl, rfl⟩
  | t :: ts, h => by
    obtain ⟨h1, h2⟩ := all_tail h
    obtain ⟨g1, g2⟩ := each_len (env := env) h2
    rw [each_plain h1]
    refine ⟨by rw [List.length_cons, g1, List.length_cons], ?_⟩
    rw [List.findIdx?_cons, g2]
    rfl
theorem chTgs_all {ts : Tgs} {xs : List Expr} (h : chTgs W.T N ts os sc xs = true) : xs.all plainB = true ∧ ts.len = xs.length := by
  induction xs generalizing ts with
  | nil =>
    cases ts with
    | nil => exact ⟨rfl, rfl⟩
    | cons _ _ => exact absurd h Bool.false_ne_true
  | cons y ys ih =>
    cases ts with
    | nil => exact absurd h Bool.false_ne_true
    | cons t ts =>
      have h : (chTg W.T N t os sc y && plainB y && chTgs W.T N ts os sc ys) = true := h
      simp only [Bool.and_eq_true] at h
      obtain ⟨g1, g2⟩ := ih h.2
      exact ⟨by rw [List.all_cons, h.1.2, g1]; rfl, by rw [Tgs.len, g2, List.length_cons]⟩
theorem pg_nmX (ok : Okc W N k cl C) (hsc : C.env.scope = sc) (hfn : ∀ x, isCel os x = true → C.fn x = true) {i : Nat} (h : chTg W.T N (.nm i) os sc x = true) : PG C x (tG W (Tg.slots (.nm i)) (evTg W.P cl (.nm i))) := by
  cases x <;> first | (exact absurd h Bool.false_ne_true) | skip
  rename_i y p
  have h : (nmAt N i y && locB sc y && (isLoc sc y || isCel os y)) = true := h
  simp only [Bool.and_eq_true, Bool.or_eq_true] at h
  obtain ⟨⟨h1, h2⟩, h3⟩ := h
  have hf : C.fn y = true ∨ C.env.scope.names.lookup y = some .local := by
    rcases h3 with h3 | h3
    · right
      rw [hsc]
      unfold isLoc at h3
      split at h3
      · assumption
      · cases h3
    · exact .inl (hfn y h3)
  refine PG.imp (pg_name (by rw [ok.hN]; exact ok.nd) (by rw [ok.hN]; exact nmAt_of h1) (by rw [hsc]; exact loc_of h2) hf) fun v σ H Q q => ?_
  obtain ⟨φ, e, h, x, e', h', E, R, r, q1, aq⟩ := q
  cases q1
  refine aq φ H _ .refl R (E.set r) ⟨by simp, fun j hj => ?_⟩
  have hj : j ≠ i := fun z => hj (by rw [z]; exact List.mem_cons_self)
  rw [List.getElem?_set_ne (Ne.symm hj)]
/-! ### a place of a list, of a dict -/
def vSet (W : Wd) : TSet := fun o i v H Q => ∃ φ h a k x h', Rep W φ H a o ∧ Rep W φ H k i ∧ Rep W φ H x v ∧ Rel W φ h H ∧ setM a k x h = some h' ∧ ∀ φ' H', Ext φ φ' H H' → Rel W φ' h' H' → Q H'
theorem set_X (hu : C.A.units + 1 < cLine) : PSet C (vSet W) := by
  intro pins s σ H o i v ov iv u Q I ro ri rv q
  obtain ⟨φ, h, a, k, x, h', r1, r2, r3, R, e, aq⟩ := q
  unfold setM at e
  split at e
  · rename_i l
    split at e
    · rename_i xs hl
      split at e
      · rename_i j
        rw [Option.map_eq_some_iff] at e
        obtain ⟨n, hn, rfl⟩ := e
        obtain ⟨p, rfl, e2, vs, e3, q⟩ := R.ob r1 hl
        cases r2
        have mp : p ∈ φ := List.mem_of_getElem? e2
        refine set_list pins s σ H _ _ v ov iv u Q I ro ri rv ⟨p, vs, j, n, rfl, rfl, e3, by rw [← q.length]; exact hn, ?_⟩
        exact aq φ _ (.write mp) (R.write e2 ⟨_, rfl, (q.ext (.write mp)).set (r3.ext (.write mp)) n⟩)
      · cases e
    · rename_i kvs hl
      split at e
      · rename_i hk
        simp only [Bool.and_eq_true] at hk
        cases e
        obtain ⟨q, hq⟩ := kX_of hk.1
        obtain ⟨p, rfl, e2, ks, e3, kr⟩ := R.ob r1 hl
        have ek := kX_V hq r2
        subst ek
        have mp : p ∈ φ := List.mem_of_getElem? e2
        have hz := szSeq_le hk.2
        rw [kr.length] at hz
        refine set_dict hu pins s σ H _ _ v ov iv u Q I ro ri rv ⟨p, _, rfl, .inl ⟨ks, q, e3, rfl, by omega, rfl⟩, ?_⟩
        exact aq φ _ (.write mp) (R.write e2 ⟨_, rfl, (kr.ext (.write mp)).put hq (r3.ext (.write mp))⟩)
      · cases e
    · cases e
  · cases e
theorem setM_ev {o i : E} {x : X} {e e' : Env'} {h h' : Hq} (q : evTg W.P cl (.idx o i) x e h = .ok e' h') : ∃ a h1 k h2, evE W.P cl o e h = .ok a h1 ∧ evE W.P cl i e h1 = .ok k h2 ∧ setM a k x h2 = some h' ∧ e' = e := by
  obtain ⟨a, h1, q1, q2⟩ := bnd_eq q
  obtain ⟨k, h2, q3, q4⟩ := bnd_eq q2
  split at q4
  · rename_i h5 he
    cases q4
    exact ⟨a, h1, k, h2, q1, q3, he, rfl⟩
  · cases q4
theorem pg_idxX (ok : Okc W N k cl C) {o i : E} (h : chTg W.T N (.idx o i) os sc x = true) (iho : GoodE W N cl C sc o) (ihi : GoodE W N cl C sc i) : PG C x (tG W (Tg.slots (.idx o i)) (evTg W.P cl (.idx o i))) := by
  cases x <;> first | (exact absurd h Bool.false_ne_true) | skip
  rename_i y z p
  have h : (plainB z && chE W.T N o sc y && chE W.T N i sc z) = true := h
  simp only [Bool.and_eq_true] at h
  obtain ⟨⟨h1, h2⟩, h3⟩ := h
  have hu := ok.units
  refine PG.imp (pg_sub (iho _ h2) (ihi _ h3) (set_X (W := W) (by omega)) (by intro v; cases z <;> first | rfl | (exact absurd h1 Bool.false_ne_true))) fun v σ H Q q => ?_
  obtain ⟨φ, e, h, x, e', h', E, R, r, q1, aq⟩ := q
  obtain ⟨a, h4, k, h5, q2, q3, q4, rfl⟩ := setM_ev q1
  refine ⟨φ, e', h, a, h4, E, R, q2, fun φ1 H1 o1 x1 R1 r1 => ⟨φ1, e', h4, k, h5, E.ext x1, R1, q3, fun φ2 H2 k2 x2 R2 r2 => ?_⟩⟩
  exact ⟨φ2, h5, a, k, x, h', r1.ext x2, r2, (r.ext x1).ext x2, R2, q4, fun φ3 H3 x3 R3 => aq φ3 H3 σ ((x1.trans x2).trans x3) R3 (E.ext ((x1.trans x2).trans x3)) .refl⟩
/-! ### an attribute -/
theorem put_map {φ : List Addr} {H : Hp} {f : Nat} {x : X} {v : V} (hf : f < W.nf) (r : Rep W φ H x v) : ∀ {fs : List (Nat × X)} {gs : List (Str × V)}, (∀ p ∈ fs, p.1 < W.nf) → gs.map (·.1) = fs.map (fun p => W.T.fld p.1) → Reps W φ H (fs.map (·.2)) (gs.map (·.2)) →
    (putF (W.T.fld f) v gs).map (·.1) = (setF f x fs).map (fun p => W.T.fld p.1) ∧ Reps W φ H ((setF f x fs).map (·.2)) ((putF (W.T.fld f) v gs).map (·.2))
  | [], [], _, _, _ => ⟨rfl, _, _, rfl, r, rfl⟩
  | [], _ :: _, _, h, _ => by simp at h
  | _ :: _, [], _, h, _ => by simp at h
  | (g, y) :: fs, (n, u) :: gs, hg, h, q => by
    simp only [List.map_cons, List.cons.injEq] at h
    obtain ⟨w, s, e1, r1, r2⟩ := q
    simp only [List.map_cons, List.cons.injEq] at e1
    obtain ⟨rfl, rfl⟩ := e1
    obtain ⟨rfl, h⟩ := h
    unfold putF setF
    by_cases hgf : g = f
    · subst hgf
      rw [if_pos rfl, if_pos rfl]
      exact ⟨by simp only [List.map_cons, h], _, _, rfl, r, r2⟩
    · have ne : ¬ W.T.fld g = W.T.fld f := fun z => hgf (W.inj g f (hg (g, y) List.mem_cons_self) hf z)
      rw [if_neg ne, if_neg hgf]
      obtain ⟨i1, i2⟩ := put_map hf r (fun p hp => hg p (List.mem_cons_of_mem _ hp)) h r2
      exact ⟨by simp only [List.map_cons, i1], _, _, rfl, r1, i2⟩
theorem setF_mem {f : Nat} {x : X} : ∀ {fs : List (Nat × X)} {p : Nat × X}, p ∈ setF f x fs → p.1 = f ∨ ∃ q ∈ fs, q.1 = p.1
  | [], p, h => by
    cases List.mem_singleton.mp h
    exact .inl rfl
  | (g, u) :: r, p, h => by
    unfold setF at h
    split at h
    · rcases List.mem_cons.mp h with h | h
      · cases h
        exact .inr ⟨_, List.mem_cons_self, rfl⟩
      · exact .inr ⟨p, List.mem_cons_of_mem _ h, rfl⟩
    · rcases List.mem_cons.mp h with h | h
      · cases h
        exact .inr ⟨_, List.mem_cons_self, rfl⟩
      · rcases setF_mem h with h | ⟨q, h1, h2⟩
        · exact .inl h
        · exact .inr ⟨q, List.mem_cons_of_mem _ h1, h2⟩
/-- an attribute is set -/
theorem rel_fld (F : Facts W C.mg) {φ : List Addr} {h : Hq} {H : Hp} {l c f : Nat} {fs : List (Nat × X)} {d : ClD} {x : X} {v o : V} (R : Rel W φ h H) (ro : Rep W φ H (.ob l) o) (r : Rep W φ H x v) (hl : h[l]? = some (.ins c fs)) (hd : W.P.cl c = some d) (hf : f ∈ d.flds) :
    ∃ p dx gs, o = .ref p ∧ H p = some (.ins (W.ca c) dx gs) ∧ gs.length = fs.length ∧ p ∈ φ ∧ Rel W φ (h.set l (.ins c (setF f x fs))) (upd H p (.ins (W.ca c) dx (putF (W.T.fld f) v gs))) := by
  obtain ⟨p, rfl, e2, dx, gs, e3, e4, e5, d2, h7, e6⟩ := R.ob ro hl
  have mp : p ∈ φ := List.mem_of_getElem? e2
  have hn := ((F.cls c d hd).noat f hf).2
  rw [hd] at h7
  cases h7
  obtain ⟨i1, i2⟩ := put_map hn r (fun q hq => (e6 q hq).1) e4 e5
  refine ⟨p, dx, gs, rfl, e3, by have := congrArg List.length e4; simpa using this, mp, R.write e2 ⟨dx, _, rfl, i1, i2.ext (.write mp), d, hd, fun q hq => ?_⟩⟩
  rcases setF_mem hq with e | ⟨q', h1, h2⟩
  · rw [e]
    exact ⟨hn, hf⟩
  · rw [← h2]
    exact e6 q' h1
theorem pg_fldX (ok : Okc W N k cl C) {o : E} {f : Nat} (h : chTg W.T N (.fld o f) os sc x = true) (iho : GoodE W N cl C sc o) : PG C x (tG W (Tg.slots (.fld o f)) (evTg W.P cl (.fld o f))) := by
  cases x <;> first | (exact absurd h Bool.false_ne_true) | skip
  rename_i y n p
  have h : (eqS (W.T.fld f) n && chE W.T N o sc y) = true := h
  simp only [Bool.and_eq_true] at h
  have en := eqS_iff h.1
  subst en
  refine ⟨fun pins s σ H v u Q I rv q => ?_⟩
  obtain ⟨φ, e, h0, x, e', h', E, R, r, q1, aq⟩ := q
  obtain ⟨a, h1, q2, q3⟩ := bnd_eq q1
  show wpAny _ _ (do
    let ov ← holding [u] (eval y C.env)
    standAt p.atName
    holding [u, ov] (setAttr ov (W.T.fld f) u)
    release [u, ov] []) _ _ s
  refine wpAny_bind (wpAny_holding (thn ((iho _ h.2).run pins s σ H (fun o1 H1 => ∃ φ1, Ext φ φ1 H H1 ∧ Rel W φ1 h1 H1 ∧ Rep W φ1 H1 a o1) I ⟨φ, e, h0, a, h1, E, R, q2, fun φ1 H1 o1 x1 R1 r1 => ⟨φ1, x1, R1, r1⟩⟩) fun ov s1 ⟨o1, H1, I1, ro, φ1, x1, R1, r1⟩ => ?_))
  split at q3
  · split at q3
    · rename_i c fs hl
      split at q3
      · rename_i d hd
        split at q3
        · rename_i hc
          simp only [Bool.and_eq_true, decide_eq_true_eq] at hc
          cases q3
          have mf : f ∈ d.flds := by simpa using hc.1
          obtain ⟨p1, dx, gs, rfl, g1, g2, g3, g4⟩ := rel_fld ok.facts R1 r1 (r.ext x1) hl hd mf
          obtain rfl : ov = Value.ref p1 := ro
          have F := ok.facts.cls c d hd
          have F1 := F.cls
          have F2 := (F.noat f mf).1
          rw [← ok.hK] at F1 F2
          refine wpAny_bind (wpAny_standAt (wpAny_bind (wpAny_holding (setattr_ok I1 g1 F1 F2 (by omega) rv fun s2 I2 => wpAny_release ⟨σ, _, I2, ?_⟩))))
          exact aq φ1 _ σ (x1.trans (.write g3)) g4 ((E.ext x1).ext (.write g3)) .refl
        · cases q3
      · cases q3
    · cases q3
  · cases q3
theorem tG_tup {ts : Tgs} {n : Nat} (hn : ts.len = n) {v : V} {σ : SlotL} {H : Hp} {Q : SlotL → Hp → Prop} (q : tG W (Tg.slots (.tup ts)) (evTg W.P cl (.tup ts)) v σ H Q) : gTup W.K n (tGs W (Tgs.slots ts) (evTgs W.P cl ts)) v σ H Q ∨ gUnl W.K n (tGs W (Tgs.slots ts) (evTgs W.P cl ts)) v σ H Q := by
  obtain ⟨φ, e, h, x, e', h', E, R, r, q1, aq⟩ := q
  have q1 : (match unpX ts.len x h with
    | some xs => evTgs W.P cl ts xs e h
    | none => .bad) = HP.R.ok e' h' := q1
  split at q1
  · rename_i xs hx
    unfold unpX at hx
    split at hx
    · rename_i ys hy
      split at hx
      · rename_i hlen
        cases hx
        obtain ⟨a, vs, rfl, sq, rs⟩ := rep_seq R r hy
        have hl : vs.length = n := by rw [← rs.length, hlen, hn]
        have fin : tGs W (Tgs.slots ts) (evTgs W.P cl ts) vs σ H Q := ⟨φ, e, h, xs, e', h', E, R, rs, q1, aq⟩
        rcases sq with sq | sq
        · exact .inr ⟨a, vs, rfl, sq, hl, fin⟩
        · exact .inl ⟨a, vs, rfl, sq, hl, fin⟩
      · cases hx
    · cases hx
  · cases q1
theorem pg_tupX (ok : Okc W N k cl C) {ts : Tgs} (h : chTg W.T N (.tup ts) os sc x = true) (ih : ∀ xs, chTgs W.T N ts os sc xs = true → PGs C xs (tGs W (Tgs.slots ts) (evTgs W.P cl ts))) : PG C x (tG W (Tg.slots (.tup ts)) (evTg W.P cl (.tup ts))) := by
  cases x <;> first | (exact absurd h Bool.false_ne_true) | skip
  rename_i xs n p
  have h : chTgs W.T N ts os sc xs = true := h
  obtain ⟨h1, h2⟩ := chTgs_all h
  obtain ⟨g1, g2⟩ := each_len (env := C.env) h1
  have pg := ih xs h
  refine PG.imp (PG.or (pg_tup ok.calm pg g1 g2) (pg_unl ok.calm pg g1 g2)) fun v σ H Q q => ?_
  rw [ok.hK]
  exact tG_tup h2 q
theorem pgs_nilX : PGs C [] (tGs W (Tgs.slots .nil) (evTgs W.P cl .nil)) := by
  refine PGs.imp pgs_nil fun v σ H Q q => ?_
  obtain ⟨φ, e, h, xs, e', h', E, R, r, q1, aq⟩ := q
  cases xs with
  | nil =>
    cases r
    cases q1
    exact ⟨rfl, aq φ H σ .refl R E .refl⟩
  | cons _ _ => cases q1
theorem pgs_consX {t : Tg} {ts : Tgs} {xs : List Expr} (hp : plainB x = true) (p : PG C x (tG W (Tg.slots t) (evTg W.P cl t))) (ps : PGs C xs (tGs W (Tgs.slots ts) (evTgs W.P cl ts))) : PGs C (x :: xs) (tGs W (Tgs.slots (.cons t ts)) (evTgs W.P cl (.cons t ts))) := by
  refine PGs.imp (pgs_cons p ps (by rw [each_plain hp]; rfl)) fun v σ H Q q => ?_
  obtain ⟨φ, e, h, xs, e', h', E, R, r, q1, aq⟩ := q
  cases xs with
  | nil => cases q1
  | cons y ys =>
    obtain ⟨v, vs, rfl, r1, r2⟩ := r
    obtain ⟨e1, h1, q2, q3⟩ := bnd_eq q1
    refine ⟨v, vs, rfl, φ, e, h, y, e1, h1, E, R, r1, q2, fun φ1 H1 σ1 x1 R1 E1 K1 => ?_⟩
    exact ⟨φ1, e1, h1, ys, e', h', E1, R1, r2.ext x1, q3, fun φ2 H2 σ2 x2 R2 E2 K2 => aq φ2 H2 σ2 (x1.trans x2) R2 E2 ⟨K2.1.trans K1.1, fun j hj => (K2.2 j fun z => hj (List.mem_append_right _ z)).trans (K1.2 j fun z => hj (List.mem_append_left _ z))⟩⟩
end
end HP

set_option Elab.async false
set_option linter.all false
set_option maxRecDepth 10000
set_option maxHeartbeats 1000000
/-! The evaluator, part W: comprehensions. -/
namespace HP
open PySem PySem.Spec PyProof.Rows L2
section
variable {W : Wd} {φ φ' : List Addr} {H H' : Hp} {Z Z' : List Addr}
mutual
theorem Rep.gen (pre : φ <+: φ') (hk : ∀ a o, Off (W.z Z) φ a → H a = some o → Off (W.z Z') φ' a ∧ H' a = some o) : ∀ {x : X} {v : V}, Rep (W.z Z) φ H x v → Rep (W.z Z') φ' H' x v
  | .non, _, h => h
  | .bl _, _, h => h
  | .int _, _, h => h
  | .str _, _, h => h
  | .fn _, _, h => h
  | .tup xs, v, h => by
    obtain ⟨a, vs, e1, h1, h2⟩ := h
    refine ⟨a, vs, e1, h1.imp (fun q => ?_) id, Reps.gen pre hk h2⟩
    obtain ⟨n, q | ⟨ob, q⟩⟩ := q
    · exact ⟨(hk _ _ n q).1, .inl (hk _ _ n q).2⟩
    · exact ⟨(hk _ _ n q).1, .inr ⟨ob, (hk _ _ n q).2⟩⟩
  | .lst xs, v, h => by
    obtain ⟨a, vs, e1, h1, h2⟩ := h
    exact ⟨a, vs, e1, hk _ _ h1.1 h1.2, Reps.gen pre hk h2⟩
  | .scr xs, v, h => by
    obtain ⟨a, vs, e1, h1, h2⟩ := h
    refine ⟨a, vs, e1, h1.imp (fun q => ?_) id, Reps.gen pre hk h2⟩
    obtain ⟨n, q | ⟨ob, q⟩⟩ := q
    · exact ⟨(hk _ _ n q).1, .inl (hk _ _ n q).2⟩
    · exact ⟨(hk _ _ n q).1, .inr ⟨ob, (hk _ _ n q).2⟩⟩
  | .ins c xs, v, h => by
    obtain ⟨a, vs, e1, ⟨h0, dx, fs, d, k, r⟩, h2⟩ := h
    exact ⟨a, vs, e1, ⟨(hk _ _ h0 k).1, dx, fs, d, (hk _ _ h0 k).2, r⟩, Reps.gen pre hk h2⟩
  | .ob l, v, h => by
    obtain ⟨a, e1, h1⟩ := h
    obtain ⟨t, rfl⟩ := pre
    exact ⟨a, e1, by rw [List.getElem?_append_left (List.getElem?_eq_some_iff.mp h1).1]; exact h1⟩
  | .lam f, v, h => by
    obtain ⟨a, e1, c, q, h1, h2⟩ := h
    exact ⟨a, e1, c, q, hk _ _ h1.1 h1.2, hk _ _ h2.1 h2.2⟩
theorem Reps.gen (pre : φ <+: φ') (hk : ∀ a o, Off (W.z Z) φ a → H a = some o → Off (W.z Z') φ' a ∧ H' a = some o) : ∀ {xs : List X} {vs : List V}, Reps (W.z Z) φ H xs vs → Reps (W.z Z') φ' H' xs vs
  | [], _, h => h
  | x :: xs, vs, h => by
    obtain ⟨v, r, e1, h1, h2⟩ := h
    exact ⟨v, r, e1, Rep.gen pre hk h1, Reps.gen pre hk h2⟩
end
theorem KRel.gen (pre : φ <+: φ') (hk : ∀ a o, Off (W.z Z) φ a → H a = some o → Off (W.z Z') φ' a ∧ H' a = some o) : ∀ {ks : List (X × X)} {vs : List (Key × V)}, KRel (W.z Z) φ H ks vs → KRel (W.z Z') φ' H' ks vs
  | [], _, h => h
  | (k, x) :: r, vs, h => by
    obtain ⟨q, v, s, e1, e2, h1, h2⟩ := h
    exact ⟨q, v, s, e1, e2, h1.gen pre hk, KRel.gen pre hk h2⟩
theorem ORel.gen (pre : φ <+: φ') (hk : ∀ a o, Off (W.z Z) φ a → H a = some o → Off (W.z Z') φ' a ∧ H' a = some o) {o : O} {ho : Option HO} (h : ORel (W.z Z) φ H o ho) : ORel (W.z Z') φ' H' o ho := by
  cases o with
  | lst xs =>
    obtain ⟨vs, e1, h1⟩ := h
    exact ⟨vs, e1, h1.gen pre hk⟩
  | dct kvs =>
    obtain ⟨vs, e1, h1⟩ := h
    exact ⟨vs, e1, h1.gen pre hk⟩
  | ins c fs =>
    obtain ⟨dx, gs, e1, e2, h1, h2⟩ := h
    exact ⟨dx, gs, e1, e2, h1.gen pre hk, h2⟩
  | tbl =>
    obtain ⟨ps, e1, h1, h2⟩ := h
    refine ⟨ps, e1, h1, fun pos cv k => ?_⟩
    obtain ⟨c, P, q, e2, e3, h3, h4⟩ := h2 pos cv k
    exact ⟨c, P, q, e2, e3, hk _ _ h3 h4⟩
/-- the same places -/
theorem Rel.gen {h : Hq} (R : Rel (W.z Z) φ h H) (hk : ∀ a o, Off (W.z Z) φ a → H a = some o → Off (W.z Z') φ a ∧ H' a = some o) (hp : ∀ a ∈ φ, H' a = H a) (hz : ∀ z ∈ Z', H' z ≠ none ∧ z ∉ φ) : Rel (W.z Z') φ h H' := by
  refine ⟨R.len, R.nd, hz, fun l o e => ?_, R.tb⟩
  obtain ⟨a, e1, r⟩ := R.at_ l o e
  exact ⟨a, e1, by rw [hp a (List.mem_of_getElem? e1)]; exact r.gen (List.prefix_refl _) hk⟩
theorem ERel.gen {e : Env'} {σ : List (Option V)} (E : ERel (W.z Z) φ H e σ) (pre : φ <+: φ') (hk : ∀ a o, Off (W.z Z) φ a → H a = some o → Off (W.z Z') φ' a ∧ H' a = some o) : ERel (W.z Z') φ' H' e σ := ⟨E.len, fun i x q => let ⟨v, h1, h2⟩ := E.at_ i x q; ⟨v, h1, h2.gen pre hk⟩⟩
variable {D : Addr}
/-- a thing under way begins -/
theorem new_hk {o : HO} (hD : H D = none) : ∀ a u, Off (W.z Z) φ a → H a = some u → Off (W.z (D :: Z)) φ a ∧ upd H D o a = some u := fun a u n e => by
  have ne : a ≠ D := fun z => by rw [z, hD] at e; cases e
  refine ⟨⟨n.1, fun q => ?_⟩, by rw [upd_ne ne]; exact e⟩
  rcases List.mem_cons.mp q with q | q
  · exact ne q
  · exact n.2 q
theorem Rel.new {h : Hq} {o : HO} (R : Rel (W.z Z) φ h H) (hD : H D = none) : Rel (W.z (D :: Z)) φ h (upd H D o) := by
  refine R.gen (new_hk hD) (fun a m => upd_ne fun z => R.there m (z ▸ hD)) fun z hz => ?_
  rcases List.mem_cons.mp hz with rfl | hz
  · exact ⟨by rw [upd_same]; simp, fun m => R.there m hD⟩
  · have ne : z ≠ D := fun q => (R.zz z hz).1 (q ▸ hD)
    exact ⟨by rw [upd_ne ne]; exact (R.zz z hz).1, (R.zz z hz).2⟩
/-- a thing under way changes -/
theorem put_hk {o : HO} : ∀ a u, Off (W.z (D :: Z)) φ a → H a = some u → Off (W.z (D :: Z)) φ a ∧ upd H D o a = some u := fun a u n e =>
  ⟨n, by rw [upd_ne (show a ≠ D from fun z => n.2 (by rw [z]; exact List.mem_cons_self))]; exact e⟩
theorem Rel.put {h : Hq} {o : HO} (R : Rel (W.z (D :: Z)) φ h H) : Rel (W.z (D :: Z)) φ h (upd H D o) := by
  refine R.gen put_hk (fun a m => upd_ne fun z => (R.zz D List.mem_cons_self).2 (z ▸ m)) fun z hz => ⟨?_, (R.zz z hz).2⟩
  by_cases q : z = D
  · rw [q, upd_same]
    simp
  · rw [upd_ne q]
    exact (R.zz z hz).1
/-- a thing under way is done: a value -/
theorem end_hk : ∀ a u, Off (W.z (D :: Z)) φ a → H a = some u → Off (W.z Z) φ a ∧ H a = some u := fun a u n e => ⟨⟨n.1, fun q => n.2 (List.mem_cons_of_mem _ q)⟩, e⟩
theorem Rel.fin {h : Hq} (R : Rel (W.z (D :: Z)) φ h H) : Rel (W.z Z) φ h H := R.gen end_hk (fun _ _ => rfl) fun z hz => R.zz z (List.mem_cons_of_mem _ hz)
/-- a thing under way is done: a place -/
theorem place_hk : ∀ a u, Off (W.z (D :: Z)) φ a → H a = some u → Off (W.z Z) (φ ++ [D]) a ∧ H a = some u := fun a u n e => by
  refine ⟨⟨fun q => ?_, fun q => n.2 (List.mem_cons_of_mem _ q)⟩, e⟩
  rcases List.mem_append.mp q with q | q
  · exact n.1 q
  · exact n.2 (by rw [List.mem_singleton.mp q]; exact List.mem_cons_self)
theorem Rel.finP {h : Hq} {o : O} (R : Rel (W.z (D :: Z)) φ h H) (hz : D ∉ Z) (ho : ORel (W.z (D :: Z)) φ H o (H D)) : Rel (W.z Z) (φ ++ [D]) (h ++ [o]) H := by
  have nD := (R.zz D List.mem_cons_self).2
  refine ⟨by simp [R.len], ?_, fun z q => ⟨(R.zz z (List.mem_cons_of_mem _ q)).1, fun q' => ?_⟩, fun l u e => ?_, fun P q e => by rw [List.getElem?_append_left (List.getElem?_eq_some_iff.mp (R.tb P q e)).1]; exact R.tb P q e⟩
  · rw [List.nodup_append]
    exact ⟨R.nd, by simp, fun a h1 b h2 => by rw [List.mem_singleton.mp h2]; exact fun z => nD (z ▸ h1)⟩
  · rcases List.mem_append.mp q' with q' | q'
    · exact (R.zz z (List.mem_cons_of_mem _ q)).2 q'
    · exact hz (List.mem_singleton.mp q' ▸ q)
  · by_cases hl : l < h.length
    · rw [List.getElem?_append_left hl] at e
      obtain ⟨a, e1, r⟩ := R.at_ l u e
      exact ⟨a, by rw [List.getElem?_append_left (by rw [R.len]; exact hl)]; exact e1, r.gen (List.prefix_append _ _) place_hk⟩
    · have hl2 : l = h.length := by
        have := (List.getElem?_eq_some_iff.mp e).1
        simp at this
        omega
      subst hl2
      rw [List.getElem?_append_right (Nat.le_refl _)] at e
      simp at e
      subst e
      refine ⟨D, ?_, ho.gen (List.prefix_append _ _) place_hk⟩
      rw [← R.len, List.getElem?_append_right (Nat.le_refl _)]
      simp
theorem Ext.put {H1 : Hp} {o : HO} (x : Ext φ φ' H1 H) (hD : H1 D = none) : Ext φ φ' H1 (upd H D o) := ⟨x.pre, x.new, fun a u n e => by
  rw [upd_ne (show a ≠ D from fun z => by rw [z, hD] at e; cases e)]
  exact x.keep a u n e⟩
end
theorem wipe_keeps {own : List Nat} {σ σ' : SlotL} {sl : List Nat} (hs : ∀ i ∈ sl, i ∈ own) (k : Keeps sl (L2.wipe σ own) σ') : L2.wipe σ' own = L2.wipe σ own := by
  have at_ : ∀ (own : List Nat) (σ : SlotL) (j : Nat), (L2.wipe σ own)[j]? = if j ∈ own then (if j < σ.length then some none else none) else σ[j]? := by
    intro own
    induction own with
    | nil => intro σ j; simp [L2.wipe]
    | cons v vs ih =>
      intro σ j
      show ((L2.wipe σ vs).set v none)[j]? = _
      by_cases hj : j = v
      · subst hj
        rw [if_pos List.mem_cons_self]
        by_cases hl : j < σ.length
        · rw [if_pos hl, List.getElem?_set_self (by rw [L2.wipe_length]; exact hl)]
        · rw [if_neg hl]
          exact List.getElem?_eq_none (by rw [List.length_set, L2.wipe_length]; omega)
      · rw [List.getElem?_set_ne (Ne.symm hj), ih]
        by_cases hm : j ∈ vs
        · rw [if_pos hm, if_pos (List.mem_cons_of_mem _ hm)]
        · rw [if_neg hm, if_neg (fun q => (List.mem_cons.mp q).elim hj hm)]
  refine List.ext_getElem? fun j => ?_
  have hl : σ'.length = σ.length := by rw [k.1, L2.wipe_length]
  rw [at_, at_, hl]
  by_cases hj : j ∈ own
  · rw [if_pos hj, if_pos hj]
  · rw [if_neg hj, if_neg hj, k.2 j fun q => hj (hs j q), at_, if_neg hj]
end HP

set_option Elab.async false
set_option linter.all false
set_option maxRecDepth 10000
set_option maxHeartbeats 1000000
/-! The evaluator, part X: comprehensions. -/
namespace HP
open PySem PySem.Spec PyProof.Rows L2
def zG (W : Wd) (sl : List Nat) (m : X → Env' → M Env') : TG := fun v σ H Q => ∃ Z, tG (W.z Z) sl m v σ H Q
def zT (W : Wd) (m : Env' → M Bool) : TT := fun σ H Q => ∃ Z, tT (W.z Z) m σ H Q
def zE (W : Wd) (m : Env' → M X) : TE := fun σ H Q => ∃ Z, tE (W.z Z) m σ H Q
section
variable {W : Wd} {N : List Str} {k : Nat} {cl : Cll} {C : Cx} {sc : Scope} {x : Expr}
theorem tE_comp {m : Bool} {own : List Nat} {el : E} {t : Tg} {it : HP.It} {c : Es} (hs : ∀ i ∈ t.slots, i ∈ own) {σ : SlotL} {H : Hp} {Q : VK} (q : tE W (evE W.P cl (.comp m own el t it c)) σ H Q) :
    tLc (tI W (evIt W.P cl it)) (zG W t.slots (evTg W.P cl t)) (zT W (evC W.P cl c)) (zE W (evE W.P cl el)) own σ H Q := by
  obtain ⟨φ0, e, h0, z, hz, E, R0, q, aq⟩ := q
  obtain ⟨p, h1, q1, q2⟩ := bnd_eq q
  refine ⟨φ0, e, h0, p, h1, E, R0, q1, fun φ1 H1 J x1 R1 wk => fun D hD => ?_⟩
  have q2 : (cmpL p.2 (fun x => (evTg W.P cl t x (wipX e own)).bnd fun e1 => (evC W.P cl c e1).bnd fun k => if k then (evE W.P cl el e1).bnd fun y => M.ret (some y) else M.ret none) p.1 h1).bnd (newL m) = .ok z hz := q2
  generalize hturn : (fun x => (evTg W.P cl t x (wipX e own)).bnd fun e1 => (evC W.P cl c e1).bnd fun k => if k then (evE W.P cl el e1).bnd fun y => M.ret (some y) else M.ret none) = turn at q2
  obtain ⟨all, h2, q3, q4⟩ := bnd_eq q2
  have nzD : NewZ W H1 (D :: W.Z) := fun w hw => (List.mem_cons.mp hw).elim (fun z => .inr (z ▸ hD)) .inl
  have dZ : D ∉ W.Z := fun q => (R1.zz D q).1 hD
  have E1 : ERel W φ1 H1 (wipX e own) (L2.wipe σ own) := (E.ext x1).wipe own
  have size : all.length ≤ sizeLine := by
    unfold newL at q4
    split at q4
    · exact szSeq_le (by assumption)
    · cases q4
  -- the state ahead of turn i
  let St : Nat → Hp → Prop := fun i H => ∃ φi hi acc accX ys, Ext φ1 φi H1 H ∧ Rel (W.z (D :: W.Z)) φi hi H ∧ H D = some (.lst acc) ∧ Reps (W.z (D :: W.Z)) φi H accX acc ∧ cmpL p.2 turn (p.1.drop i) hi = .ok ys h2 ∧ accX ++ ys = all
  refine ⟨fun i m H => m = p.1.length - i ∧ i ≤ p.1.length ∧ St i H, ⟨p.1.length, by simp, Nat.zero_le _, φ1, h1, [], [], all, (Ext.refl).put hD, Rel.new (Z := W.Z) R1 hD, upd_same, rfl, q3, rfl⟩, ?_⟩
  rintro i m1 H ⟨rfl, hi, φi, hi', acc, accX, ys, xi, Ri, aD, ra, qi, ea⟩
  by_cases hlt : i < p.1.length
  · right
    rw [List.drop_eq_getElem_cons hlt] at qi
    unfold cmpL at qi
    split at qi
    · rename_i hg
      obtain ⟨go, yl⟩ := (wk (D :: W.Z) φi H hi' xi nzD Ri hg).1 i p.1[i] (List.getElem?_eq_getElem hlt)
      refine ⟨go, fun H' => St (i + 1) H', fun H' st => ⟨_, by omega, rfl, hlt, st⟩, fun v H'' hy => ?_⟩
      obtain ⟨x2, R2, r2⟩ := yl v H'' hy
      obtain ⟨oy, h3, q5, q6⟩ := bnd_eq qi
      obtain ⟨ys2, h4, q7, q8⟩ := bnd_eq q6
      subst hturn
      obtain ⟨e1, h5, q9, q10⟩ := bnd_eq q5
      obtain ⟨b, h6, q11, q12⟩ := bnd_eq q10
      have E2 : ERel (W.z (D :: W.Z)) φi H'' (wipX e own) (L2.wipe σ own) := by
        have := (ERel.gen (W := W) (Z := W.Z) (Z' := D :: W.Z) (φ' := φ1) (H' := H1) E1 (List.prefix_refl _) fun a o n e => ⟨⟨n.1, fun q => (List.mem_cons.mp q).elim (fun z => by rw [z, hD] at e; cases e) n.2⟩, e⟩)
        exact (this.ext xi).ext x2
      have nD : D ∉ φi := (Ri.zz D List.mem_cons_self).2
      have aD2 := x2.keep D _ nD aD
      have ra2 := ra.ext x2
      refine ⟨D :: W.Z, φi, wipX e own, hi', p.1[i], e1, h5, E2, R2, r2, q9, fun φ3 H3 σ3 x3 R3 E3 K3 => ⟨wipe_keeps hs K3, ?_⟩⟩
      refine ⟨D :: W.Z, φ3, e1, h5, b, h6, E3, R3, q11, fun φ4 H4 x4 R4 => ?_⟩
      have x34 := x3.trans x4
      have aD4 := x34.keep D _ nD aD2
      have ra4 := ra2.ext x34
      cases b with
      | true =>
        simp only [if_true]
        obtain ⟨y, h7, q13, q14⟩ := bnd_eq q12
        cases q14
        refine ⟨D :: W.Z, φ4, e1, h6, y, _, E3.ext x4, R4, q13, fun φ5 H5 u x5 R5 r5 => ?_⟩
        have nD4 : D ∉ φ4 := (R4.zz D List.mem_cons_self).2
        have aD5 := x5.keep D _ nD4 aD4
        have ra5 := ra4.ext x5
        cases q8
        refine ⟨acc, aD5, ?_, φ5, _, acc ++ [u], accX ++ [y], ys2, (((xi.trans x2).trans x34).trans x5).put hD, R5.put, upd_same, ?_, q7, by rw [← ea, List.append_assoc]; rfl⟩
        · have := congrArg List.length ea
          rw [List.length_append, ra.length, List.length_cons] at this
          omega
        · have one : Reps (W.z (D :: W.Z)) φ5 H5 [y] [u] := ⟨u, [], rfl, r5, rfl⟩
          exact (ra5.append one).gen (List.prefix_refl _) put_hk
      | false =>
        simp only [Bool.false_eq_true, if_false]
        cases q12
        cases q8
        exact ⟨φ4, _, acc, accX, _, (xi.trans x2).trans x34, R4, aD4, ra4, q7, ea⟩
    · cases qi
  · left
    have hi2 : i = p.1.length := by omega
    subst hi2
    rw [List.drop_length] at qi
    unfold cmpL at qi
    split at qi
    · rename_i hg
      cases qi
      rw [List.append_nil] at ea
      subst ea
      refine ⟨(wk (D :: W.Z) φi H _ xi nzD Ri hg).2 _ (Nat.le_refl _), ?_⟩
      have nD : D ∉ φi := (Ri.zz D List.mem_cons_self).2
      unfold newL at q4
      rw [if_pos (by
        have := size
        simp [szSeq]
        rw [sizeLine_eq] at this
        exact this)] at q4
      cases m with
      | true =>
        cases q4
        have xP : Ext φ1 (φi ++ [D]) H1 H := ⟨xi.pre.trans (List.prefix_append _ _), fun a h n => by
          rcases List.mem_append.mp h with h | h
          · exact xi.new a h n
          · rw [List.mem_singleton.mp h]
            exact hD, xi.keep⟩
        refine aq _ H _ (x1.trans xP) (Rel.finP (Z := W.Z) Ri dZ ⟨acc, aD, ra⟩) ⟨D, rfl, ?_⟩
        rw [← Ri.len, List.getElem?_append_right (Nat.le_refl _)]
        simp
      | false =>
        cases q4
        refine aq _ H _ (x1.trans xi) (Rel.fin (Z := W.Z) Ri) ⟨D, acc, rfl, ⟨⟨nD, dZ⟩, aD⟩, ra.gen (Z' := W.Z) (List.prefix_refl _) end_hk⟩
    · cases qi
end
end HP

set_option Elab.async false
set_option linter.all false
set_option maxRecDepth 10000
set_option maxHeartbeats 1000000
/-! The evaluator, part Y: the block of a comprehension. -/
namespace HP
open PySem PySem.Spec PyProof.Rows L2
section
variable {W : Wd} {N : List Str} {k : Nat} {cl : Cll} {C : Cx} {sc : Scope} {x : Expr}
theorem Facts.z {mg : Str → Option Value} (F : Facts W mg) (Z : List Addr) : Facts (W.z Z) mg where
  fn := F.fn
  cl := F.cl
  cst := fun k x h => let ⟨u, v, a, b, c⟩ := F.cst k x h; ⟨u, v, a, b, fun Z' φ H => c Z' φ H⟩
  free := F.free
  gcd := F.gcd
  keep := F.keep
  cls := fun c d h => let G := F.cls c d h; ⟨G.cls, G.noat, G.meth, G.ini, G.ini0, G.isa, G.eq, G.ne, G.nfst⟩
  isg := F.isg
  kit := fun k t b h1 h2 h3 => by
    have := F.kit k t b h1 h2 h3
    cases k <;> cases t <;> exact this
theorem Okc.blk (ok : Okc W N k cl C) (Z : List Addr) (s : Shared) (H : Hp) (scope : Scope) (env : Env) (fp : List Addr) (e1 : env.code = C.env.code) (e2 : env.qual = C.env.qual) : Okc (W.z Z) N k cl (C.blk s H scope env fp) :=
  ⟨ok.hN, ok.nd, ok.hK, ok.calm, ok.room, ok.guards, ok.facts.z Z, ok.clno, ok.calls, ok.kcalls, ok.lcalls, fun e => let ⟨c, P, h1, h2, h3⟩ := ok.lam e; ⟨c, P, e1.trans h1, h2, by show W.tab = some (P, env.qual ++ _); rw [e2]; exact h3⟩⟩
/-- a list of expressions as tests -/
structure GoodC (W : Wd) (N : List Str) (cl : Cll) (C : Cx) (sc : Scope) (c : Es) : Prop where
  run : ∀ ys, chC W.T N c sc ys = true → PTs C ys (tT W (evC W.P cl c))
def GoodG (W : Wd) (N : List Str) (cl : Cll) (C : Cx) (os sc : Scope) (t : Tg) : Prop := ∀ y, chTg W.T N t os sc y = true → PG C y (tG W t.slots (evTg W.P cl t))
def GoodI (W : Wd) (N : List Str) (cl : Cll) (C : Cx) (sc : Scope) (it : HP.It) : Prop := ∀ tg y, chIt W.T N it sc tg y = true → PI C tg y (tI W (evIt W.P cl it))
theorem ownOf_snd : ∀ {own : List Nat} {ow : List (Str × Nat)}, ownOf N own = some ow → ow.map (·.2) = own
  | [], ow, h => by cases h; rfl
  | i :: is, ow, h => by
    unfold ownOf at h
    split at h
    · rename_i a b h1 h2
      cases h
      rw [List.map_cons, ownOf_snd h2]
    · cases h
/-- all that a comprehension's block is wanted for -/
structure GoodB (W : Wd) (N : List Str) (cl : Cll) (C : Cx) (sc : Scope) (el : E) (t : Tg) (c : Es) : Prop where
  tg : ∀ Z s H scope cl' Cc fp, GoodG (W.z Z) N cl (C.blk s H scope (compEnvC scope cl' Cc C.env) fp) scope (relS scope sc) t
  el : ∀ Z s H scope cl' Cc fp, GoodE (W.z Z) N cl (C.blk s H scope (compEnvC scope cl' Cc C.env) fp) (relS scope sc) el
  ts : ∀ Z s H scope cl' Cc fp, GoodC (W.z Z) N cl (C.blk s H scope (compEnvC scope cl' Cc C.env) fp) (relS scope sc) c
theorem fold_it {it : HP.It} {tg y : Expr} (h : chIt W.T N it sc tg y = true) (env : Env) : ∀ v, foldedSetIterable y env v = pure v := by
  intro v
  have call : ∀ f xs ks p, foldedSetIterable (.Call f xs ks p) env v = pure v := fun f xs ks p => rfl
  cases it with
  | seq e =>
    have h : (chE W.T N e sc y && plainB y) = true := h
    simp only [Bool.and_eq_true] at h
    cases y <;> first | rfl | (exact absurd h.2 Bool.false_ne_true)
  | rng es => cases y <;> first | rfl | (exact absurd h Bool.false_ne_true)
  | zip es => cases y <;> first | rfl | (cases tg <;> exact absurd h Bool.false_ne_true)
  | enm e => cases y <;> first | rfl | (cases tg <;> exact absurd h Bool.false_ne_true)
  | ezip es => cases y <;> first | rfl | (cases tg <;> exact absurd h Bool.false_ne_true)
/-- what the check of a comprehension says -/
theorem comp_parts {m : Bool} {own : List Nat} {el : E} {t : Tg} {it : HP.It} {c : Es} (h : chE W.T N (.comp m own el t it c) sc x = true) :
    ∃ y tg ie ifs scope pos ow, x = .ListComp y [⟨tg, ie, ifs, 0⟩] scope pos ∧ ow.map (·.2) = own ∧ blkC N sc scope ow = true ∧ chIt W.T N it sc tg ie = true ∧ chTg W.T N t scope (relS scope sc) tg = true ∧ chC W.T N c (relS scope sc) ifs = true ∧ chE W.T N el (relS scope sc) y = true ∧ ∀ i ∈ t.slots, i ∈ own := by
  cases x <;> first | (exact absurd h Bool.false_ne_true) | skip
  rename_i y gs scope pos
  rcases gs with _ | ⟨⟨tg, ie, ifs, as⟩, rest⟩ <;> first | (exact absurd h Bool.false_ne_true) | skip
  rcases as with (_ | _) | _ <;> first | (exact absurd h Bool.false_ne_true) | skip
  rcases rest with _ | _ <;> first | (exact absurd h Bool.false_ne_true) | skip
  have h : (blkB N sc scope own && chIt W.T N it sc tg ie && chTg W.T N t scope (relS scope sc) tg && chC W.T N c (relS scope sc) ifs && chE W.T N el (relS scope sc) y && t.slots.all (fun i => own.contains i)) = true := h
  simp only [Bool.and_eq_true, List.all_eq_true] at h
  obtain ⟨⟨⟨⟨⟨h1, h2⟩, h3⟩, h4⟩, h5⟩, h6⟩ := h
  unfold blkB at h1
  split at h1
  · rename_i ow ho
    exact ⟨y, tg, ie, ifs, scope, pos, ow, rfl, ownOf_snd ho, h1, h2, h3, h4, h5, fun i hi => by simpa using h6 i hi⟩
  · cases h1
theorem PT.some {e : Expr} {m : Env' → M Bool} (p : ∀ Z, PT C e (tT (W.z Z) m)) : PT C e (zT W m) := ⟨fun pins s σ H Q I ⟨Z, q⟩ => (p Z).run pins s σ H Q I q⟩
theorem PTs.some {es : List Expr} {m : Env' → M Bool} (p : ∀ Z, PTs C es (tT (W.z Z) m)) : PTs C es (zT W m) := ⟨fun pins s σ H Q I ⟨Z, q⟩ => (p Z).run pins s σ H Q I q⟩
theorem PE.some {e : Expr} {m : Env' → M X} (p : ∀ Z, PE C e (tE (W.z Z) m)) : PE C e (zE W m) := ⟨fun pins s σ H Q I ⟨Z, q⟩ => (p Z).run pins s σ H Q I q⟩
theorem PG.some {e : Expr} {sl : List Nat} {m : X → Env' → M Env'} (p : ∀ Z, PG C e (tG (W.z Z) sl m)) : PG C e (zG W sl m) := ⟨fun pins s σ H v u Q I r ⟨Z, q⟩ => (p Z).run pins s σ H v u Q I r q⟩
theorem pe_compX (ok : Okc W N k cl C) (hsc : C.env.scope = sc) {m : Bool} {own : List Nat} {el : E} {t : Tg} {it : HP.It} {c : Es} (h : chE W.T N (.comp m own el t it c) sc x = true) (hit : GoodI W N cl C sc it) (hb : GoodB W N cl C sc el t c) :
    PE C x (tE W (evE W.P cl (.comp m own el t it c))) := by
  obtain ⟨y, tg, ie, ifs, scope, pos, ow, rfl, rfl, h1, h2, h3, h4, h5, h6⟩ := comp_parts h
  refine PE.imp (pe_lc ok.calm (by rw [ok.hN]; exact ok.nd) (hit tg ie h2) (blkOk_by (by rw [ok.hN, hsc]; exact h1)) (fun s H Cc cl' fp => PG.some fun Z => hb.tg Z s H scope cl' Cc fp tg h3)
    (fun s H Cc cl' fp => PTs.some fun Z => (hb.ts Z s H scope cl' Cc fp).run ifs h4) (fun s H Cc cl' fp => PE.some fun Z => hb.el Z s H scope cl' Cc fp y h5) (fold_it h2 C.env)) fun σ H Q q => tE_comp h6 q
end
end HP

set_option Elab.async false
set_option linter.all false
set_option maxRecDepth 10000
set_option maxHeartbeats 1000000
/-! The evaluator, part Z: statements. -/
namespace HP
open PySem PySem.Spec PyProof.Rows L2
abbrev AftS (W : Wd) (φ : List Addr) (H : Hp) (e : Env') (h' : Hq) (Q : SlotL → Hp → Prop) : Prop := ∀ φ' H' σ', Ext φ φ' H H' → Rel W φ' h' H' → ERel W φ' H' e σ' → Q σ' H'
/-- what is wanted behind a statement -/
def FlOk (W : Wd) (φ : List Addr) (H : Hp) (f : Fl) (h' : Hq) (D : Ends) : Prop := match f with
  | .nx e => AftS W φ H e h' D.nx
  | .bk e => AftS W φ H e h' D.bk
  | .ct e => AftS W φ H e h' D.ct
  | .rt x => Aft W φ H x h' D.rt
def tS (W : Wd) (m : Env' → M Fl) : TS := fun D σ H => ∃ φ e h f h', ERel W φ H e σ ∧ Rel W φ h H ∧ m e h = .ok f h' ∧ FlOk W φ H f h' D
theorem FlOk.ext {W : Wd} {φ φ' : List Addr} {H H' : Hp} {f : Fl} {h' : Hq} {D : Ends} (a : FlOk W φ H f h' D) (x : Ext φ φ' H H') : FlOk W φ' H' f h' D := by
  cases f with
  | nx e => exact fun φ2 H2 σ2 x2 R2 E2 => a φ2 H2 σ2 (x.trans x2) R2 E2
  | bk e => exact fun φ2 H2 σ2 x2 R2 E2 => a φ2 H2 σ2 (x.trans x2) R2 E2
  | ct e => exact fun φ2 H2 σ2 x2 R2 E2 => a φ2 H2 σ2 (x.trans x2) R2 E2
  | rt y => exact fun φ2 H2 v x2 R2 r2 => a φ2 H2 v (x.trans x2) R2 r2
section
variable {W : Wd} {N : List Str} {k : Nat} {cl : Cll} {C : Cx} {sc : Scope}
theorem PS.imp {st : Stmt} {t t' : TS} (p : PS C st t) (k : ∀ D σ H, t' D σ H → t D σ H) : PS C st t' := ⟨fun pins s σ H D I q => p.run pins s σ H D I (k D σ H q)⟩
theorem PSs.imp {st : List Stmt} {t t' : TS} (p : PSs C st t) (k : ∀ D σ H, t' D σ H → t D σ H) : PSs C st t' := ⟨fun pins s σ H D I q => p.run pins s σ H D I (k D σ H q)⟩
theorem pss_nilX : PSs C [] (tS W (evSs W.P cl .nil)) := by
  refine PSs.imp pss_nil fun D σ H q => ?_
  obtain ⟨φ, e, h, f, h', E, R, q, a⟩ := q
  cases q
  exact a φ H σ .refl R E
theorem pss_consX {s : S} {ss : Ss} {st : Stmt} {sts : List Stmt} (p : PS C st (tS W (evS W.P cl s))) (ps : PSs C sts (tS W (evSs W.P cl ss))) : PSs C (st :: sts) (tS W (evSs W.P cl (.cons s ss))) := by
  refine PSs.imp (pss_cons p ps) fun D σ H q => ?_
  obtain ⟨φ, e, h, f, h', E, R, q, a⟩ := q
  obtain ⟨f1, h1, q1, q2⟩ := bnd_eq q
  refine ⟨φ, e, h, f1, h1, E, R, q1, ?_⟩
  cases f1 with
  | nx e1 => exact fun φ2 H2 σ2 x2 R2 E2 => ⟨φ2, e1, h1, f, h', E2, R2, q2, a.ext x2⟩
  | bk e1 => cases q2; exact a
  | ct e1 => cases q2; exact a
  | rt y => cases q2; exact a
theorem ps_exprX {a : E} {st : Stmt} (h : chS W.T N (.expr a) sc st = true) (iha : GoodE W N cl C sc a) : PS C st (tS W (evS W.P cl (.expr a))) := by
  cases st <;> first | (exact absurd h Bool.false_ne_true) | skip
  rename_i x pos
  have h : (chE W.T N a sc x && noComp x) = true := h
  simp only [Bool.and_eq_true] at h
  refine PS.imp (ps_expr (iha x h.1) (by cases x <;> first | rfl | (exact absurd h.2 Bool.false_ne_true))) fun D σ H q => ?_
  obtain ⟨φ, e, h, f, h', E, R, q, aq⟩ := q
  obtain ⟨w, h1, q1, q2⟩ := bnd_eq q
  cases q2
  exact ⟨φ, e, h, w, _, E, R, q1, fun φ' H' v x' R' r => aq φ' H' σ x' R' (E.ext x')⟩
theorem ps_retX {a : E} {st : Stmt} (h : chS W.T N (.ret a) sc st = true) (iha : GoodE W N cl C sc a) : PS C st (tS W (evS W.P cl (.ret a))) := by
  cases st <;> first | (exact absurd h Bool.false_ne_true) | skip
  rename_i x pos
  cases x <;> first | (exact absurd h Bool.false_ne_true) | skip
  rename_i x
  have h : chE W.T N a sc x = true := h
  refine PS.imp (ps_ret (iha x h)) fun D σ H q => ?_
  obtain ⟨φ, e, h, f, h', E, R, q, aq⟩ := q
  obtain ⟨w, h1, q1, q2⟩ := bnd_eq q
  cases q2
  exact ⟨φ, e, h, w, _, E, R, q1, aq⟩
theorem ps_retNX {st : Stmt} (h : chS W.T N .retN sc st = true) : PS C st (tS W (evS W.P cl .retN)) := by
  cases st <;> first | (exact absurd h Bool.false_ne_true) | skip
  rename_i x pos
  cases x <;> first | (exact absurd h Bool.false_ne_true) | skip
  refine PS.imp ps_retN fun D σ H q => ?_
  obtain ⟨φ, e, h, f, h', E, R, q, aq⟩ := q
  cases q
  exact aq φ H _ .refl R rep_non
theorem ps_passX {st : Stmt} (h : chS W.T N .pass sc st = true) : PS C st (tS W (evS W.P cl .pass)) := by
  cases st <;> first | (exact absurd h Bool.false_ne_true) | skip
  refine PS.imp ps_pass fun D σ H q => ?_
  obtain ⟨φ, e, h, f, h', E, R, q, aq⟩ := q
  cases q
  exact aq φ H _ .refl R E
theorem ps_brkX {st : Stmt} (h : chS W.T N .brk sc st = true) : PS C st (tS W (evS W.P cl .brk)) := by
  cases st <;> first | (exact absurd h Bool.false_ne_true) | skip
  refine PS.imp ps_break fun D σ H q => ?_
  obtain ⟨φ, e, h, f, h', E, R, q, aq⟩ := q
  cases q
  exact aq φ H _ .refl R E
theorem ps_cntX {st : Stmt} (h : chS W.T N .cnt sc st = true) : PS C st (tS W (evS W.P cl .cnt)) := by
  cases st <;> first | (exact absurd h Bool.false_ne_true) | skip
  refine PS.imp ps_continue fun D σ H q => ?_
  obtain ⟨φ, e, h, f, h', E, R, q, aq⟩ := q
  cases q
  exact aq φ H _ .refl R E
theorem ps_neverX {st : Stmt} : PS C st (tS W (evS W.P cl .never)) := by
  refine PS.imp ps_never fun D σ H q => ?_
  obtain ⟨φ, e, h, f, h', E, R, q, aq⟩ := q
  cases q
theorem ps_ifX {c : E} {a b : Ss} {st : Stmt} (h : chS W.T N (.ifs c a b) sc st = true) (ihc : ∀ y, chE W.T N c sc y = true → PT C y (tB W cl c)) (iha : ∀ sts, chSs W.T N a sc sts = true → PSs C sts (tS W (evSs W.P cl a))) (ihb : ∀ sts, chSs W.T N b sc sts = true → PSs C sts (tS W (evSs W.P cl b))) : PS C st (tS W (evS W.P cl (.ifs c a b))) := by
  cases st <;> first | (exact absurd h Bool.false_ne_true) | skip
  rename_i x p q pos
  have h : (chE W.T N c sc x && chSs W.T N a sc p && chSs W.T N b sc q) = true := h
  simp only [Bool.and_eq_true] at h
  refine PS.imp (ps_if (ihc x h.1.1) (iha p h.1.2) (ihb q h.2)) fun D σ H q => ?_
  obtain ⟨φ, e, h, f, h', E, R, q, aq⟩ := q
  obtain ⟨w, h1, q1, q2⟩ := bnd_eq q
  obtain ⟨t, h2, q3, q4⟩ := bnd_eq q2
  refine ⟨φ, e, h, t, h2, E, R, ?_, fun φ' H' x' R' => ?_⟩
  · show (evE W.P cl c e h).bnd truM = _
    rw [q1]
    exact q3
  · cases t with
    | true =>
      rw [if_pos rfl]
      exact ⟨φ', e, h2, f, h', E.ext x', R', q4, aq.ext x'⟩
    | false =>
      rw [if_neg Bool.false_ne_true]
      exact ⟨φ', e, h2, f, h', E.ext x', R', q4, aq.ext x'⟩
end
end HP

set_option Elab.async false
set_option linter.all false
set_option maxRecDepth 10000
set_option maxHeartbeats 1000000
/-! The evaluator, part 0: loops. -/
namespace HP
open PySem PySem.Spec PyProof.Rows L2
section
variable {W : Wd} {N : List Str} {k : Nat} {cl : Cll} {C : Cx} {sc : Scope}
theorem tS_for {t : Tg} {it : HP.It} {b : Ss} {D : Ends} {σ : SlotL} {H : Hp} (q : tS W (evS W.P cl (.for t it b)) D σ H) : tFor (tI W (evIt W.P cl it)) (tG W t.slots (evTg W.P cl t)) (tS W (evSs W.P cl b)) D σ H := by
  obtain ⟨φ0, e, h0, f, hz, E, R0, q, aq⟩ := q
  obtain ⟨p, h1, q1, q2⟩ := bnd_eq q
  refine ⟨φ0, e, h0, p, h1, E, R0, q1, fun φ1 H1 J x1 R1 wk => ?_⟩
  have q2 : forL p.2 (fun x e0 => (evTg W.P cl t x e0).bnd fun e1 => evSs W.P cl b e1) p.1 e h1 = .ok f hz := q2
  generalize hturn : (fun x e0 => (evTg W.P cl t x e0).bnd fun e1 => evSs W.P cl b e1) = turn at q2
  let Sv : Nat → SlotL → Hp → Prop := fun i σ H => ∃ φi hi ei, Ext φ1 φi H1 H ∧ Rel W φi hi H ∧ ERel W φi H ei σ ∧ forL p.2 turn (p.1.drop i) ei hi = .ok f hz
  refine ⟨fun i m σ H => m = p.1.length - i ∧ i ≤ p.1.length ∧ Sv i σ H, ⟨p.1.length, by simp, Nat.zero_le _, φ1, h1, e, .refl, R1, E.ext x1, q2⟩, ?_⟩
  rintro i m σ H ⟨rfl, hi, φi, hi', ei, xi, Ri, Ei, qi⟩
  by_cases hlt : i < p.1.length
  · right
    rw [List.drop_eq_getElem_cons hlt] at qi
    unfold forL at qi
    split at qi
    · rename_i hg
      obtain ⟨go, yl⟩ := (wk W.Z φi H hi' xi (fun z hz => .inl hz) Ri hg).1 i p.1[i] (List.getElem?_eq_getElem hlt)
      refine ⟨go, fun σ' H' => Sv (i + 1) σ' H', fun σ' H' st => ⟨_, by omega, rfl, hlt, st⟩, fun v H'' hy => ?_⟩
      obtain ⟨x2, R2, r2⟩ := yl v H'' hy
      obtain ⟨f1, h3, q5, q6⟩ := bnd_eq qi
      subst hturn
      obtain ⟨e1, h5, q9, q10⟩ := bnd_eq q5
      refine ⟨φi, ei, hi', p.1[i], e1, h5, Ei.ext x2, R2, r2, q9, fun φ3 H3 σ3 x3 R3 E3 K3 => ?_⟩
      have x13 := (xi.trans x2).trans x3
      refine ⟨φ3, e1, h5, f1, h3, E3, R3, q10, ?_⟩
      cases f1 with
      | nx e4 => exact fun φ4 H4 σ4 x4 R4 E4 => ⟨φ4, h3, e4, x13.trans x4, R4, E4, q6⟩
      | ct e4 => exact fun φ4 H4 σ4 x4 R4 E4 => ⟨φ4, h3, e4, x13.trans x4, R4, E4, q6⟩
      | bk e4 =>
        cases q6
        exact fun φ4 H4 σ4 x4 R4 E4 => aq φ4 H4 σ4 ((x1.trans x13).trans x4) R4 E4
      | rt y =>
        cases q6
        exact fun φ4 H4 v x4 R4 r4 => aq φ4 H4 v ((x1.trans x13).trans x4) R4 r4
    · cases qi
  · left
    have hi2 : i = p.1.length := by omega
    subst hi2
    rw [List.drop_length] at qi
    unfold forL at qi
    split at qi
    · rename_i hg
      cases qi
      exact ⟨(wk W.Z φi H _ xi (fun z hz => .inl hz) Ri hg).2 _ (Nat.le_refl _), aq φi H σ (x1.trans xi) Ri Ei⟩
    · cases qi
theorem ps_forX (ok : Okc W N k cl C) (hp : PassesOwn (model C.prog C.w) C.A C.env C.xe) {t : Tg} {it : HP.It} {b : Ss} {st : Stmt} (h : chS W.T N (.for t it b) sc st = true) (hit : GoodI W N cl C sc it) (hg : GoodG W N cl C sc sc t) (ihb : ∀ sts, chSs W.T N b sc sts = true → PSs C sts (tS W (evSs W.P cl b))) : PS C st (tS W (evS W.P cl (.for t it b))) := by
  cases st <;> first | (exact absurd h Bool.false_ne_true) | skip
  rename_i g x p r pos
  cases r <;> first | (exact absurd h Bool.false_ne_true) | skip
  have h : (chIt W.T N it sc g x && chTg W.T N t sc sc g && chSs W.T N b sc p) = true := h
  simp only [Bool.and_eq_true] at h
  exact PS.imp (ps_for hp ok.calm (hit g x h.1.1) (hg g h.1.2) (ihb p h.2) (fold_it h.1.1 C.env)) fun D σ H q => tS_for q
theorem tS_whl {c : E} {b : Ss} {D : Ends} {σ : SlotL} {H : Hp} (q : tS W (evS W.P cl (.whl c b)) D σ H) : tWhile (tB W cl c) (tS W (evSs W.P cl b)) D σ H := by
  obtain ⟨φ0, e, h0, f, hz, E, R0, q, aq⟩ := q
  have q : whlL (fun e0 => (evE W.P cl c e0).bnd truM) (fun e0 => evSs W.P cl b e0) fuel e h0 = .ok f hz := q
  generalize fuel = n at q
  refine ⟨fun m σ' H' => ∃ φi hi ei, Ext φ0 φi H H' ∧ Rel W φi hi H' ∧ ERel W φi H' ei σ' ∧ whlL (fun e0 => (evE W.P cl c e0).bnd truM) (fun e0 => evSs W.P cl b e0) m ei hi = .ok f hz, ⟨n, φ0, h0, e, .refl, R0, E, q⟩, ?_⟩
  rintro m σ' H' ⟨φi, hi, ei, xi, Ri, Ei, qi⟩
  cases m with
  | zero => cases qi
  | succ m =>
    unfold whlL at qi
    obtain ⟨t, h1, q1, q2⟩ := bnd_eq qi
    refine ⟨φi, ei, hi, t, h1, Ei, Ri, q1, fun φ1 H1 x1 R1 => ?_⟩
    cases t with
    | false =>
      rw [if_neg Bool.false_ne_true]
      cases q2
      exact aq φ1 H1 σ' (xi.trans x1) R1 (Ei.ext x1)
    | true =>
      rw [if_pos rfl]
      obtain ⟨f1, h3, q5, q6⟩ := bnd_eq q2
      refine ⟨fun σ2 H2 => ∃ φi hi ei, Ext φ0 φi H H2 ∧ Rel W φi hi H2 ∧ ERel W φi H2 ei σ2 ∧ whlL (fun e0 => (evE W.P cl c e0).bnd truM) (fun e0 => evSs W.P cl b e0) m ei hi = .ok f hz, fun σ2 H2 w => ⟨m, Nat.lt_succ_self _, w⟩, φ1, ei, h1, f1, h3, Ei.ext x1, R1, q5, ?_⟩
      cases f1 with
      | nx e4 => exact fun φ4 H4 σ4 x4 R4 E4 => ⟨φ4, h3, e4, (xi.trans x1).trans x4, R4, E4, q6⟩
      | ct e4 => exact fun φ4 H4 σ4 x4 R4 E4 => ⟨φ4, h3, e4, (xi.trans x1).trans x4, R4, E4, q6⟩
      | bk e4 =>
        cases q6
        exact fun φ4 H4 σ4 x4 R4 E4 => aq φ4 H4 σ4 ((xi.trans x1).trans x4) R4 E4
      | rt y =>
        cases q6
        exact fun φ4 H4 v x4 R4 r4 => aq φ4 H4 v ((xi.trans x1).trans x4) R4 r4
theorem ps_whlX (hp : PassesOwn (model C.prog C.w) C.A C.env C.xe) {c : E} {b : Ss} {st : Stmt} (h : chS W.T N (.whl c b) sc st = true) (ihc : ∀ y, chE W.T N c sc y = true → PT C y (tB W cl c)) (ihb : ∀ sts, chSs W.T N b sc sts = true → PSs C sts (tS W (evSs W.P cl b))) : PS C st (tS W (evS W.P cl (.whl c b))) := by
  cases st <;> first | (exact absurd h Bool.false_ne_true) | skip
  rename_i x p r pos
  cases r <;> first | (exact absurd h Bool.false_ne_true) | skip
  have h : (chE W.T N c sc x && chSs W.T N b sc p) = true := h
  simp only [Bool.and_eq_true] at h
  exact PS.imp (ps_while hp (ihc x h.1) (ihb p h.2)) fun D σ H q => tS_whl q
end
end HP

set_option Elab.async false
set_option linter.all false
set_option maxRecDepth 10000
set_option maxHeartbeats 1000000
/-! The evaluator, part 1: assignments. -/
namespace HP
open PySem PySem.Spec PyProof.Rows L2
section
variable {W : Wd} {N : List Str} {k : Nat} {cl : Cll} {C : Cx} {sc : Scope}
theorem isLoc_iff {env : Env} {x : Str} : isLoc env.scope x = (env.kindOf x == some .local) := by
  unfold isLoc Env.kindOf
  split
  · rename_i h
    rw [h]
    rfl
  · rename_i h
    symm
    rw [beq_eq_false_iff_ne]
    exact h
theorem fm_le {α β : Type} (F : α → Option β) : ∀ gs : List α, (gs.filterMap F).length ≤ gs.length
  | [] => Nat.le_refl _
  | t :: ts => by
    rw [List.filterMap_cons]
    have := fm_le F ts
    split
    · rw [List.length_cons]; omega
    · rw [List.length_cons, List.length_cons]; omega
theorem fm_lt {α β : Type} (F : α → Option β) : ∀ {gs : List α} {t : α}, t ∈ gs → F t = none → (gs.filterMap F).length < gs.length
  | t :: ts, u, hm, hn => by
    rw [List.filterMap_cons]
    rcases List.mem_cons.mp hm with rfl | hm
    · rw [hn]
      have := fm_le F ts
      simp only [List.length_cons]
      omega
    · have := fm_lt F hm hn
      split
      · rw [List.length_cons]; omega
      · rw [List.length_cons, List.length_cons]; omega
theorem sw_none {g x : Expr} {env : Env} (h : noSwap env.scope g x = true) : swappedStores [g] x env = pure none := by
  cases g <;> first | rfl | (exact absurd h Bool.false_ne_true) | skip
  rename_i gs kg pg
  cases x <;> first | rfl | skip
  rename_i xs kx px
  have h : (!(gs.length == 2 || gs.length == 3) || (gs.any fun t => match t with | .Name x _ => !isLoc env.scope x | _ => true) || xs.all (foldedForSure 8)) = true := h
  unfold swappedStores
  simp only []
  split
  · rfl
  · split
    · rfl
    · split
      · rfl
      · split
        · rfl
        · exfalso
          rename_i h1 h2 h3 h4
          simp only [Bool.or_eq_true] at h
          rcases h with (h | h) | h
          · exact h1 (by rw [h]; rfl)
          · rw [List.any_eq_true] at h
            obtain ⟨t, ht, hb⟩ := h
            refine h3 ?_
            rw [Bool.or_eq_true]
            left
            rw [bne_iff_ne]
            refine Nat.ne_of_lt (fm_lt _ ht ?_)
            cases t <;> first | rfl | skip
            rename_i y py
            have hb : (!isLoc env.scope y) = true := hb
            rw [isLoc_iff] at hb
            have hb : (env.kindOf y == some .local) = false := by simpa using hb
            simp only [hb, Bool.false_and]
            rfl
          · exact h4 h
/-- a name that the list of a comprehension is given to at its end -/
def swB (sc : Scope) (g x : Expr) : Bool := match x, g with
  | .ListComp _ _ s pos, .Name t p => isLoc sc t && (p.line == pos.line) && !(s.names.any fun (n, k) => n == t && (k == .local || k == .cell))
  | _, _ => false
theorem sw_is {g x : Expr} {env : Env} {line : Nat} (hk : env.scope.kind = .function) (hx : noSD x = true) : swapsWith x (some g) line env = pure (swB env.scope g x) := by
  have hb : env.blockKind = .function := by unfold Env.blockKind; rw [hk]; rfl
  cases x <;> first | rfl | (exact absurd hx Bool.false_ne_true) | skip
  cases g <;> first | rfl | skip
  rename_i t p
  unfold swapsWith swB
  simp only [hb, isLoc_iff]
  rfl
theorem tg_plain {t : Tg} {os : Scope} {g : Expr} (h : chTg W.T N t os sc g = true) : plainB g = true := by
  cases t <;> cases g <;> first | rfl | (exact absurd h Bool.false_ne_true)
theorem tS_asg {t : Tg} {a : E} {D : Ends} {σ : SlotL} {H : Hp} (q : tS W (evS W.P cl (.asg t a)) D σ H) : tAsg (tE W (evE W.P cl a)) (tG W t.slots (evTg W.P cl t)) D σ H := by
  obtain ⟨φ, e, h, f, h', E, R, q, aq⟩ := q
  obtain ⟨w, h1, q1, q2⟩ := bnd_eq q
  obtain ⟨e1, h2, q3, q4⟩ := bnd_eq q2
  cases q4
  exact ⟨φ, e, h, w, h1, E, R, q1, fun φ1 H1 v x1 R1 r1 => ⟨φ1, e, h1, w, e1, _, E.ext x1, R1, r1, q3, fun φ2 H2 σ2 x2 R2 E2 _ => aq φ2 H2 σ2 (x1.trans x2) R2 E2⟩⟩
theorem ps_asgX (ok : Okc W N k cl C) (hsc : C.env.scope = sc) (hk : sc.kind = .function) {t : Tg} {a : E} {st : Stmt} (h : chS W.T N (.asg t a) sc st = true) (iha : GoodE W N cl C sc a) (hg : GoodG W N cl C sc sc t)
    (hcomp : ∀ m own el t it c, a = .comp m own el t it c → GoodI W N cl C sc it ∧ GoodB W N cl C sc el t c) : PS C st (tS W (evS W.P cl (.asg t a))) := by
  cases st <;> first | (exact absurd h Bool.false_ne_true) | skip
  rename_i gs x pos
  rcases gs with _ | ⟨g, _ | _⟩ <;> first | (exact absurd h Bool.false_ne_true) | skip
  have h : (chE W.T N a sc x && chTg W.T N t sc sc g && noSwap sc g x && noSD x) = true := h
  simp only [Bool.and_eq_true] at h
  obtain ⟨⟨⟨h1, h2⟩, h3⟩, h4⟩ := h
  have hk' : C.env.scope.kind = .function := by rw [hsc]; exact hk
  have sw := fun line => sw_is (g := g) (line := line) hk' h4
  have hw := sw_none (env := C.env) (g := g) (x := x) (by rw [hsc]; exact h3)
  cases hb : swB C.env.scope g x with
  | false =>
    refine PS.imp (ps_asg (iha x h1) (hg g h2) (by show swapsWith x (some g) pos.line C.env = _; rw [sw, hb]) hw (by rw [each_plain (tg_plain h2)]; rfl)) fun D σ H q => tS_asg q
  | true =>
    have sw1 := sw pos.line
    rw [hb] at sw1
    unfold swB at hb
    split at hb
    · rename_i elt gens scope cpos y py
      have hy : C.env.scope.names.lookup y = some .local := by
        simp only [Bool.and_eq_true] at hb
        have := hb.1.1
        unfold isLoc at this
        split at this
        · assumption
        · cases this
      cases a <;> first | (exact absurd h1 Bool.false_ne_true) | skip
      rename_i m own el t' it c
      cases t <;> first | (exact absurd h2 Bool.false_ne_true) | skip
      rename_i i
      obtain ⟨hit, hbk⟩ := hcomp _ _ _ _ _ _ rfl
      obtain ⟨y', tg, ie, ifs, scope', pos', ow, ex, rfl, c1, c2, c3, c4, c5, c6⟩ := comp_parts h1
      cases ex
      have h2' : (nmAt N i y && locB sc y && (isLoc sc y || isCel sc y)) = true := h2
      simp only [Bool.and_eq_true] at h2'
      refine PS.imp (ps_setLc (i := i) ok.calm (by rw [ok.hN]; exact ok.nd) (by rw [ok.hN]; exact nmAt_of h2'.1.1) hy sw1 (hit tg ie c2) (blkOk_by (by rw [ok.hN, hsc]; exact c1)) (fun s H Cc cl' fp => PG.some (W := W) (sl := t'.slots) (m := evTg W.P cl t') fun Z => hbk.tg Z s H scope cl' Cc fp tg c3)
        (fun s H Cc cl' fp => PTs.some (W := W) (m := evC W.P cl c) fun Z => (hbk.ts Z s H scope cl' Cc fp).run ifs c4) (fun s H Cc cl' fp => PE.some (W := W) (m := evE W.P cl el) fun Z => hbk.el Z s H scope cl' Cc fp elt c5) (fold_it c2 C.env)) fun D σ H q => ?_
      obtain ⟨φ, e, h, w, h1, E, R, q1, k⟩ := tS_asg q
      refine tE_comp c6 ⟨φ, e, h, w, h1, E, R, q1, fun φ1 H1 v x1 R1 r1 => ?_⟩
      obtain ⟨φ2, e2, h2, x2, e3, h3, E2, R2, r2, q2, k2⟩ := k φ1 H1 v x1 R1 r1
      cases q2
      refine k2 φ2 H1 _ .refl R2 (E2.set r2) ⟨by simp, fun j hj => ?_⟩
      have hj : j ≠ i := fun z => hj (by rw [z]; exact List.mem_cons_self)
      rw [List.getElem?_set_ne (Ne.symm hj)]
    · cases hb
end
end HP

set_option Elab.async false
set_option linter.all false
set_option maxRecDepth 10000
set_option maxHeartbeats 1000000
/-! The evaluator, part 2: += and -=. -/
namespace HP
open PySem PySem.Spec PyProof.Rows L2
section
variable {W : Wd} {N : List Str} {k : Nat} {cl : Cll} {C : Cx} {sc : Scope}
theorem ip_augX {o : Op} {op : Operator} (ho : opB o op = true) : OpR C (inplaceOp op) (vB W (augX o)) := by
  intro pins s σ H v u vv uu Q I rv ru q
  obtain ⟨φ, h, x, y, z, h', rx, ry, R, e, a⟩ := q
  unfold augX at e
  split at e
  · cases e
    cases rx
    cases ry
    cases op <;> first | (exact absurd ho Bool.false_ne_true) | skip
    exact iop_add pins s σ H _ _ vv uu Q I rv ru ⟨_, _, rfl, rfl, a.here R rep_int⟩
  · cases e
    cases rx
    cases ry
    cases op <;> first | (exact absurd ho Bool.false_ne_true) | skip
    exact iop_sub pins s σ H _ _ vv uu Q I rv ru ⟨_, _, rfl, rfl, a.here R rep_int⟩
  · split at e
    · rename_i hz
      cases e
      cases rx
      cases ry
      cases op <;> first | (exact absurd ho Bool.false_ne_true) | skip
      exact iop_add_str pins s σ H _ _ vv uu Q I rv ru ⟨_, _, rfl, rfl, szSeq_le hz, a.here R rep_str⟩
    · cases e
  · cases e
theorem ps_augX (ok : Okc W N k cl C) (hsc : C.env.scope = sc) (hfn : ∀ x, isCel sc x = true → C.fn x = true) {i : Nat} {o : Op} {a : E} {st : Stmt} (h : chS W.T N (.aug i o a) sc st = true) (iha : GoodE W N cl C sc a) : PS C st (tS W (evS W.P cl (.aug i o a))) := by
  cases st <;> first | (exact absurd h Bool.false_ne_true) | skip
  rename_i g op x pos
  cases g <;> first | (exact absurd h Bool.false_ne_true) | skip
  rename_i y py
  have h : (nmAt N i y && locB sc y && opB o op && chE W.T N a sc x) = true := h
  simp only [Bool.and_eq_true] at h
  obtain ⟨⟨⟨h1, h2⟩, h3⟩, h4⟩ := h
  have hl := loc_of h2
  have hf : C.fn y = true ∨ C.env.scope.names.lookup y = some .local := by
    rcases hl with hl | hl
    · exact .inr (by rw [hsc]; exact hl)
    · exact .inl (hfn y (by unfold isCel; rw [hl]))
  refine PS.imp (ps_aug (by rw [ok.hN]; exact ok.nd) (by rw [ok.hN]; exact nmAt_of h1) (by rw [hsc]; exact hl) (iha x h4) (ip_augX (W := W) h3) hf) fun D σ H q => ?_
  obtain ⟨φ, e, h, f, h', E, R, q, aq⟩ := q
  obtain ⟨w, h1', q1, q2⟩ := bnd_eq q
  obtain ⟨u, h2', q3, q4⟩ := bnd_eq q2
  obtain ⟨z, h3', q5, q6⟩ := bnd_eq q4
  cases q6
  unfold getV at q1
  split at q1
  · rename_i w' hw
    cases q1
    obtain ⟨v, g1, g2⟩ := E.at_ i _ hw
    refine ⟨v, g1, φ, e, _, u, h2', E, R, q3, fun φ1 H1 v1 x1 R1 r1 => ⟨φ1, h2', w, u, z, _, g2.ext x1, r1, R1, q5, fun φ2 H2 v2 x2 R2 r2 => ?_⟩⟩
    exact aq φ2 H2 _ (x1.trans x2) R2 ((E.ext (x1.trans x2)).set r2)
  · cases q1
end
end HP

set_option Elab.async false
set_option linter.all false
set_option maxRecDepth 10000
set_option maxHeartbeats 1000000
/-! The evaluator, part 3: names stored side by side. -/
namespace HP
open PySem PySem.Spec PyProof.Rows L2
section
variable {W : Wd} {N : List Str} {k : Nat} {cl : Cll} {C : Cx} {sc : Scope}
theorem star_none {xs : List Expr} (h : xs.all plainB = true) : (xs.any fun e => match e with | .Starred .. => true | _ => false) = false := by
  induction xs with
  | nil => rfl
  | cons x xs ih =>
    obtain ⟨h1, h2⟩ := all_tail h
    rw [List.any_cons, ih h2]
    cases x <;> first | rfl | (exact absurd h1 Bool.false_ne_true)
theorem sw_pair {env : Env} {x y : Str} {px py pt pt2 : Pos} {kt k2 : Nat} {a b : Expr} (hb : env.blockKind = .function) (hx : env.kindOf x = some .local) (hy : env.kindOf y = some .local) (hl : (py.line == px.line) = true) (hxy : x ≠ y) (hp : [a, b].all plainB = true)
    (hf : [a, b].all (foldedForSure 8) = false) (hc : [a, b].all (constantsAlone 8) = false) : swappedStores [.Tuple [.Name x px, .Name y py] kt pt] (.Tuple [a, b] k2 pt2) env = pure (some [x, y]) := by
  unfold swappedStores
  have hs := star_none hp
  have hd : ([x, y].eraseDups.length != [x, y].length) = false := by
    rw [List.eraseDups_cons, show ([y].filter fun b => !b == x) = [y] by simp [Ne.symm hxy]]
    rfl
  simp only [hb, hx, hy, hf, hc, hs, List.filterMap_cons, List.filterMap_nil, beq_self_eq_true, Bool.true_and, hl, List.head?_cons, Option.map_some, Option.getD_some, Expr.pos, if_true]
  have h2 : [x, y].eraseDups.length = 2 := by simpa using hd
  have no : ∀ {e : Expr}, plainB e = true → (match e with | .Starred .. => true | _ => false) = false := fun {e} h => by cases e <;> first | rfl | (exact absurd h Bool.false_ne_true)
  obtain ⟨p1, p2⟩ := all_tail hp
  have n1 := no p1
  have n2 := no (all_tail p2).1
  simp [h2]
  intro z
  exfalso
  rcases z with z | z
  · cases a <;> first | (exact absurd p1 Bool.false_ne_true) | (exact nomatch z)
  · have p3 := (all_tail p2).1
    cases b <;> first | (exact absurd p3 Bool.false_ne_true) | (exact nomatch z)
theorem sw_three {env : Env} {x y z : Str} {px py pz pt pt2 : Pos} {kt k2 : Nat} {a b c : Expr} (hb : env.blockKind = .function) (hx : env.kindOf x = some .local) (hy : env.kindOf y = some .local) (hz : env.kindOf z = some .local) (hl : (py.line == px.line) = true) (hl2 : (pz.line == px.line) = true)
    (hxy : x ≠ y) (hxz : x ≠ z) (hyz : y ≠ z) (hp : [a, b, c].all plainB = true) (hf : [a, b, c].all (foldedForSure 8) = false) (hc : [a, b, c].all (constantsAlone 8) = false) :
    swappedStores [.Tuple [.Name x px, .Name y py, .Name z pz] kt pt] (.Tuple [a, b, c] k2 pt2) env = pure (some [x, y, z]) := by
  unfold swappedStores
  have hd : ([x, y, z].eraseDups.length != [x, y, z].length) = false := by
    rw [List.eraseDups_cons, show ([y, z].filter fun b => !b == x) = [y, z] by simp [Ne.symm hxy, Ne.symm hxz], List.eraseDups_cons, show ([z].filter fun b => !b == y) = [z] by simp [Ne.symm hyz]]
    rfl
  simp only [hb, hx, hy, hz, hf, hc, List.filterMap_cons, List.filterMap_nil, beq_self_eq_true, Bool.true_and, hl, hl2, List.head?_cons, Option.map_some, Option.getD_some, Expr.pos, if_true]
  simp [hd]
  have h2 : [x, y, z].eraseDups.length = 3 := by simpa using hd
  obtain ⟨p1, p2⟩ := all_tail hp
  obtain ⟨p3, p4⟩ := all_tail p2
  have p5 := (all_tail p4).1
  simp [h2]
  intro q
  exfalso
  rcases q with q | q | q
  · cases a <;> first | (exact absurd p1 Bool.false_ne_true) | (exact nomatch q)
  · cases b <;> first | (exact absurd p3 Bool.false_ne_true) | (exact nomatch q)
  · cases c <;> first | (exact absurd p5 Bool.false_ne_true) | (exact nomatch q)
theorem loc_is {env : Env} {x : Str} (h : isLoc env.scope x = true) : env.kindOf x = some .local := by
  rw [isLoc_iff] at h
  exact eq_of_beq h
theorem setA_len : ∀ {e e1 : Env'} {is : List Nat} {xs : List X}, setA e is xs = some e1 → xs.length = is.length
  | _, _, [], [], _ => rfl
  | _, _, [], _ :: _, h => by cases h
  | _, _, _ :: _, [], h => by cases h
  | e, e1, i :: is, x :: xs, h => by
    unfold setA at h
    rw [Option.map_eq_some_iff] at h
    obtain ⟨e2, h2, _⟩ := h
    rw [List.length_cons, List.length_cons, setA_len h2]
theorem ps_parX (ok : Okc W N k cl C) (hsc : C.env.scope = sc) (hk : sc.kind = .function) {is : List Nat} {es : Es} {st : Stmt} (h : chS W.T N (.par is es) sc st = true) (ihs : ∀ xs, chEs W.T N es sc xs = true → PA C xs (tL W (evEs W.P cl es))) : PS C st (tS W (evS W.P cl (.par is es))) := by
  cases st <;> first | (exact absurd h Bool.false_ne_true) | skip
  rename_i tgs x pos
  rcases tgs with _ | ⟨g, r⟩ <;> first | (exact absurd h Bool.false_ne_true) | skip
  cases g <;> first | (exact absurd h Bool.false_ne_true) | skip
  rename_i gs kg pg
  cases r <;> first | (exact absurd h Bool.false_ne_true) | skip
  cases x <;> first | (exact absurd h Bool.false_ne_true) | skip
  rename_i xs kx px
  have h : (chEs W.T N es sc xs && parB N sc (headLine gs) is gs && (decide (is.length = 2) || decide (is.length = 3)) && decide is.Nodup && !(xs.all (foldedForSure 8)) && !(xs.all (constantsAlone 8))) = true := h
  simp only [Bool.and_eq_true, Bool.or_eq_true, decide_eq_true_eq, Bool.not_eq_true'] at h
  obtain ⟨⟨⟨⟨⟨h1, h2⟩, h3⟩, h4⟩, h5⟩, h6⟩ := h
  have hp := chEs_all h1
  have pa := ihs xs h1
  have hb : C.env.blockKind = .function := by unfold Env.blockKind; rw [hsc, hk]; rfl
  have nN : C.N.Nodup := by rw [ok.hN]; exact ok.nd
  have nm : ∀ {i : Nat} {y : Str}, nmAt N i y = true → C.N[i]? = some y := fun h => by rw [ok.hN]; exact nmAt_of h
  have lc : ∀ {y : Str}, isLoc sc y = true → C.env.kindOf y = some .local := fun h => loc_is (by rw [hsc]; exact h)
  have dif : ∀ {i j : Nat} {x y : Str}, i ≠ j → nmAt N i x = true → nmAt N j y = true → x ≠ y := fun {i j x y} hij h1 h2 e => by
    subst e
    obtain ⟨l1, q1⟩ := List.getElem?_eq_some_iff.mp (nmAt_of h1)
    obtain ⟨l2, q2⟩ := List.getElem?_eq_some_iff.mp (nmAt_of h2)
    exact hij ((List.getElem_inj ok.nd).mp (q1.trans q2.symm))
  have len : ∀ {D σ H}, tS W (evS W.P cl (.par is es)) D σ H → xs.length = is.length := fun {D σ H} q => by
    obtain ⟨φ, e, h, f, h', E, R, q, aq⟩ := q
    obtain ⟨ws, h1', q1, q2⟩ := bnd_eq q
    rw [chEs_len h1 q1]
    split at q2
    · rename_i e1 he
      exact setA_len he
    · cases q2
  have go : ∀ {D σ H}, tS W (evS W.P cl (.par is es)) D σ H → tL W (evEs W.P cl es) σ H fun vs H1 => ∃ φ e h ws e1 h', ERel W φ H1 e σ ∧ Rel W φ h' H1 ∧ Reps W φ H1 ws vs ∧ setA e is ws = some e1 ∧ FlOk W φ H1 (.nx e1) h' D ∧ h = h' := fun {D σ H} q => by
    obtain ⟨φ, e, h, f, h', E, R, q, aq⟩ := q
    obtain ⟨ws, h1', q1, q2⟩ := bnd_eq q
    split at q2
    · rename_i e1 he
      cases q2
      exact ⟨φ, e, h, ws, _, E, R, q1, fun φ1 H1 vs x1 R1 r1 => ⟨φ1, e, _, ws, e1, _, E.ext x1, R1, r1, he, aq.ext x1, rfl⟩⟩
    · cases q2
  have two : ∀ {n : Nat} {is : List Nat} {gs : List Expr}, parB N sc n is gs = true → ∀ i r, is = i :: r → ∃ y p ts, gs = .Name y p :: ts ∧ nmAt N i y = true ∧ isLoc sc y = true ∧ (p.line == n) = true ∧ parB N sc n r ts = true := fun {n is gs} h i r e => by
    subst e
    cases gs with
    | nil => exact absurd h Bool.false_ne_true
    | cons g ts =>
      cases g <;> first | (exact absurd h Bool.false_ne_true) | skip
      rename_i y p
      have h : (nmAt N i y && isLoc sc y && (p.line == n) && parB N sc n r ts) = true := h
      simp only [Bool.and_eq_true] at h
      exact ⟨y, p, ts, rfl, h.1.1.1, h.1.1.2, h.1.2, h.2⟩
  have fin : ∀ {n : Nat} {gs : List Expr}, parB N sc n [] gs = true → gs = [] := fun {n gs} h => by
    cases gs with
    | nil => rfl
    | cons _ _ => exact absurd h Bool.false_ne_true
  have lx : ∀ {y : Str}, isLoc sc y = true → C.env.scope.names.lookup y = some .local := fun h => lc h
  rcases is with _ | ⟨i, _ | ⟨j, _ | ⟨l, _ | ⟨_, _⟩⟩⟩⟩
  · simp at h3
  · simp at h3
  · obtain ⟨y1, p1, t1, rfl, a1, a2, a3, a4⟩ := two h2 _ _ rfl
    obtain ⟨y2, p2, t2, rfl, b1, b2, b3, b4⟩ := two a4 _ _ rfl
    obtain rfl := fin b4
    have hij : i ≠ j := fun z => by subst z; simp at h4
    by_cases hlen : xs.length = 2
    · rcases xs with _ | ⟨u, _ | ⟨v, _ | ⟨_, _⟩⟩⟩ <;> first | (simp at hlen; done) | skip
      refine PS.imp (ps_par ok.calm nN (nm a1) (nm b1) hij (lx a2) (lx b2) pa (sw_pair hb (lc a2) (lc b2) b3 (dif hij a1 b1) hp h5 h6) rfl) fun D σ H q => ?_
      refine tL_mono (go q) ?_
      rintro vs H1 ⟨φ, e, h, ws, e1, h', E, R, r, he, k, rfl⟩
      have hw := setA_len he
      rcases ws with _ | ⟨w1, _ | ⟨w2, _ | ⟨_, _⟩⟩⟩ <;> first | (simp at hw; done) | skip
      obtain ⟨v1, v2, rfl, r1, r2⟩ := reps2 r
      cases he
      refine ⟨v1, v2, rfl, ?_⟩
      rw [List.set_comm _ _ hij]
      exact k φ H1 _ .refl R ((E.set r2).set r1)
    · exact ⟨fun pins s σ H D I q => absurd (len q) hlen⟩
  · obtain ⟨y1, p1, t1, rfl, a1, a2, a3, a4⟩ := two h2 _ _ rfl
    obtain ⟨y2, p2, t2, rfl, b1, b2, b3, b4⟩ := two a4 _ _ rfl
    obtain ⟨y3, p3, t3, rfl, c1, c2, c3, c4⟩ := two b4 _ _ rfl
    obtain rfl := fin c4
    have hij : i ≠ j := fun z => by subst z; simp at h4
    have hil : i ≠ l := fun z => by subst z; simp at h4
    have hjl : j ≠ l := fun z => by subst z; simp at h4
    by_cases hlen : xs.length = 3
    · rcases xs with _ | ⟨u, _ | ⟨v, _ | ⟨w, _ | ⟨_, _⟩⟩⟩⟩ <;> first | (simp at hlen; done) | skip
      refine PS.imp (ps_par3 ok.calm nN (nm a1) (nm b1) (nm c1) hij hil hjl (lx a2) (lx b2) (lx c2) pa (sw_three hb (lc a2) (lc b2) (lc c2) b3 c3 (dif hij a1 b1) (dif hil a1 c1) (dif hjl b1 c1) hp h5 h6) rfl) fun D σ H q => ?_
      refine tL_mono (go q) ?_
      rintro vs H1 ⟨φ, e, h, ws, e1, h', E, R, r, he, k, rfl⟩
      have hw := setA_len he
      rcases ws with _ | ⟨w1, _ | ⟨w2, _ | ⟨w3, _ | ⟨_, _⟩⟩⟩⟩ <;> first | (simp at hw; done) | skip
      obtain ⟨v1, s1, rfl, r1, rr⟩ := r
      obtain ⟨v2, v3, rfl, r2, r3⟩ := reps2 rr
      cases he
      refine ⟨v1, v2, v3, rfl, ?_⟩
      have fin := k φ H1 _ .refl R (((E.set r3).set r2).set r1)
      have ec : ((σ.set l (some v3)).set j (some v2)).set i (some v1) = ((σ.set i (some v1)).set j (some v2)).set l (some v3) := by
        rw [List.set_comm _ _ (Ne.symm hjl), List.set_comm _ _ (Ne.symm hil), List.set_comm _ _ (Ne.symm hij)]
      rw [← ec]
      exact fin
    · exact ⟨fun pins s σ H D I q => absurd (len q) hlen⟩
  · simp at h3
end
end HP

set_option Elab.async false
set_option linter.all false
set_option maxRecDepth 10000
set_option maxHeartbeats 1000000
/-! The evaluator, part 3L: lambdas, defs as values, classes called by keywords. -/
namespace HP
open PySem PySem.Spec PyProof.Rows L2
/-- more is tracked, a table grows -/
theorem inv_more {X : Cx} {pins : List (Addr × Obj)} {σ : SlotL} {H H' : Hp} {s : Shared} {h' : Heap} {t' : Nat} (I : L2.Inv X pins σ H s)
    (k : ∀ b o, (∀ ps, H b ≠ some (.tbl ps)) → s.heap.get? b = some o → h'.get? b = some o)
    (same : ∀ b u, H b = some u → (∀ ps, u ≠ .tbl ps) → H' b = some u)
    (tb : ∀ b ps, H b = some (.tbl ps) → ∃ more, H' b = some (.tbl (ps ++ more)) ∧ h'.get? b = some { cls := .none, data := .fields (ps ++ more) })
    (new : ∀ b u, H b = none → H' b = some u → s.heap.objs.size ≤ b ∧ ObjOk X.prog X.w H' h' b u) : L2.Inv X pins σ H' { s with heap := h', toks := t' } := by
  have nt : ∀ {b}, H b = none → ∀ ps, H b ≠ some (.tbl ps) := fun n ps z => by rw [n] at z; cases z
  have gone : ∀ b o, s.heap.get? b = some o → H b = none → H' b = none := fun b o e n => by
    cases q : H' b with
    | none => rfl
    | some u => exact absurd (Heap.lt_size e) (Nat.not_lt.mpr (new b u n q).1)
  refine I.step (g' := s.gens) (d' := s.drawn) (ch := []) (fun b hb => absurd hb (by simp)) (fun b o _ _ _ e n => k b o (nt n) e) (fun b o _ _ _ e n => ⟨o.slots, k b o (nt n) e⟩) (fun b o _ e n => gone b o e n) (fun b o _ e => ?_)
    (fun b xs e => same b _ e fun _ z => nomatch z) (fun b o u e => same b _ e fun _ z => nomatch z) (fun b ps e => let ⟨m, q, _⟩ := tb b ps e; ⟨m, q⟩) (fun m hn => ?_) (fun b u e => ?_) I.bare
  · by_cases hb : ∃ ps, H b = some (.tbl ps)
    · obtain ⟨ps, hb⟩ := hb
      obtain ⟨m, _, q⟩ := tb b ps hb
      exact ⟨_, q⟩
    · exact ⟨o, k b o (fun ps z => hb ⟨ps, z⟩) e⟩
  · obtain ⟨ob, es, ep, ho, r⟩ := hn
    exact ⟨ob, es, ep, k _ ob (nt I.free) ho, r⟩
  · cases hb : H b with
    | none => exact (new b u hb e).2
    | some u0 =>
      by_cases ht : ∃ ps, u0 = .tbl ps
      · obtain ⟨ps, rfl⟩ := ht
        obtain ⟨m, q, r⟩ := tb b ps hb
        rw [q] at e
        cases e
        exact r
      · have q := same b u0 hb fun ps z => ht ⟨ps, z⟩
        rw [q] at e
        cases e
        refine (I.hok b u hb).stay (fun d v hd r => k d v (fun ps z => ?_) r) (fun d r => same d _ r fun _ z => nomatch z) fun d xs r => same d _ r fun _ z => nomatch z
        rcases hd with rfl | hd
        · rw [hb] at z
          exact ht ⟨ps, Option.some.inj z⟩
        · rw [hd] at z
          cases z
theorem clo_nil {cells : List (Str × Addr)} : ∀ {ns : List (Str × NameKind)} {acc : List (Str × Addr)}, (∀ y ∈ ns, y.2 ≠ .free) → cloFrom cells ns acc = acc
  | [], _, _ => rfl
  | (n, k) :: r, acc, h => by
    unfold cloFrom
    have h1 : (k == NameKind.free) = false := by
      rw [beq_eq_false_iff_ne]
      exact h (n, k) List.mem_cons_self
    rw [h1]
    exact clo_nil fun y hy => h y (List.mem_cons_of_mem _ hy)
section
variable {W : Wd} {N : List Str} {k : Nat} {cl : Cll} {C : Cx} {sc : Scope} {x : Expr}
/-- a lambda is made -/
theorem lam_own {pins : List (Addr × Obj)} {σ : SlotL} {H : Hp} {s : Shared} {c P : Addr} {f : Nat} {ps : Array Value} {params : Arguments} {body : Expr} {scope : Scope} {pos : Pos} {E : Value → Shared → Prop} {Q : Value → Shared → Prop} (I : L2.Inv C pins σ H s) (TB : LamX.TabB C.base C.mg c P) (hcode : C.env.code = .ref c)
    (hP : H P = some (.tbl ps)) (ht : TriplesOk ps.toList) (ha : ∀ (pos : Pos) (cv : Value), codeAmong pos ps.toList = some cv → ∃ c', cv = .ref c' ∧ H c' = some (LamX.CodeO c' (C.env.qual ++ "<lambda>")))
    (hdef : defaultsOf params C.env = ([], [])) (hfree : ∀ y ∈ scope.names, y.2 ≠ .free) (hlam : lamB W.T f params scope body = true)
    (h : ∀ (fA c' : Addr) (H2 : Hp) (ps2 : Array Value) (s' : Shared), L2.Inv C pins σ H2 s' → (∀ a o, a ≠ P → H a = some o → H2 a = some o) → H2 P = some (.tbl ps2) → TriplesOk ps2.toList →
      (∀ (pos : Pos) (cv : Value), codeAmong pos ps2.toList = some cv → codeAmong pos ps.toList = some cv ∨ cv = .ref c') → (H c' = none ∨ ∃ pos, codeAmong pos ps.toList = some (.ref c')) → H2 c' = some (LamX.CodeO c' (C.env.qual ++ "<lambda>")) → H fA = none → H2 fA = some (LamO W f fA c' (C.env.qual ++ "<lambda>")) → Q (.ref fA) s') :
    wpAny (model C.prog C.w) C.A (eval (.Lambda params body scope pos) C.env) Q E s := by
  refine PySem.W.kla_eval hdef ?_
  have bP : s.heap.BuiltinsAt C.mg P := TB.bm.keeps I.bk
  have hP' : s.heap.get? P = some { cls := .none, data := .fields ps } := I.hok P _ hP
  have hcl : closureFor scope C.env = pure [] := by
    rw [closure_ok fun y hy e => absurd e (hfree y hy), clo_nil hfree]
  have notP : ∀ b, (∀ qs, H b ≠ some (.tbl qs)) → b ≠ P := fun b n z => n ps (by rw [z]; exact hP)
  cases hc : codeAmong pos ps.toList with
  | none =>
    refine PySem.W.kla_makeFunction (mg := C.mg) (c := c) (P := P) (ps := ps) hcl I.ok.glob (I.mod.glob.keeps I.bk) hcode (TB.code.keeps I.bk) hP' ht hc TB.gP bP fun c' ctv h' tk hx hge hlt hrec htb => ?_
    obtain ⟨c2, oc, vs, t, e2, hoc, hd, hv⟩ := hrec
    cases e2
    have hsz : s.heap.objs.size ≤ h'.objs.size := Nat.le_trans hge (Nat.le_of_lt hlt)
    have nC : H c' = none := I.hok.fresh hge
    have nF : H h'.objs.size = none := I.hok.fresh hsz
    have neFC : h'.objs.size ≠ c' := Nat.ne_of_gt hlt
    have nePC : P ≠ c' := ne_of_none hP nC
    have nePF : P ≠ h'.objs.size := ne_of_none hP nF
    have at_ : ∀ b, b ≠ P → b ≠ c' → b ≠ h'.objs.size → upd (upd (upd H P (.tbl (ps ++ #[rawInt pos.line, rawInt pos.col, .ref c']))) c' (LamX.CodeO c' (C.env.qual ++ "<lambda>"))) h'.objs.size (LamO W f h'.objs.size c' (C.env.qual ++ "<lambda>")) b = H b := fun b h1 h2 h3 => by rw [upd_ne h3, upd_ne h2, upd_ne h1]
    have atP : upd (upd (upd H P (.tbl (ps ++ #[rawInt pos.line, rawInt pos.col, .ref c']))) c' (LamX.CodeO c' (C.env.qual ++ "<lambda>"))) h'.objs.size (LamO W f h'.objs.size c' (C.env.qual ++ "<lambda>")) P = some (.tbl (ps ++ #[rawInt pos.line, rawInt pos.col, .ref c'])) := by rw [upd_ne nePF, upd_ne nePC, upd_same]
    have got : ∀ b u, H b = some u → b ≠ P → upd (upd (upd H P (.tbl (ps ++ #[rawInt pos.line, rawInt pos.col, .ref c']))) c' (LamX.CodeO c' (C.env.qual ++ "<lambda>"))) h'.objs.size (LamO W f h'.objs.size c' (C.env.qual ++ "<lambda>")) b = some u := fun b u e n => by rw [at_ b n (ne_of_none e nC) (ne_of_none e nF)]; exact e
    have eL : (ps ++ #[rawInt pos.line, rawInt pos.col, .ref c']).toList = ps.toList ++ [rawInt pos.line, rawInt pos.col, .ref c'] := by simp
    refine h h'.objs.size c' _ _ _ (inv_more (t' := tk) (h' := h'.push (PySem.W.kla_obj "<lambda>" (C.env.qual ++ "<lambda>") params body scope [] ((C.mg "__name__").getD .none) c' ctv)) I ?_ ?_ ?_ ?_) (fun a o n e => got a o e n) atP (by rw [eL]; exact PySem.TriplesOk_snoc _ _ _ _ ht) (fun p' cv hcv => by rw [eL] at hcv; exact LamX.among_app _ ht hcv) (.inl nC) (by rw [upd_ne (Ne.symm neFC), upd_same]) nF upd_same
    · exact fun b o n e => Heap.get?_push_of_some _ (hx b o (notP b n) e)
    · exact fun b u e n => got b u e fun z => n ps (Option.some.inj (e.symm.trans (by rw [z]; exact hP)))
    · intro b qs e
      by_cases hb : b = P
      · subst hb
        rw [hP] at e
        cases e
        exact ⟨_, atP, Heap.get?_push_of_some _ htb⟩
      · exact ⟨#[], by rw [Array.append_empty]; exact got b _ e hb, by rw [Array.append_empty]; exact Heap.get?_push_of_some _ (hx b _ hb (I.hok b _ e))⟩
    · intro b u n e
      by_cases h1 : b = h'.objs.size
      · subst h1
        rw [upd_same] at e
        cases e
        have g := Heap.get?_push_size h' (o := PySem.W.kla_obj "<lambda>" (C.env.qual ++ "<lambda>") params body scope [] ((C.mg "__name__").getD .none) c' ctv) rfl
        exact ⟨hsz, ⟨params, body, scope, _, _, g, hlam⟩, ⟨_, g⟩, fun h1 h2 ⟨p, b, sc, pm, ct, e1, e2⟩ st => ⟨p, b, sc, pm, ct, st _ e1, e2⟩⟩
      · by_cases h2 : b = c'
        · subst h2
          rw [upd_ne h1, upd_same] at e
          cases e
          exact ⟨hge, ⟨oc, vs, t, Heap.get?_push_of_some _ hoc, hd, hv⟩, ⟨oc, Heap.get?_push_of_some _ hoc⟩, fun h1 h2 ⟨oc, vs, t, a, b, c⟩ st => ⟨oc, vs, t, st _ a, b, c⟩⟩
        · have h3 : b ≠ P := fun z => by rw [z, hP] at n; cases n
          rw [at_ b h3 h2 h1, n] at e
          cases e
  | some cv =>
    obtain ⟨c', e, hco⟩ := ha pos cv hc
    subst e
    refine PySem.W.kla_makeFunctionHit (mg := C.mg) (c := c) (P := P) (ps := ps) hcl I.ok.glob (I.mod.glob.keeps I.bk) hcode (TB.code.keeps I.bk) hP' ht hc bP fun ctv h' tk hx hsz => ?_
    have nF : H h'.objs.size = none := I.hok.fresh hsz
    refine h h'.objs.size c' (upd H h'.objs.size (LamO W f h'.objs.size c' (C.env.qual ++ "<lambda>"))) ps _ (inv_more (t' := tk) (h' := h'.push (PySem.W.kla_obj "<lambda>" (C.env.qual ++ "<lambda>") params body scope [] ((C.mg "__name__").getD .none) c' ctv)) I ?_ ?_ ?_ ?_) (fun a o _ e => by rw [upd_ne (ne_of_none e nF)]; exact e) (by rw [upd_ne (ne_of_none hP nF)]; exact hP) ht (fun _ _ e => .inl e) (.inr ⟨pos, hc⟩) (by rw [upd_ne (ne_of_none hco nF)]; exact hco) nF upd_same
    · exact fun b o _ e => Heap.get?_push_of_some _ (hx b o e)
    · exact fun b u e _ => by rw [upd_ne (ne_of_none e nF)]; exact e
    · exact fun b qs e => ⟨#[], by rw [upd_ne (ne_of_none e nF), Array.append_empty]; exact e, by rw [Array.append_empty]; exact Heap.get?_push_of_some _ (hx b _ (I.hok b _ e))⟩
    · intro b u n e
      by_cases h1 : b = h'.objs.size
      · subst h1
        rw [upd_same] at e
        cases e
        have g := Heap.get?_push_size h' (o := PySem.W.kla_obj "<lambda>" (C.env.qual ++ "<lambda>") params body scope [] ((C.mg "__name__").getD .none) c' ctv) rfl
        exact ⟨hsz, ⟨params, body, scope, _, _, g, hlam⟩, ⟨_, g⟩, fun h1 h2 ⟨p, b, sc, pm, ct, e1, e2⟩ st => ⟨p, b, sc, pm, ct, st _ e1, e2⟩⟩
      · rw [upd_ne h1, n] at e
        cases e
theorem lamB_parts {T : Tb} {f : Nat} {ps : Arguments} {sc : Scope} {body : Expr} (h : lamB T f ps sc body = true) : ∃ fl xs n pos, T.lamF f = some fl ∧ body = .Tuple xs n pos ∧ lamP ps = true ∧ HP.lamS sc = true ∧ flB T.fld fl xs = true := by
  cases body <;> first | (exact absurd h Bool.false_ne_true) | skip
  rename_i xs n pos
  have h : (match T.lamF f with | some fl => lamP ps && HP.lamS sc && flB T.fld fl xs | none => false) = true := h
  cases hf : T.lamF f with
  | none => rw [hf] at h; cases h
  | some fl =>
    rw [hf] at h
    simp only [Bool.and_eq_true] at h
    exact ⟨fl, xs, n, pos, rfl, rfl, h.1.1, h.1.2, h.2⟩
theorem lamP_parts {ps : Arguments} (h : lamP ps = true) : ∃ a, ps = ⟨[], [a], none, [], [], none, []⟩ ∧ a.arg = "one" := by
  unfold lamP at h
  split at h
  · rename_i a
    exact ⟨a, rfl, of_decide_eq_true h⟩
  · cases h
theorem lamS_parts {sc : Scope} (h : HP.lamS sc = true) : sc.kind = .function ∧ sc.isCoroutine = false ∧ sc.isGenerator = false ∧ sc.names.lookup ("one" : Str) = some .local ∧ ∀ y ∈ sc.names, y.2 ≠ .free ∧ y.2 ≠ .cell := by
  unfold HP.lamS at h
  simp only [Bool.and_eq_true, Bool.not_eq_true', decide_eq_true_eq, decide_eq_false_iff_not, List.all_eq_true] at h
  obtain ⟨⟨⟨⟨h1, h2⟩, h3⟩, h4⟩, h5⟩ := h
  refine ⟨h1, h2, h3, ?_, h5⟩
  unfold isLoc at h4
  split at h4
  · assumption
  · cases h4
theorem pe_lamX (ok : Okc W N k cl C) {f : Nat} (h : chE W.T N (.lam f) sc x = true) : PE C x (tE W (evE W.P cl (.lam f))) := by
  cases x <;> first | (exact absurd h Bool.false_ne_true) | skip
  rename_i params body scope pos
  have h : (decide (N = W.T.lamN) && lamB W.T f params scope body) = true := h
  simp only [Bool.and_eq_true, decide_eq_true_eq] at h
  obtain ⟨hN, hb⟩ := h
  obtain ⟨c, P, hcode, TB, htab⟩ := ok.lam hN
  obtain ⟨fl, xs, n, p, _, _, hp, hs, _⟩ := lamB_parts hb
  obtain ⟨ar, rfl, _⟩ := lamP_parts hp
  obtain ⟨_, _, _, _, hfr⟩ := lamS_parts hs
  refine ⟨fun pins s σ H Q I q => ?_⟩
  obtain ⟨φ, e, hq, z, h', E, R, q, a⟩ := q
  have q : (match hq[0]? with | some O.tbl => .ok (.lam f) hq | _ => .bad) = HP.R.ok z h' := q
  split at q
  · rename_i h0
    cases q
    obtain ⟨P', e1, ps, e2, e3, e4⟩ := R.at_ 0 _ h0
    have e5 := R.tb P _ htab
    rw [e1] at e5
    cases e5
    have mP : P ∈ φ := List.mem_of_getElem? e1
    refine lam_own I TB hcode e2 e3 (fun pos cv k => ?_) rfl (fun y hy => (hfr y hy).1) hb fun fA c' H2 ps2 s' I2 p1 p2 p3 p4 p5 p6 p7 p8 => ?_
    · obtain ⟨c, P2, q2, e6, e7, e8, e9⟩ := e4 pos cv k
      rw [htab] at e7
      cases e7
      exact ⟨c, e6, e9⟩
    · have ne : ∀ {a o}, a ∉ φ → H a = some o → H2 a = some o := fun {a o} n e => p1 a o (fun z => n (z ▸ mP)) e
      have x2 : Ext φ φ H H2 := ⟨List.prefix_refl _, fun _ h k => absurd h k, fun a o n e => ne n e⟩
      have offc : Off W φ c' := by
        rcases p5 with p5 | ⟨pos, p5⟩
        · exact R.off p5
        · obtain ⟨c, P2, q2, e6, e7, e8, e9⟩ := e4 pos _ p5
          cases e6
          exact e8
      have R2 : Rel W φ hq H2 := by
        refine ⟨R.len, R.nd, fun z hz => ⟨?_, (R.zz z hz).2⟩, fun l o ho => ?_, R.tb⟩
        · cases hH : H z with
          | none => exact absurd hH (R.zz z hz).1
          | some u => rw [ne (R.zz z hz).2 hH]; simp
        · obtain ⟨a, f1, f2⟩ := R.at_ l o ho
          by_cases haP : a = P
          · subst haP
            have hl : l = 0 := by
              obtain ⟨l1, q1⟩ := List.getElem?_eq_some_iff.mp f1
              obtain ⟨l2, q2⟩ := List.getElem?_eq_some_iff.mp e1
              exact (List.getElem_inj R.nd).mp (q1.trans q2.symm)
            subst hl
            rw [h0] at ho
            cases ho
            refine ⟨a, f1, ps2, p2, p3, fun pos cv k => ?_⟩
            rcases p4 pos cv k with k | k
            · obtain ⟨c, P2, q2, e6, e7, e8, e9⟩ := e4 pos cv k
              exact ⟨c, P2, q2, e6, e7, e8, ne e8.1 e9⟩
            · exact ⟨c', a, _, k, htab, offc, p6⟩
          · refine ⟨a, f1, ?_⟩
            cases hH : H a with
            | none => exact absurd hH (f2.there)
            | some u =>
              rw [p1 a u haP hH, ← hH]
              exact f2.ext x2
      exact ⟨.ref fA, H2, I2, rfl, a φ H2 _ x2 R2 ⟨fA, rfl, c', _, ⟨R.off p7, p8⟩, offc, p6⟩⟩
  · cases q
theorem pe_fnvX (ok : Okc W N k cl C) (hsc : C.env.scope = sc) {f : Nat} (h : chE W.T N (.fnv f) sc x = true) : PE C x (tE W (evE W.P cl (.fnv f))) := by
  cases x <;> first | (exact absurd h Bool.false_ne_true) | skip
  obtain ⟨e1, e2, e3, e4⟩ := isGlo_of (nm := W.T.fn f) h hsc
  have hm := ok.facts.fn f (by rw [e1]; exact e4)
  rw [e1] at hm
  exact PE.imp (pe_glob e2 hm (v := .ref (W.fa f)) rfl e3) fun σ H Q q => tE_at (fun _ _ => by unfold Rep; rfl) q
/-- x(e, ..), x a name -/
theorem pe_appX (ok : Okc W N k cl C) (hsc : C.env.scope = sc) {i : Nat} {es : Es} (h : chE W.T N (.app i es) sc x = true) (ihs : ∀ xs, chEs W.T N es sc xs = true → PA C xs (tL W (evEs W.P cl es))) : PE C x (tE W (evE W.P cl (.app i es))) := by
  cases x <;> first | (exact absurd h Bool.false_ne_true) | skip
  rename_i fx xs kws p
  cases fx <;> first | (exact absurd h Bool.false_ne_true) | skip
  cases kws <;> first | (exact absurd h Bool.false_ne_true) | skip
  rename_i y p2
  have h : (nmAt N i y && visB sc y && okNm y && chEs W.T N es sc xs && !xs.isEmpty) = true := by
    rcases xs with _ | ⟨_, _ | ⟨_, _ | _⟩⟩ <;> exact h
  unfold okNm at h
  simp only [Bool.and_eq_true, Bool.not_eq_true'] at h
  obtain ⟨⟨⟨⟨h1, h2⟩, h3, h4⟩, h5⟩, h6⟩ := h
  refine ⟨fun pins s σ H Q I q => ?_⟩
  obtain ⟨φ, e, hq, z, h', E, R, q, aq⟩ := q
  obtain ⟨g, hq1, q1, q2⟩ := bnd_eq q
  unfold getV at q1
  split at q1
  · rename_i g hg
    cases q1
    obtain ⟨v, g1, g2⟩ := E.at_ i _ hg
    obtain ⟨zs, h2', q3, q4⟩ := bnd_eq q2
    cases xs with
    | nil => cases h6
    | cons y0 ys =>
    obtain ⟨hp1, hp2⟩ := all_tail (chEs_all h5)
    refine wpAny_Call_Name_kw (thn ((pe_var (pos := p2) (by rw [ok.hN]; exact nmAt_of h1) (by rw [hsc]; exact vis_of h2) h3 h4).run pins s σ H (fun v1 H1 => v1 = v ∧ H1 = H) I ⟨v, g1, rfl, rfl⟩) fun u s1 ⟨v1, H1, I1, r1, e1, e2⟩ => ?_)
    subst e1
    subst e2
    split at q4
    · rename_i f
      cases g2
      obtain rfl : u = Value.ref (W.fa f) := r1
      have hfn : ∃ fd, W.P.fn f = some fd := by
        cases hf : W.P.fn f with
        | none => rw [ok.clno f _ _ hf] at q4; cases q4
        | some fd => exact ⟨fd, rfl⟩
      obtain ⟨fd, hfd⟩ := hfn
      refine with_K (call_fnX ok hfd) (by rw [ok.hK]; exact ok.facts.keep f fd hfd) h5 (ihs _ h5) p pins s1 σ H1 Q I1 ?_
      exact ⟨φ, e, hq, zs, h2', E, R, q3, fun φ' H' vs x' R' r => ⟨W.Z, φ', h2', zs, z, h', r, R', q4, fun φ2 H2 w x2 R2 r2 => aq φ2 H2 w (x'.trans x2) R2 r2⟩⟩
    · rename_i f
      obtain ⟨a, rfl, c, qn, ha, hc⟩ := g2
      obtain rfl : u = Value.ref a := r1
      obtain ⟨⟨pr, bd, sc0, pm, ctv, hobj, hlb⟩, _, _⟩ := I1.hok a _ ha.2
      obtain ⟨fl, _, _, _, hfl, _⟩ := lamB_parts hlb
      refine PySem.W.callWith_F ⟨_, _, _, _, hobj⟩ (thn ((ihs _ h5).run p pins s1 σ H1 (fun vs H2 => ∃ φ2, Ext φ φ2 H1 H2 ∧ Rel W φ2 h2' H2 ∧ Reps W φ2 H2 zs vs) I1 ⟨φ, e, hq, zs, h2', E, R, q3, fun φ' H' v x' R' r => ⟨φ', x', R', r⟩⟩) fun us s2 ⟨vs, H2, I2, r2, φ2, x2, R2, rs⟩ => ?_) (star_plain hp1) (any_plain p hp2)
      obtain ⟨ha2, hA2⟩ := x2.off ha.1 ha.2
      obtain ⟨hc2, hC2⟩ := x2.off hc.1 hc.2
      obtain ⟨⟨pr2, bd2, sc2, pm2, ctv2, hobj2, hlb2⟩, _, _⟩ := I2.hok a _ hA2
      refine ⟨⟨_, _, _, _, hobj2⟩, ?_⟩
      refine wpAny_call (codeAny_mono (ok.lcalls f (by rw [hfl]; rfl) C.A (ok.room.mono (Nat.le_succ k)) ok.guards C.stack s2 H2 us vs Q a c qn ?_ r2 hA2 hC2 ⟨W.Z, φ2, h2', zs, z, h', rs, R2, q4, fun φ3 H3 w x3 R3 r3 => aq φ3 H3 w (x2.trans x3) R3 r3⟩) fun r s' hq => ?_)
      · exact I2.env0
      · cases r with
        | error e => exact hq.elim
        | ok fl =>
          cases fl with
          | ret u => exact I2.after hq
          | next => exact hq.elim
          | brk => exact hq.elim
          | cont => exact hq.elim
    · cases q4
  · cases q1
end
end HP

set_option Elab.async false
set_option linter.all false
set_option maxRecDepth 10000
set_option maxHeartbeats 1000000
/-! The evaluator, part 3K: classes called by keywords. -/
namespace HP
open PySem PySem.Spec PyProof.Rows L2
theorem permL_reps {W : Wd} {φ : List Addr} {H : Hp} : ∀ {is : List Nat} {xs ys : List X} {vs : List V}, permL is xs = some ys → Reps W φ H xs vs → ∃ us, permL is vs = some us ∧ Reps W φ H ys us
  | [], _, _, _, e, r => by cases e; exact ⟨[], rfl, rfl⟩
  | i :: is, xs, ys, vs, e, r => by
    unfold permL at e
    split at e
    · rename_i x q h1 h2
      cases e
      obtain ⟨v, h3, h4⟩ := r.get h1
      obtain ⟨us, h5, h6⟩ := permL_reps h2 r
      exact ⟨v :: us, by unfold permL; rw [h3, h5], v, us, rfl, h4, h6⟩
    · cases e
theorem permL_len {α : Type} : ∀ {is : List Nat} {xs ys : List α}, permL is xs = some ys → ys.length = is.length
  | [], _, _, e => by cases e; rfl
  | i :: is, xs, ys, e => by
    unfold permL at e
    split at e
    · rename_i x q h1 h2
      cases e
      rw [List.length_cons, List.length_cons, permL_len h2]
    · cases e
theorem kw_len : ∀ {ks : List Str} {kws : List Keyword}, kwB ks kws = true → ks.length = kws.length
  | [], [], _ => rfl
  | [], _ :: _, h => absurd h Bool.false_ne_true
  | _ :: _, [], h => absurd h Bool.false_ne_true
  | k :: ks, y :: kws, h => by
    have h : (decide (y.arg = some k) && kwB ks kws) = true := h
    simp only [Bool.and_eq_true] at h
    rw [List.length_cons, List.length_cons, kw_len h.2]
theorem under_guards' {A : Around} {c : Addr} {us : List Value} {kw : List (Str × Value)} (h : A.guards = some []) : (A.under (.builtin "type.__call__" ⟨.ref c :: us, kw⟩)).guards = some [] := by
  unfold Around.under
  simp only
  rw [h]
  rfl
theorem permL_vals : ∀ {is : List Nat} {vs zs : List V} {us : List Value}, permL is vs = some zs → Vals vs us → ∃ ws, permL is us = some ws ∧ Vals zs ws
  | [], _, _, _, e, r => by cases e; exact ⟨[], rfl, .nil⟩
  | i :: is, vs, zs, us, e, r => by
    unfold permL at e
    split at e
    · rename_i x q h1 h2
      cases e
      obtain ⟨u, h3, h4⟩ := r.get h1
      obtain ⟨ws, h5, h6⟩ := permL_vals h2 r
      exact ⟨u :: ws, by unfold permL; rw [h3, h5], .cons h4 h6⟩
    · cases e
section
variable {W : Wd} {N : List Str} {k : Nat} {cl : Cll} {C : Cx} {sc : Scope} {x : Expr}
theorem PK.imp {es : List Keyword} {t t' : TA} (p : PK C es t) (k : ∀ σ H Q, t' σ H Q → t σ H Q) : PK C es t' := ⟨fun pos pins s σ H Q I q => p.run pos pins s σ H Q I (k σ H Q q)⟩
theorem pk_X : ∀ {kws : List Keyword} {es : Es}, chEs W.T N es sc (kws.map (·.value)) = true → AllE (GoodE W N cl C sc) es → PK C kws (tL W (evEs W.P cl es))
  | [], es, h, al => by
    have := chEs_nil h
    subst this
    exact PK.imp pk_nil fun σ H Q q => tL_nil q
  | ⟨nm, e, kp⟩ :: kws, .nil, h, al => absurd h Bool.false_ne_true
  | ⟨nm, e, kp⟩ :: kws, .cons a es, h, al => by
    have h : (chE W.T N a sc e && plainB e && chEs W.T N es sc (kws.map (·.value))) = true := h
    simp only [Bool.and_eq_true] at h
    exact PK.imp (pk_cons (al.1 e h.1.1) (pk_X h.2 al.2)) fun σ H Q q => tL_cons q
theorem kw_names {env : Env} {pos : Pos} : ∀ {kws : List Keyword} {ks : List Str}, kwB ks kws = true → (backToKw pos (keywordEach kws env)).all (·.1.isSome) = true ∧ (backToKw pos (keywordEach kws env)).filterMap (·.1) = ks ∧ (backToKw pos (keywordEach kws env)).any (·.1.isNone) = false
  | [], [], _ => ⟨rfl, rfl, rfl⟩
  | [], _ :: _, h => absurd h Bool.false_ne_true
  | _ :: _, [], h => absurd h Bool.false_ne_true
  | ⟨nm, e, kp⟩ :: kws, k :: ks, h => by
    have h : (decide (nm = some k) && kwB ks kws) = true := h
    simp only [Bool.and_eq_true, decide_eq_true_eq] at h
    obtain ⟨rfl, h'⟩ := h
    obtain ⟨a, b, c⟩ := kw_names (env := env) (pos := pos) h'
    refine ⟨a, ?_, c⟩
    show k :: (backToKw pos (keywordEach kws env)).filterMap (·.1) = _
    rw [b]
/-- C(k = e, ..), by values -/
theorem pe_mkkX (ok : Okc W N k cl C) (hsc : C.env.scope = sc) {c : Nat} {ks : List Str} {pm : List Nat} {es : Es} (h : chE W.T N (.mkk c ks pm es) sc x = true) (al : AllE (GoodE W N cl C sc) es) : PE C x (tE W (evE W.P cl (.mkk c ks pm es))) := by
  cases x <;> first | (exact absurd h Bool.false_ne_true) | skip
  rename_i fx xs kws p
  cases fx <;> first | (exact absurd h Bool.false_ne_true) | skip
  cases xs <;> first | (exact absurd h Bool.false_ne_true) | skip
  rename_i y p2
  have h : (isGlo sc (W.T.cl c) y && kwB ks kws && chEs W.T N es sc (kws.map (·.value)) && !kws.isEmpty && decide (pm.length = ks.length) && decide ((c, ks, pm) ∈ W.T.kws)) = true := by
    cases kws <;> exact h
  simp only [Bool.and_eq_true, decide_eq_true_eq] at h
  obtain ⟨⟨⟨⟨⟨h1, h2⟩, h3⟩, h4⟩, h6⟩, h5⟩ := h
  obtain ⟨e1, e2, e3, e4⟩ := isGlo_of h1 hsc
  refine ⟨fun pins s σ H Q I q => ?_⟩
  obtain ⟨φ, e, hq, z, h', E, R, q, aq⟩ := q
  obtain ⟨zs, hz, q1, q2⟩ := bnd_eq q
  have q2 : (match permL pm zs with | some ys => mkX W.P cl c ys | none => fun _ => .bad) hz = HP.R.ok z h' := q2
  have lk : zs.length = ks.length := by
    rw [← chEs_len h3 q1, List.length_map, kw_len h2]
  cases hys : permL pm zs with
  | none => rw [hys] at q2; cases q2
  | some ys =>
    rw [hys] at q2
    cases hd : W.P.cl c with
    | none => unfold mkX at q2; rw [hd] at q2; cases q2
    | some d =>
    unfold mkX at q2
    rw [hd] at q2
    simp only at q2
    have hm := ok.facts.cl c (by rw [e1]; exact e4)
    rw [e1] at hm
    have F := ok.facts.cls c d hd
    obtain ⟨n1, n2, n3⟩ := kw_names (env := C.env) (pos := p) h2
    cases hi : d.init with
    | none =>
      rw [hi] at q2
      simp only at q2
      have hl := permL_len hys
      split at q2
      · rename_i hy
        have hy : ys = [] := by simpa using hy
        subst hy
        have hk : ks.length = kws.length := kw_len h2
        cases kws with
        | nil => cases h4
        | cons _ _ => rw [List.length_nil, h6, hk] at hl; cases hl
      · cases q2
    | some f =>
      rw [hi] at q2
      simp only at q2
      have M := F.ini f hi
      rw [← ok.hK] at M
      refine wpAny_Call_Name_kw (ld_glob I e2 hm ?_ e3)
      refine PySem.W.callWith_KW0 (h₀ := C.base) I.ok.mod.kin M.kp n1 (thn ((pk_X h3 al).run p pins s σ H (fun vs H1 => ∃ φ1, Ext φ φ1 H H1 ∧ Rel W φ1 hz H1 ∧ Reps W φ1 H1 zs vs) I ⟨φ, e, hq, zs, hz, E, R, q1, fun φ' H' v x' R' r => ⟨φ', x', R', r⟩⟩) fun ws s1 ⟨vs, H1, I1, rv, φ1, x1, R1, r1⟩ => ⟨I1.kIn, ?_⟩) (by rw [n3]; rfl)
      rw [n2]
      obtain ⟨us, hu, ru⟩ := permL_reps hys r1
      obtain ⟨v, h1', q3, q4⟩ := bnd_eq q2
      split at q4
      · have hfn : ∃ fd, W.P.fn f = some fd := by
          cases hf : W.P.fn f with
          | none => rw [ok.clno f _ _ hf] at q3; cases q3
          | some fd => exact ⟨fd, rfl⟩
        obtain ⟨fd, hfd⟩ := hfn
        have hx := I1.hok.fresh (Nat.le_succ s1.heap.objs.size)
        have hdx := I1.hok.fresh (Nat.le_refl s1.heap.objs.size)
        have ne : s1.heap.objs.size ≠ s1.heap.objs.size + 1 := Nat.ne_of_lt (Nat.lt_succ_self _)
        obtain ⟨R2, x2, r2⟩ := rel_made (c := c) hd R1 hx hdx ne
        have I2 := Inv.made (C := W.ca c) I1
        have lw : ws.length = ks.length := by
          rw [← rv.length, ← r1.length, lk]
        refine wpAny_call (make_map (f := W.fa f) I1.kIn M.makes M.init (beq_iff_eq.mp M.fn) (codeAny_mono (ok.kcalls c ks pm d f fd h5 hd hi hfd _ (ok.room.make _ [] (ks.zip ws)) (under_guards' ok.guards) C.stack _ _ (.ref (s1.heap.objs.size + 1)) (.ref (s1.heap.objs.size + 1)) ws vs us (fun v H1 => v = .non ∧ Q (.ref (s1.heap.objs.size + 1)) H1) (I2.env0.make (W.ca c) [] (ks.zip ws)) rfl rv lw hu ?_) fun r s' hq => ?_))
        · refine ⟨W.Z, φ1 ++ [s1.heap.objs.size + 1], hz ++ [O.ins c []], X.ob hz.length :: ys, .non, h1', ⟨_, _, rfl, r2, ru.ext x2⟩, R2, q3, fun φ' H' w x' R' r => ?_⟩
          cases r
          obtain ⟨φ3, x3, R3, r3⟩ := fin_ok R1 (x2.trans x') R' (r2.ext x') q4
          exact ⟨rfl, aq φ3 H' _ (x1.trans x3) R3 r3⟩
        · cases r with
          | error e => exact hq.elim
          | ok fl =>
            cases fl with
            | ret u =>
              obtain ⟨v, H', I3, rv, ev, q3⟩ := I2.after hq
              subst ev
              exact ⟨rv, ⟨V.ref (s1.heap.objs.size + 1), H', I3, rfl, q3⟩⟩
            | next => exact hq.elim
            | brk => exact hq.elim
            | cont => exact hq.elim
      · cases q4
end
end HP

set_option Elab.async false
set_option linter.all false
set_option maxRecDepth 10000
set_option maxHeartbeats 1000000
/-! The evaluator, part 4: all expressions, all statements. -/
namespace HP
open PySem PySem.Spec PyProof.Rows L2
/-- all that an expression is wanted for, as a value and as a test -/
structure GE (W : Wd) (N : List Str) (cl : Cll) (C : Cx) (sc : Scope) (e : E) : Prop where
  pe : GoodE W N cl C sc e
  pt : ∀ y, chE W.T N e sc y = true → PT C y (tB W cl e)
  pw : ∀ op ys pos, chE W.T N e sc (.BoolOp op ys pos) = true → PW C (.BoolOp op ys pos) (tB W cl e)
/-- .. a list of them -/
structure GEs (W : Wd) (N : List Str) (cl : Cll) (C : Cx) (sc : Scope) (es : Es) : Prop where
  pa : ∀ xs, chEs W.T N es sc xs = true → PA C xs (tL W (evEs W.P cl es))
  al : AllE (GoodE W N cl C sc) es
  one : ∀ e es', es = .cons e es' → ∀ y, chE W.T N e sc y = true → PE C y (tE W (evE W.P cl e))
  ts : GoodC W N cl C sc es
section
variable {W : Wd} {N : List Str} {k : Nat} {cl : Cll} {C : Cx} {sc : Scope}
theorem GE.plain {e : E} (ok : Okc W N k cl C) (pe : GoodE W N cl C sc e) (sh : ∀ y, chE W.T N e sc y = true → plainT y = true) : GE W N cl C sc e :=
  ⟨pe, fun y h => pt_plainX ok (pe y h) (sh y h), fun op ys pos h => absurd (sh _ h) Bool.false_ne_true⟩
theorem pts_X {es : Es} (h1 : ∀ a es', es = .cons a es' → ∀ y, chE W.T N a sc y = true → PT C y (tB W cl a)) : GoodC W N cl C sc es := by
  refine ⟨fun ys h => ?_⟩
  cases es with
  | nil =>
    cases ys with
    | cons _ _ => exact absurd h Bool.false_ne_true
    | nil =>
      refine ⟨fun pins s σ H Q I q => pts_nil.run pins s σ H Q I ?_⟩
      obtain ⟨φ, e, h, x, h', E, R, q, a⟩ := q
      cases q
      exact a φ H .refl R
  | cons a es' =>
    rcases ys with _ | ⟨y, _ | _⟩
    · cases es' <;> exact absurd h Bool.false_ne_true
    · cases es' with
      | cons _ _ => exact absurd h Bool.false_ne_true
      | nil => exact ⟨fun pins s σ H Q I q => (pts_one (h1 a _ rfl y h)).run pins s σ H Q I q⟩
    · cases es' <;> exact absurd h Bool.false_ne_true
end
/-- the shapes of the syntax whose test is its value's -/
theorem shp {T : Tb} {N : List Str} {e : E} {sc : Scope} {y : Expr} (h : chE T N e sc y = true) (he : match e with | .and .. | .or .. | .not .. | .ite .. | .cmp .. | .chn .. => False | _ => True) : plainT y = true := by
  cases e <;> first | exact he.elim | skip
  all_goals (cases y <;> first | rfl | (exact absurd h Bool.false_ne_true) | skip)
  all_goals (rename_i op _ _; cases op <;> first | rfl | (exact absurd h Bool.false_ne_true))
mutual
theorem goodE : ∀ (e : E) {W : Wd} {N : List Str} {k : Nat} {cl : Cll} {C : Cx} {sc : Scope}, Okc W N k cl C → C.env.scope = sc → GE W N cl C sc e
  | .var i, W, N, k, cl, C, sc, ok, hs => .plain ok (fun y h => pe_varX ok hs h) fun y h => shp h trivial
  | .non, W, N, k, cl, C, sc, ok, hs => .plain ok (fun y h => pe_nonX rfl h) fun y h => shp h trivial
  | .bl b, W, N, k, cl, C, sc, ok, hs => .plain ok (fun y h => pe_blX h) fun y h => shp h trivial
  | .int i, W, N, k, cl, C, sc, ok, hs => .plain ok (fun y h => pe_intX h) fun y h => shp h trivial
  | .str i, W, N, k, cl, C, sc, ok, hs => .plain ok (fun y h => pe_strX h) fun y h => shp h trivial
  | .cst i, W, N, k, cl, C, sc, ok, hs => .plain ok (fun y h => pe_cstX ok hs h) fun y h => shp h trivial
  | .tup es, W, N, k, cl, C, sc, ok, hs => .plain ok (fun y h => pe_tupX h (goodEs es ok hs).pa) fun y h => shp h trivial
  | .lst m es, W, N, k, cl, C, sc, ok, hs => .plain ok (fun y h => pe_lstX h (goodEs es ok hs).pa) fun y h => shp h trivial
  | .dct ks es, W, N, k, cl, C, sc, ok, hs => .plain ok (fun y h => pe_dctX ok h (goodEs es ok hs).al) fun y h => shp h trivial
  | .bin m o a b, W, N, k, cl, C, sc, ok, hs => .plain ok (fun y h => pe_binX ok h (goodE a ok hs).pe (goodE b ok hs).pe op_one) fun y h => shp h trivial
  | .neg a, W, N, k, cl, C, sc, ok, hs => .plain ok (fun y h => pe_negX h (goodE a ok hs).pe) fun y h => shp h trivial
  | .cmp o a b, W, N, k, cl, C, sc, ok, hs => ⟨fun y h => (pe_cmpX ok h (goodE a ok hs).pe (goodE b ok hs).pe).1, fun y h => (pe_cmpX ok h (goodE a ok hs).pe (goodE b ok hs).pe).2, fun op ys pos h => absurd h Bool.false_ne_true⟩
  | .chn o p a b c, W, N, k, cl, C, sc, ok, hs => ⟨fun y h => (pe_chnX ok h (goodE a ok hs).pe (goodE b ok hs).pe (goodE c ok hs).pe).1, fun y h => (pe_chnX ok h (goodE a ok hs).pe (goodE b ok hs).pe (goodE c ok hs).pe).2, fun op ys pos h => absurd h Bool.false_ne_true⟩
  | .and a b, W, N, k, cl, C, sc, ok, hs => ⟨fun y h => pe_andX ok h (goodE a ok hs).pe (goodE b ok hs).pe, fun y h => (pw_andX h (goodE a ok hs).pt (goodE b ok hs).pt ((goodE b ok hs).pw .And)).pt, fun op ys pos h => pw_andX h (goodE a ok hs).pt (goodE b ok hs).pt ((goodE b ok hs).pw .And)⟩
  | .or a b, W, N, k, cl, C, sc, ok, hs => ⟨fun y h => pe_orX ok h (goodE a ok hs).pe (goodE b ok hs).pe, fun y h => (pw_orX h (goodE a ok hs).pt (goodE b ok hs).pt ((goodE b ok hs).pw .Or)).pt, fun op ys pos h => pw_orX h (goodE a ok hs).pt (goodE b ok hs).pt ((goodE b ok hs).pw .Or)⟩
  | .not a, W, N, k, cl, C, sc, ok, hs => ⟨fun y h => pe_notX ok h (goodE a ok hs).pe, fun y h => pt_notX h (goodE a ok hs).pt, fun op ys pos h => absurd h Bool.false_ne_true⟩
  | .ite c a b, W, N, k, cl, C, sc, ok, hs => ⟨fun y h => pe_iteX h (goodE c ok hs).pt (goodE a ok hs).pe (goodE b ok hs).pe, fun y h => (pw_iteX h (goodE c ok hs).pt (goodE a ok hs).pt (goodE b ok hs).pt).pt, fun op ys pos h => absurd h Bool.false_ne_true⟩
  | .idx a i, W, N, k, cl, C, sc, ok, hs => .plain ok (fun y h => pe_idxX ok h (goodE a ok hs).pe (goodE i ok hs).pe) fun y h => shp h trivial
  | .slc m a lo hi, W, N, k, cl, C, sc, ok, hs => .plain ok (fun y h => pe_slcX ok h (goodE a ok hs).pe (fun l h => po_optX h (goodEs lo ok hs).pa (goodEs lo ok hs).one) (fun l h => po_optX h (goodEs hi ok hs).pa (goodEs hi ok hs).one)) fun y h => shp h trivial
  | .fld a f, W, N, k, cl, C, sc, ok, hs => .plain ok (fun y h => pe_fldX ok h (goodE a ok hs).pe) fun y h => shp h trivial
  | .call f es, W, N, k, cl, C, sc, ok, hs => .plain ok (fun y h => pe_callX ok hs h (goodEs es ok hs).pa) fun y h => shp h trivial
  | .mk c es, W, N, k, cl, C, sc, ok, hs => .plain ok (fun y h => pe_mkX ok hs h (goodEs es ok hs).pa) fun y h => shp h trivial
  | .mth a m es, W, N, k, cl, C, sc, ok, hs => .plain ok (fun y h => pe_mthX ok h (goodE a ok hs).pe (goodEs es ok hs).pa) fun y h => shp h trivial
  | .app i es, W, N, k, cl, C, sc, ok, hs => .plain ok (fun y h => pe_appX ok hs h (goodEs es ok hs).pa) fun y h => shp h trivial
  | .lam f, W, N, k, cl, C, sc, ok, hs => .plain ok (fun y h => pe_lamX ok h) fun y h => shp h trivial
  | .fnv f, W, N, k, cl, C, sc, ok, hs => .plain ok (fun y h => pe_fnvX ok hs h) fun y h => shp h trivial
  | .mkk c ks pm es, W, N, k, cl, C, sc, ok, hs => .plain ok (fun y h => pe_mkkX ok hs h (goodEs es ok hs).al) fun y h => shp h trivial
  | .bi m b es, W, N, k, cl, C, sc, ok, hs => .plain ok (fun y h => pe_biX ok hs h (goodEs es ok hs).pa) fun y h => shp h trivial
  | .bm m b o es, W, N, k, cl, C, sc, ok, hs => .plain ok (fun y h => pe_bmX ok h (goodE o ok hs).pe (goodEs es ok hs).pa) fun y h => shp h trivial
  | .isi a ts, W, N, k, cl, C, sc, ok, hs => .plain ok (fun y h => pe_isiX ok hs h (goodE a ok hs).pe) fun y h => shp h trivial
  | .comp m own el t it c, W, N, k, cl, C, sc, ok, hs => .plain ok (fun y h => pe_compX ok hs h (goodIt it ok hs)
      ⟨fun Z s H scope cl' Cc fp => goodTg t (ok.blk Z s H scope (compEnvC scope cl' Cc C.env) fp rfl rfl) (by rw [← hs]; rfl) (fun x hx => by
          unfold isCel at hx
          show (scope.names.lookup x == some .cell) = true
          split at hx
          · rename_i hl; rw [hl]; rfl
          · cases hx),
        fun Z s H scope cl' Cc fp => (goodE el (ok.blk Z s H scope (compEnvC scope cl' Cc C.env) fp rfl rfl) (by rw [← hs]; rfl)).pe, fun Z s H scope cl' Cc fp => (goodEs c (ok.blk Z s H scope (compEnvC scope cl' Cc C.env) fp rfl rfl) (by rw [← hs]; rfl)).ts⟩) fun y h => shp h trivial
  | .lrg m es, W, N, k, cl, C, sc, ok, hs => .plain ok (fun y h => pe_lrgX ok hs h (goodEs es ok hs).al) fun y h => shp h trivial
  | .rev m a, W, N, k, cl, C, sc, ok, hs => .plain ok (fun y h => pe_revX ok h (goodE a ok hs).pe) fun y h => shp h trivial
  | .lem m a, W, N, k, cl, C, sc, ok, hs => .plain ok (fun y h => by cases y <;> exact absurd h Bool.false_ne_true) fun y h => shp h trivial
theorem goodEs : ∀ (es : Es) {W : Wd} {N : List Str} {k : Nat} {cl : Cll} {C : Cx} {sc : Scope}, Okc W N k cl C → C.env.scope = sc → GEs W N cl C sc es
  | .nil, W, N, k, cl, C, sc, ok, hs => by
    refine ⟨fun xs h => ?_, trivial, fun e es' h => (by cases h), pts_X fun a es' h => (by cases h)⟩
    cases xs with
    | cons _ _ => exact absurd h Bool.false_ne_true
    | nil => exact PA.imp pa_nil fun σ H Q q => tL_nil q
  | .cons e es, W, N, k, cl, C, sc, ok, hs => by
    have ge := goodE e ok hs
    have gs := goodEs es ok hs
    refine ⟨fun xs h => ?_, ⟨ge.pe, gs.al⟩, fun e' es' h => (by cases h; exact ge.pe), pts_X fun a es' h => (by cases h; exact ge.pt)⟩
    cases xs with
    | nil => exact absurd h Bool.false_ne_true
    | cons x xs =>
      have h : (chE W.T N e sc x && plainB x && chEs W.T N es sc xs) = true := h
      simp only [Bool.and_eq_true] at h
      exact PA.imp (pa_cons (ge.pe x h.1.1) (gs.pa xs h.2) (star_plain h.1.2)) fun σ H Q q => tL_cons q
theorem goodIt : ∀ (it : HP.It) {W : Wd} {N : List Str} {k : Nat} {cl : Cll} {C : Cx} {sc : Scope}, Okc W N k cl C → C.env.scope = sc → GoodI W N cl C sc it
  | .seq a, W, N, k, cl, C, sc, ok, hs => fun tg y h => by
    have h : (chE W.T N a sc y && plainB y) = true := h
    simp only [Bool.and_eq_true] at h
    exact pi_seqX ok (goodE a ok hs).pe h.1
  | .rng es, W, N, k, cl, C, sc, ok, hs => fun tg y h => by
    cases y <;> first | (exact absurd h Bool.false_ne_true) | skip
    rename_i f xs ks pos
    cases f <;> first | (exact absurd h Bool.false_ne_true) | skip
    cases ks <;> first | (exact absurd h Bool.false_ne_true) | skip
    rename_i n p
    have h : (isGlo sc "range" n && chEs W.T N es sc xs) = true := h
    simp only [Bool.and_eq_true] at h
    exact pi_rngX ok hs h.1 h.2 (goodEs es ok hs).pa
  | .zip es, W, N, k, cl, C, sc, ok, hs => fun tg y h => by
    cases tg <;> first | (exact absurd h Bool.false_ne_true) | skip
    cases y <;> first | (exact absurd h Bool.false_ne_true) | skip
    rename_i f xs ks pos
    cases f <;> first | (exact absurd h Bool.false_ne_true) | skip
    cases ks <;> first | (exact absurd h Bool.false_ne_true) | skip
    rename_i n p
    have h : (isGlo sc "zip" n && chEs W.T N es sc xs) = true := h
    simp only [Bool.and_eq_true] at h
    exact pi_zipX ok hs h.1 h.2 (goodEs es ok hs).pa
  | .enm a, W, N, k, cl, C, sc, ok, hs => fun tg y h => by
    cases tg <;> first | (exact absurd h Bool.false_ne_true) | skip
    cases y <;> first | (exact absurd h Bool.false_ne_true) | skip
    rename_i f xs ks pos
    cases f <;> first | (exact absurd h Bool.false_ne_true) | skip
    rcases xs with _ | ⟨x, _ | _⟩ <;> first | (exact absurd h Bool.false_ne_true) | skip
    cases ks <;> first | (exact absurd h Bool.false_ne_true) | skip
    rename_i n p
    have h : (isGlo sc "enumerate" n && chE W.T N a sc x && plainB x) = true := h
    simp only [Bool.and_eq_true] at h
    exact pi_enmX ok hs h.1.1 (goodE a ok hs).pe h.1.2 h.2
  | .ezip es, W, N, k, cl, C, sc, ok, hs => fun tg y h => PI.no fun σ H Q q => by
    obtain ⟨φ, e, h, p, h', E, R, q, _⟩ := q
    cases q
theorem goodTg : ∀ (t : Tg) {W : Wd} {N : List Str} {k : Nat} {cl : Cll} {C : Cx} {os sc : Scope}, Okc W N k cl C → C.env.scope = sc → (∀ x, isCel os x = true → C.fn x = true) → GoodG W N cl C os sc t
  | .nm i, W, N, k, cl, C, os, sc, ok, hs, hf => fun y h => pg_nmX ok hs hf h
  | .idx o i, W, N, k, cl, C, os, sc, ok, hs, hf => fun y h => pg_idxX ok h (goodE o ok hs).pe (goodE i ok hs).pe
  | .fld o f, W, N, k, cl, C, os, sc, ok, hs, hf => fun y h => pg_fldX ok h (goodE o ok hs).pe
  | .tup ts, W, N, k, cl, C, os, sc, ok, hs, hf => fun y h => pg_tupX ok h (goodTgs ts ok hs hf)
theorem goodTgs : ∀ (ts : Tgs) {W : Wd} {N : List Str} {k : Nat} {cl : Cll} {C : Cx} {os sc : Scope}, Okc W N k cl C → C.env.scope = sc → (∀ x, isCel os x = true → C.fn x = true) → ∀ xs, chTgs W.T N ts os sc xs = true → PGs C xs (tGs W (Tgs.slots ts) (evTgs W.P cl ts))
  | .nil, W, N, k, cl, C, os, sc, ok, hs, hf => fun xs h => by
    cases xs with
    | cons _ _ => exact absurd h Bool.false_ne_true
    | nil => exact pgs_nilX
  | .cons t ts, W, N, k, cl, C, os, sc, ok, hs, hf => fun xs h => by
    cases xs with
    | nil => exact absurd h Bool.false_ne_true
    | cons x xs =>
      have h : (chTg W.T N t os sc x && plainB x && chTgs W.T N ts os sc xs) = true := h
      simp only [Bool.and_eq_true] at h
      exact pgs_consX h.1.2 (goodTg t ok hs hf x h.1.1) (goodTgs ts ok hs hf xs h.2)
end
end HP

set_option Elab.async false
set_option linter.all false
set_option maxRecDepth 10000
set_option maxHeartbeats 1000000
/-! The evaluator, part 5: all statements. -/
namespace HP
open PySem PySem.Spec PyProof.Rows L2
theorem goodB {W : Wd} {N : List Str} {k : Nat} {cl : Cll} {C : Cx} {sc : Scope} (ok : Okc W N k cl C) (hs : C.env.scope = sc) (el : E) (t : Tg) (c : Es) : GoodB W N cl C sc el t c :=
  ⟨fun Z s H scope cl' Cc fp => goodTg t (ok.blk Z s H scope (compEnvC scope cl' Cc C.env) fp rfl rfl) (by rw [← hs]; rfl) (fun x hx => by
      unfold isCel at hx
      show (scope.names.lookup x == some .cell) = true
      split at hx
      · rename_i hl; rw [hl]; rfl
      · cases hx),
    fun Z s H scope cl' Cc fp => (goodE el (ok.blk Z s H scope (compEnvC scope cl' Cc C.env) fp rfl rfl) (by rw [← hs]; rfl)).pe, fun Z s H scope cl' Cc fp => (goodEs c (ok.blk Z s H scope (compEnvC scope cl' Cc C.env) fp rfl rfl) (by rw [← hs]; rfl)).ts⟩
mutual
theorem goodS : ∀ (s : S) {W : Wd} {N : List Str} {k : Nat} {cl : Cll} {C : Cx} {sc : Scope}, Okc W N k cl C → C.env.scope = sc → sc.kind = .function → (∀ x, isCel sc x = true → C.fn x = true) → PassesOwn (model C.prog C.w) C.A C.env C.xe → ∀ st, chS W.T N s sc st = true → PS C st (tS W (evS W.P cl s))
  | .expr e, W, N, k, cl, C, sc, ok, hs, hk, hf, hp => fun st h => ps_exprX h (goodE e ok hs).pe
  | .asg t e, W, N, k, cl, C, sc, ok, hs, hk, hf, hp => fun st h => ps_asgX ok hs hk h (goodE e ok hs).pe (goodTg t ok hs hf) fun m own el t it c _ => ⟨goodIt it ok hs, goodB ok hs el t c⟩
  | .par is es, W, N, k, cl, C, sc, ok, hs, hk, hf, hp => fun st h => ps_parX ok hs hk h (goodEs es ok hs).pa
  | .aug i o e, W, N, k, cl, C, sc, ok, hs, hk, hf, hp => fun st h => ps_augX ok hs hf h (goodE e ok hs).pe
  | .augf o f p e, W, N, k, cl, C, sc, ok, hs, hk, hf, hp => fun st h => by cases st <;> exact absurd h Bool.false_ne_true
  | .ret e, W, N, k, cl, C, sc, ok, hs, hk, hf, hp => fun st h => ps_retX h (goodE e ok hs).pe
  | .retN, W, N, k, cl, C, sc, ok, hs, hk, hf, hp => fun st h => ps_retNX h
  | .ifs c a b, W, N, k, cl, C, sc, ok, hs, hk, hf, hp => fun st h => ps_ifX h (goodE c ok hs).pt (goodSs a ok hs hk hf hp) (goodSs b ok hs hk hf hp)
  | .for t it b, W, N, k, cl, C, sc, ok, hs, hk, hf, hp => fun st h => ps_forX ok hp h (goodIt it ok hs) (goodTg t ok hs hf) (goodSs b ok hs hk hf hp)
  | .whl c b, W, N, k, cl, C, sc, ok, hs, hk, hf, hp => fun st h => ps_whlX hp h (goodE c ok hs).pt (goodSs b ok hs hk hf hp)
  | .brk, W, N, k, cl, C, sc, ok, hs, hk, hf, hp => fun st h => ps_brkX h
  | .cnt, W, N, k, cl, C, sc, ok, hs, hk, hf, hp => fun st h => ps_cntX h
  | .pass, W, N, k, cl, C, sc, ok, hs, hk, hf, hp => fun st h => ps_passX h
  | .never, W, N, k, cl, C, sc, ok, hs, hk, hf, hp => fun st h => ps_neverX
theorem goodSs : ∀ (ss : Ss) {W : Wd} {N : List Str} {k : Nat} {cl : Cll} {C : Cx} {sc : Scope}, Okc W N k cl C → C.env.scope = sc → sc.kind = .function → (∀ x, isCel sc x = true → C.fn x = true) → PassesOwn (model C.prog C.w) C.A C.env C.xe → ∀ sts, chSs W.T N ss sc sts = true → PSs C sts (tS W (evSs W.P cl ss))
  | .nil, W, N, k, cl, C, sc, ok, hs, hk, hf, hp => fun sts h => by
    cases sts with
    | cons _ _ => exact absurd h Bool.false_ne_true
    | nil => exact pss_nilX
  | .cons s ss, W, N, k, cl, C, sc, ok, hs, hk, hf, hp => fun sts h => by
    cases sts with
    | nil => exact absurd h Bool.false_ne_true
    | cons x xs =>
      have h : (chS W.T N s sc x && chSs W.T N ss sc xs) = true := h
      simp only [Bool.and_eq_true] at h
      exact pss_consX (goodS s ok hs hk hf hp x h.1) (goodSs ss ok hs hk hf hp xs h.2)
end
end HP

set_option Elab.async false
set_option linter.all false
set_option maxRecDepth 10000
set_option maxHeartbeats 1000000
/-! The evaluator, part 6: the defs of a program, called. -/
namespace HP
open PySem PySem.Spec PyProof.Rows L2
/-- what stands of a def, told by the text -/
structure DefF (W : Wd) (f : Nat) (d : FnD) : Prop where
  ex : ∃ (x qual : Str) (params : Arguments) (body : List Stmt) (scope : Scope) (N ps : List Str) (oc : Value) (od : Option Addr) (dV kV doc pm : Value) (an : Option Addr) (cdv ct : Value) (osl : Array (Option Value)),
    W.K.lookup (W.fa f) = some ⟨oc, od, .func (PySem.W.fnOf x qual params body scope dV kV doc pm an cdv ct), osl⟩ ∧ PySem.W.codeIn W.K cdv qual = true ∧ FnScope N ps scope ∧ ps.length = d.np ∧ N.length = d.ns ∧ chSs W.T N d.body scope body = true ∧
    (∀ (s : Shared) (us : List Value) (n : Nat), W.K.In s.heap → us.length = n → n + (dflX W.P f n).length = d.np →
      ∃ ds dv, BindsTo s (PySem.W.fnOf x qual params body scope dV kV doc pm an cdv ct) ⟨us, []⟩ (ps.zip (us ++ ds)) ∧ Vals dv ds ∧ ∀ Z φ H, Reps (W.z Z) φ H (dflX W.P f n) dv) ∧
    (∀ c ks pm' cd, (c, ks, pm') ∈ W.T.kws → W.P.cl c = some cd → cd.init = some f → ∀ (s : Shared) (u : Value) (ws ws' : List Value), W.K.In s.heap → ws.length = ks.length → permL pm' ws = some ws' → ws'.length + 1 + (dflX W.P f (ws'.length + 1)).length = d.np →
      ∃ ds dv, BindsTo s (PySem.W.fnOf x qual params body scope dV kV doc pm an cdv ct) ⟨[u], ks.zip ws⟩ (ps.zip (u :: ws' ++ ds)) ∧ Vals dv ds ∧ ∀ Z φ H, Reps (W.z Z) φ H (dflX W.P f (ws'.length + 1)) dv) ∧
    (N = W.T.lamN → ∃ c P, cdv = .ref c ∧ W.tab = some (P, (qual ++ ".<locals>.") ++ "<lambda>") ∧ W.tabc = some c)
theorem start_rel {W : Wd} {φ : List Addr} {H : Hp} {N : List Str} {xs : List X} {vs : List V} {np ns : Nat} (r : Reps W φ H xs vs) (h1 : xs.length = np) (h2 : N.length = ns) : ERel W φ H (xs.map some ++ List.replicate (ns - np) none) (L2.start N vs) := by
  have hl := r.length
  refine ⟨by unfold L2.start; simp [hl, h2, ← h1], fun i x q => ?_⟩
  by_cases hi : i < xs.length
  · rw [List.getElem?_append_left (by simpa using hi), List.getElem?_map] at q
    cases hx : xs[i]? with
    | none => rw [hx] at q; cases q
    | some y =>
      rw [hx] at q
      cases q
      obtain ⟨v, hv, rv⟩ := r.get hx
      refine ⟨v, ?_, rv⟩
      unfold L2.start
      rw [List.getElem?_append_left (by rw [List.length_map, ← hl]; exact hi), List.getElem?_map, hv]
      rfl
  · rw [List.getElem?_append_right (by simpa using hi), List.getElem?_replicate] at q
    split at q <;> cases q
theorem calls_bad {P : Pg} {f : Nat} (h : P.fn f = none) : ∀ n xs hq, calls P n f xs hq = .bad
  | 0, _, _ => rfl
  | n + 1, xs, hq => by
    show (match P.fn f with | some d => runF P (calls P n) d xs | none => fun _ => .bad) hq = .bad
    rw [h]
theorem tS_run {W : Wd} {cl : Cll} {d : FnD} {N : List Str} {φ : List Addr} {H : Hp} {xs : List X} {vs : List V} {h h' : Hq} {x : X} {Q : VK} (hN : N.length = d.ns) (r : Reps W φ H xs vs) (R : Rel W φ h H) (e : runF W.P cl d xs h = .ok x h') (a : Aft W φ H x h' Q) :
    xs.length = d.np ∧ tS W (evSs W.P cl d.body) { nx := fun _ H' => Q .non H', rt := Q } (L2.start N vs) H := by
  unfold runF at e
  split at e
  · rename_i hl
    obtain ⟨f, h1, q1, q2⟩ := bnd_eq e
    refine ⟨hl, φ, _, h, f, h1, start_rel r hl hN, R, q1, ?_⟩
    cases f with
    | nx e1 =>
      intro φ2 H2 σ2 x2 R2 E2
      obtain ⟨φ3, x3, R3, r3⟩ := fin_ok R x2 R2 (rep_non) q2
      exact a φ3 H2 _ x3 R3 r3
    | rt y =>
      intro φ2 H2 v x2 R2 r2
      obtain ⟨φ3, x3, R3, r3⟩ := fin_ok R x2 R2 r2 q2
      exact a φ3 H2 _ x3 R3 r3
    | bk e1 => cases q2
    | ct e1 => cases q2
  · cases e
theorem deeper_guards {A : Around} {env : Env} (h : A.guards = some []) : (A.deeper env).guards = some [] := h
/-- what a lambda's body is -/
def flE : List Nat → Es
  | [] => .nil
  | f :: fs => .cons (.fld (.var 0) f) (flE fs)
structure LamF (W : Wd) : Prop where
  lm : ∀ f, W.P.lm f = W.T.lamF f
  ne : W.T.lamN ≠ [("one" : Str)]
theorem flE_ok {T : Tb} {sc : Scope} (hl : sc.names.lookup ("one" : Str) = some .local) : ∀ {fl : List Nat} {xs : List Expr}, flB T.fld fl xs = true → chEs T ["one"] (flE fl) sc xs = true
  | [], [], _ => rfl
  | [], _ :: _, h => absurd h Bool.false_ne_true
  | f :: fl, [], h => absurd h Bool.false_ne_true
  | f :: fl, x :: xs, h => by
    cases x <;> first | (exact absurd h Bool.false_ne_true) | skip
    rename_i o n p
    cases o <;> first | (exact absurd h Bool.false_ne_true) | skip
    rename_i y p2
    have h : (eqS (T.fld f) n && eqS y "one" && flB T.fld fl xs) = true := h
    simp only [Bool.and_eq_true] at h
    obtain ⟨⟨h1, h2⟩, h3⟩ := h
    have hy := eqS_iff h2
    subst hy
    show (chE T ["one"] (.fld (.var 0) f) sc (.Attribute (.Name ("one" : Str) p2) n p) && true && chEs T ["one"] (flE fl) sc xs) = true
    rw [flE_ok hl h3]
    have h4 : visB sc ("one" : Str) = true := by unfold visB; rw [hl]
    show (eqS (T.fld f) n && !false && (nmAt ["one"] 0 ("one" : Str) && visB sc ("one" : Str) && okNm ("one" : Str)) && true && true) = true
    rw [h1, h4]
    decide +kernel
theorem flE_run {P : Pg} {cl : Cll} {x : X} {h : Hq} : ∀ {fl : List Nat} {ys : List X}, fldsX P x h fl = some ys → evEs P cl (flE fl) [some x] h = .ok ys h
  | [], _, e => by cases e; rfl
  | f :: fl, ys, e => by
    unfold fldsX at e
    split at e
    · rename_i y q h1 h2
      cases e
      have r := flE_run (cl := cl) h2
      have e1 : evE P cl (.fld (.var 0) f) [some x] h = .ok y h := by
        show (match fldX P x f h with | some z => .ok z h | none => .bad) = HP.R.ok y h
        rw [h1]
      show ((evE P cl (.fld (.var 0) f) [some x] h).bnd fun z => M.bnd (evEs P cl (flE fl) [some x]) fun xs => .ret (z :: xs)) = _
      rw [e1, R.bnd_ok, M.bnd_ap, r]
      rfl
    · cases e
section
variable {P : Program} {w : World} {W : Wd} {mg : Str → Option Value} {base : Heap}
/-- a lambda is called, all defs that it calls at hand -/
theorem lam_run (F : Facts W mg) (L : LamF W) {n : Nat} {cl : Cll} {f : Nat} {A : Around} (hr : Room (2 * n + 2) A) (hg : A.guards = some [])
    (ok : ∀ (N : List Str) (C : Cx), C.N = N → N.Nodup → C.K = W.K → C.calm = true → C.prog = P → C.w = w → C.mg = mg → C.base = base → Room (2 * n + 1) C.A → C.A.guards = some [] → N ≠ W.T.lamN → ∀ Z, Okc (W.z Z) N (2 * n) (calls W.P n) C) : FnL P w W W.K mg base A cl f := by
  intro outer s H us vs Q a c q e0 rv ha hc sp
  obtain ⟨Z, φ, h, xs, x, h', r, R, e, aq⟩ := sp
  obtain ⟨fl, ys0, y, z, hz, hfl, rfl, hpr, hys, rfl, rfl, hsz⟩ : ∃ fl ys y z hz, W.P.lm f = some fl ∧ xs = [y] ∧ cl W.P.probe [.int 0] h = .ok z hz ∧ fldsX W.P y h fl = some ys ∧ x = .tup ys ∧ h' = h ∧ szSeq ys.length = true := by
    unfold lamX at e
    split at e
    · rename_i h1 h2
      split at e
      · rename_i h3
        split at e
        · rename_i h4
          cases e
          exact ⟨_, _, _, _, _, h2, rfl, h1, h3, rfl, rfl, h4⟩
        · cases e
      · cases e
    · cases e
  obtain ⟨⟨params, body, scope, pm, ctv, hobj, hlb⟩, _, _⟩ := e0.hok a _ ha
  obtain ⟨⟨oc, ov, t, hoc, hdc, hvc⟩, _, _⟩ := e0.hok c _ hc
  obtain ⟨fl2, ys, n1, pos1, hfl2, rfl, hp, hsc, hfb⟩ := lamB_parts hlb
  rw [← L.lm, hfl] at hfl2
  cases hfl2
  obtain ⟨ar, rfl, har⟩ := lamP_parts hp
  obtain ⟨hk, hco, hge, hlo, hno⟩ := lamS_parts hsc
  have S : FnScope ["one"] ["one"] scope := ⟨hk, hco, hge, by decide +kernel, rfl, fun y hy => by rw [List.mem_singleton.mp hy]; exact .inl hlo, fun y hy => (hno y hy).1⟩
  have ht : tE (W.z Z) (evE W.P (calls W.P n) (.tup (flE fl))) (L2.start ["one"] vs) H Q := by
    refine ⟨φ, [some y], h', .tup ys0, h', start_rel (np := 1) (ns := 1) r rfl rfl, R, ?_, aq⟩
    show ((evEs W.P (calls W.P n) (flE fl) [some y] h').bnd fun xs h => if szSeq xs.length then HP.R.ok (X.tup xs) h else .bad) = _
    rw [flE_run hys, HP.R.bnd_ok, if_pos hsz]
  have hl1 : us.length = 1 := by rw [← rv.length, ← r.length]; rfl
  obtain ⟨u, rfl⟩ : ∃ u, us = [u] := by
    rcases us with _ | ⟨u, _ | _⟩
    · cases hl1
    · exact ⟨u, rfl⟩
    · cases hl1
  have lim : s.heap.NoLimit := e0.mod.nolimit.keeps fun b o e => (e0.bs b o e).1
  refine PySem.W.kla_callFunE hr.depth hobj rfl hco hge rfl ⟨c, oc, ov, t, rfl, hoc, hdc, hvc⟩ ?_
  have hbind : bindArgs (PySem.W.kla_fn "<lambda>" q ⟨[], [ar], none, [], [], none, []⟩ (.Tuple ys n1 pos1) scope [] pm (.ref c) ctv) ⟨[u], []⟩ = pure [(("one" : Str), u)] := by
    obtain ⟨an, annot, apos⟩ := ar
    obtain rfl : an = ("one" : Str) := har
    rfl
  rw [hbind]
  refine wpAny_pure (wpAny_newFunctionEnv_cells hk (fun y hy => ?_) fun env he s1 x1 => ?_)
  · rw [List.mem_singleton.mp hy]
    exact .inl hlo
  subst he
  refine ⟨lim.keeps x1.toInCall.keep, ?_⟩
  have I : Inv (cxOf CX0 P w W.K mg base ["one"] q scope a (.ref c) A outer s H E0) [] (L2.start ["one"] vs) H s1 := inv_start (ps := ["one"]) (us := [u]) S hr.hd e0 (by rw [← r.length]; rfl) rv x1
  have hch : chE W.T ["one"] (.tup (flE fl)) scope (.Tuple ys n1 pos1) = true := flE_ok hlo hfb
  have hpe := PE.nox ((goodE (.tup (flE fl)) (C := (cxOf CX0 P w W.K mg base ["one"] q scope a (.ref c) A outer s H E0).nox) (ok ["one"] _ rfl (by decide +kernel) rfl rfl rfl rfl rfl rfl (hr.deeper (envOfC q scope s.heap.objs.size a (.ref c))) (deeper_guards (env := envOfC q scope s.heap.objs.size a (.ref c)) hg) (Ne.symm L.ne) Z) rfl).pe _ hch)
  refine PySem.W.kla_codeExpr (wpAny_mono (hpe.run [] s1 _ H Q I ht) (fun v s' hq => ?_) fun e s' hq => hq)
  obtain ⟨w', H', J, rv', q'⟩ := hq
  exact ⟨w', H', J.os, J.bare, J.base, J.hok, rv', q'⟩
/-- what the defs are called with -/
structure Low (P : Program) (w : World) (W : Wd) (mg : Str → Option Value) (base : Heap) (n : Nat) : Prop where
  fn : ∀ (f : Nat) (d : FnD), W.P.fn f = some d → ∀ A, Room (2 * n) A → A.guards = some [] → FnG P w W.K mg base A (W.fa f) (spC W (calls W.P n) f)
  kw : ∀ c ks pm d f fd, (c, ks, pm) ∈ W.T.kws → W.P.cl c = some d → d.init = some f → W.P.fn f = some fd → ∀ A, Room (2 * n) A → A.guards = some [] → FnK P w W.K mg base A (W.fa f) ks pm (spC W (calls W.P n) f)
  lam : ∀ f, (W.T.lamF f).isSome = true → ∀ A, Room (2 * n) A → A.guards = some [] → FnL P w W W.K mg base A (calls W.P n) f
theorem calls_some {P : Pg} {n f : Nat} {as : List X} {h h' : Hq} {x : X} (e : calls P (n + 1) f as h = .ok x h') : ∃ d, P.fn f = some d ∧ runF P (calls P n) d as h = .ok x h' := by
  have e : (match P.fn f with | some d => runF P (calls P n) d as | none => fun _ => .bad) h = .ok x h' := e
  cases hf : P.fn f with
  | none => rw [hf] at e; cases e
  | some d => rw [hf] at e; exact ⟨d, rfl, e⟩
theorem LamO_z {Z : List Addr} {f : Nat} {a c : Addr} {q : Str} : LamO (W.z Z) f a c q = LamO W f a c q := rfl
theorem FnL.z {K : PySem.W.Frag} {A : Around} {cl : Cll} {f : Nat} {Z : List Addr} (h : FnL P w W K mg base A cl f) : FnL P w (W.z Z) K mg base A cl f := by
  intro outer s H us vs Q a c q e0 rv ha hc sp
  rw [LamO_z] at ha
  obtain ⟨Z', φ, hq, xs, x, h', r, R, e, aq⟩ := sp
  exact h outer s H us vs Q a c q e0 rv ha hc ⟨Z', φ, hq, xs, x, h', r, R, e, aq⟩
/-- a def's body, all that it calls at hand -/
theorem def_run (F : Facts W mg) (n : Nat) (low : Low P w W mg base n) (hT : ∀ c P', W.tabc = some c → (∃ q, W.tab = some (P', q)) → LamX.TabB base mg c P') {f : Nat} {d : FnD} {nm qual : Str} {params : Arguments} {body : List Stmt} {scope : Scope} {N ps : List Str} {oc : Value} {od : Option Addr} {dV kV doc pm : Value} {an : Option Addr} {cdv ct : Value} {osl : Array (Option Value)}
    (lk : W.K.lookup (W.fa f) = some ⟨oc, od, .func (PySem.W.fnOf nm qual params body scope dV kV doc pm an cdv ct), osl⟩) (hcd : PySem.W.codeIn W.K cdv qual = true) (S : FnScope N ps scope) (hps : ps.length = d.np) (hN : N.length = d.ns) (hch : chSs W.T N d.body scope body = true)
    (hlam : N = W.T.lamN → ∃ c P, cdv = .ref c ∧ W.tab = some (P, (qual ++ ".<locals>.") ++ "<lambda>") ∧ W.tabc = some c)
    {A : Around} (hr : Room (2 * n + 2) A) (hg : A.guards = some []) {outer : List Env} {s : Shared} {H : Hp} {args : Args} {us : List Value} {vs : List V} {Q : VK} (e0 : Env0 P w W.K mg base A outer s H) (hbt : BindsTo s (PySem.W.fnOf nm qual params body scope dV kV doc pm an cdv ct) args (ps.zip us)) (rv : Vals vs us)
    {Z : List Addr} {φ : List Addr} {h h' : Hq} {xs : List X} {x : X} (r : Reps (W.z Z) φ H xs vs) (R : Rel (W.z Z) φ h H) (e : runF W.P (calls W.P n) d xs h = .ok x h') (a : Aft (W.z Z) φ H x h' Q) : codeAny (model P w) A (.call (.ref (W.fa f)) args) (CR CX0 outer P w H s Q E0) s := by
  obtain ⟨hl2, ht⟩ := tS_run (W := W.z Z) (N := N) hN r R e a
  refine LamX.run_ofS (N := N) (ps := ps) (us := us) (vs := vs) (k := 2 * n + 1) lk hcd S hr e0 hbt rv (by rw [← r.length, hl2, hps]) fun hr' => ⟨_, ?_, ht⟩
  have okc : Okc (W.z Z) N (2 * n) (calls W.P n) (cxOf CX0 P w W.K mg base N qual scope (W.fa f) cdv A outer s H E0).nox := by
    constructor
    · rfl
    · exact S.nd
    · rfl
    · rfl
    · exact hr'
    · exact deeper_guards hg
    · exact F.z Z
    · exact fun f xs h hn => calls_bad hn n xs h
    · exact low.fn
    · exact low.kw
    · exact fun f hf A hr hg => (low.lam f hf A hr hg).z
    · intro hn
      obtain ⟨c, P', h1, h2, h3⟩ := hlam hn
      exact ⟨c, P', h1, hT c P' h3 ⟨_, h2⟩, h2⟩
  exact PSs.nox (goodSs (C := (cxOf CX0 P w W.K mg base N qual scope (W.fa f) cdv A outer s H E0).nox) (k := 2 * n) (N := N) (sc := scope) d.body okc rfl S.kind (fun _ _ => rfl) PassesOwn.never body hch)
theorem defs_ok (F : Facts W mg) (D : ∀ f d, W.P.fn f = some d → DefF W f d) (L : LamF W) (hT : ∀ c P', W.tabc = some c → (∃ q, W.tab = some (P', q)) → LamX.TabB base mg c P') : ∀ n, Low P w W mg base n
  | 0 => by
    refine ⟨fun f d hf A hr hg => ?_, fun c ks pm d f fd hm hc hi hf A hr hg => ?_, fun f hf A hr hg => ?_⟩
    · intro outer s H us vs Q e0 rv sp
      obtain ⟨Z, φ, h, xs, x, h', _, _, e, _⟩ := sp
      cases e
    · intro outer s H u v ws zs zs' Q e0 _ _ _ _ sp
      obtain ⟨Z, φ, h, xs, x, h', _, _, e, _⟩ := sp
      cases e
    · intro outer s H us vs Q a c q e0 rv ha hc sp
      obtain ⟨Z, φ, h, xs, x, h', _, _, e, _⟩ := sp
      cases e
  | n + 1 => by
    have low := defs_ok F D L hT n
    have len : ∀ {d : FnD} {xs : List X} {h h' : Hq} {x : X}, runF W.P (calls W.P n) d xs h = .ok x h' → xs.length = d.np := fun {d xs h h' x} e => by
      unfold runF at e
      split at e
      · assumption
      · cases e
    refine ⟨fun f d hf A hr hg => ?_, fun c ks pm d f fd hm hc hi hf A hr hg => ?_, fun f hf A hr hg => ?_⟩
    · intro outer s H us vs Q e0 rv sp
      obtain ⟨Z, φ, h, xs, x, h', r, R, e, a⟩ := sp
      obtain ⟨d', hf', e'⟩ := calls_some e
      rw [hf] at hf'
      cases hf'
      obtain ⟨nm, qual, params, body, scope, N, ps, oc, od, dV, kV, doc, pm, an, cdv, ct, osl, lk, hcd, S, hps, hN, hch, hb, hk, hl⟩ := (D f d hf).ex
      have hl1 := len e'
      rw [List.length_append] at hl1
      have KX : W.K.In s.heap := e0.mod.kin.keeps fun b o e => (e0.bs b o e).1
      have hul : us.length = xs.length := by rw [r.length]; exact rv.length.symm
      obtain ⟨ds, dv, hbt, rd, rdx⟩ := hb s us xs.length KX hul hl1
      exact def_run F n low hT lk hcd S hps hN hch hl hr hg e0 hbt (rv.append rd) (r.append (rdx Z φ H)) R e' a
    · intro outer s H u v ws zs zs' Q e0 ru rz hlw hp sp
      obtain ⟨Z, φ, h, xs, x, h', r, R, e, a⟩ := sp
      obtain ⟨d', hf', e'⟩ := calls_some e
      rw [hf] at hf'
      cases hf'
      obtain ⟨nm, qual, params, body, scope, N, ps, oc, od, dV, kV, doc, pm', an, cdv, ct, osl, lk, hcd, S, hps, hN, hch, hb, hk, hl⟩ := (D f fd hf).ex
      have hl1 := len e'
      rw [List.length_append] at hl1
      have KX : W.K.In s.heap := e0.mod.kin.keeps fun b o e => (e0.bs b o e).1
      obtain ⟨ws', hw, rw'⟩ := permL_vals hp rz
      have hxl : xs.length = ws'.length + 1 := by rw [r.length, List.length_cons, rw'.length]
      rw [hxl] at hl1 e'
      obtain ⟨ds, dv, hbt, rd, rdx⟩ := hk c ks pm d hm hc hi s u ws ws' KX hlw hw hl1
      exact def_run F n low hT lk hcd S hps hN hch hl hr hg e0 hbt (Vals.append (show Vals (v :: zs') (u :: ws') from .cons ru rw') rd) (r.append (rdx Z φ H)) R e' a
    · exact lam_run F L hr hg fun N C h1 h2 h3 h4 h5 h6 h7 h8 hr' hg' hne Z => by
        subst h1 h5 h6 h7 h8
        exact ⟨rfl, h2, h3, h4, hr', hg', F.z Z, fun f xs h hn => calls_bad hn n xs h, by rw [h3]; exact low.fn, by rw [h3]; exact low.kw, by rw [h3]; exact low.lam, fun e => absurd e hne⟩
end
end HP

set_option Elab.async false
set_option linter.all false
set_option maxRecDepth 10000
set_option maxHeartbeats 1000000
/-! The evaluator, part 7: a law's end. -/
namespace HP
open PySem PySem.Spec PyProof.Rows L2
/-- what is tracked at a law's start: its tables, its script -/
def H0 (T : List Addr) (own : Bool) (a : Addr) (ob : Obj) (zs : List Int) : Hp := fun b => if b ∈ T then some (.tbl #[]) else if b = a ∧ own = true then some (.frz ob (.lst (zs.map V.int))) else none
section
variable {T : List Addr} {own : Bool} {a b : Addr} {ob : Obj} {zs : List Int}
theorem H0_tab (h : b ∈ T) : H0 T own a ob zs b = some (.tbl #[]) := if_pos h
theorem H0_scr (h : a ∉ T) (h2 : own = true) : H0 T own a ob zs a = some (.frz ob (.lst (zs.map V.int))) := by
  unfold H0
  rw [if_neg h, if_pos ⟨rfl, h2⟩]
theorem H0_cases : H0 T own a ob zs b = none ∨ b ∈ T ∨ (b = a ∧ own = true ∧ H0 T own a ob zs b = some (.frz ob (.lst (zs.map V.int)))) := by
  unfold H0
  by_cases h1 : b ∈ T
  · exact .inr (.inl h1)
  · by_cases h2 : b = a ∧ own = true
    · exact .inr (.inr ⟨h2.1, h2.2, by rw [if_neg h1, if_pos h2]⟩)
    · exact .inl (by rw [if_neg h1, if_neg h2])
end
theorem law_end {P : Program} {w : World} {K : PySem.W.Frag} {mg mb : Str → Option Value} {fa a : Addr} {cs : List (Addr × Addr)} {st : Shared} {us : List Value} {zs : List Int}
    (kin : K.In st.heap) (gm : st.heap.Ns mainGlobals mg) (gb : st.heap.Ns builtinsNs mb) (gbb : ∀ x : Str, x ≠ "__name__" → mb x = bootBuiltins x) (nl : st.heap.NoLimit) (ge : st.gens = #[])
    (tabs : ∀ p ∈ cs, st.heap.get? p.2 = some { cls := .none, data := .fields #[] }) (tabK : ∀ p ∈ cs, K.lookup p.2 = none) (code : ∀ p ∈ cs, PySem.W.CodeHd st.heap p.1 p.2)
    (bmod : ∃ (m : Addr) (o : Obj), mg "__builtins__" = some (.ref m) ∧ m ≠ builtinsNs ∧ st.heap.get? m = some o ∧ o.cls = .type "module" ∧ o.dict = some builtinsNs ∧ o.data = .plain)
    (scr : st.heap.get? a = some { cls := .type "list", data := .seq us.toArray }) (hint : IntsAre us zs) (le : zs.length ≤ sizeLine)
    (go : ∀ (base : Heap) (H : Hp), K.In base → (∀ p ∈ cs, LamX.TabB base mg p.1 p.2) → Env0 P w K mg base callerA [] st H → (∀ p ∈ cs, H p.2 = some (.tbl #[])) → (∀ z ∈ cs.map (·.2), z ≠ a) → SqL K H a (zs.map V.int) → (Rd H a (.lst (zs.map V.int)) ∨ SqL K (fun _ => none) a (zs.map V.int)) →
      codeAny (model P w) callerA (.call (.ref fa) ⟨[.ref a], []⟩) (CR CX0 [] P w H st (fun v _ => v = .bl true) E0) st) :
    codeAny (model P w) callerA (.call (.ref fa) ⟨[.ref a], []⟩) (fun r s' => r = .ok (.ret (.bool true)) ∧ OldK st.heap s'.heap ∧ s'.os = st.os ∧ AllBare s'.gens) st := by
  have rels := vals_ints hint
  have nums := hint.length
  generalize hTs : cs.map (·.2) = T at go
  have inT : ∀ p ∈ cs, p.2 ∈ T := fun p hp => hTs ▸ List.mem_map.mpr ⟨p, hp, rfl⟩
  have ofT : ∀ z ∈ T, ∃ p ∈ cs, p.2 = z := fun z hz => by
    rw [← hTs] at hz
    exact List.mem_map.mp hz
  have objT : ∀ z ∈ T, st.heap.get? z = some { cls := .none, data := .fields #[] } := fun z hz => by
    obtain ⟨p, hp, rfl⟩ := ofT z hz
    exact tabs p hp
  have scrT : a ∉ T := fun hz => by
    have hz := objT a hz
    rw [scr] at hz
    have hz : Data.seq us.toArray _ = Data.fields #[] := congrArg Obj.data (Option.some.inj hz)
    cases hz
  let own : Bool := (K.lookup a).isNone
  let H : Hp := H0 T own a { cls := .type "list", data := .seq us.toArray } zs
  have cases0 : ∀ z, H z = none ∨ z ∈ T ∨ (z = a ∧ own = true ∧ H z = some (.frz { cls := .type "list", data := .seq us.toArray } (.lst (zs.map V.int)))) := fun z => H0_cases
  -- nothing else is tracked
  have bare : ∀ {z : Addr} {o : Obj}, st.heap.get? z = some o → (∀ xs n, o.data ≠ .seq xs n) → o.data ≠ .fields #[] → H z = none := fun {z o} e n1 n2 => by
    rcases cases0 z with q | q | ⟨q, _⟩
    · exact q
    · rw [objT z q] at e
      cases e
      exact absurd rfl n2
    · rw [q, scr] at e
      cases e
      exact absurd rfl (n1 _ _)
  have dict : ∀ {z : Addr} {o : Obj} {es : Array DictEntry} {ep : Nat}, st.heap.get? z = some o → o.data = .dict es ep → H z = none := fun {z o es ep} e d => bare e (fun xs n q => by rw [d] at q; cases q) fun q => by rw [d] at q; cases q
  have low : ∀ {z : Addr} {o : Obj}, st.heap.get? z = some o → H z = none → (hidT st.heap H).get? z = some o := fun e n => hidT_get e n
  have space : ∀ {z : Addr} {m : Str → Option Value}, st.heap.Ns z m → (hidT st.heap H).Ns z m := fun {z m} ⟨o, es, ep, e, d, r⟩ => ⟨o, es, ep, low e (dict e d), d, r⟩
  have kbase : K.In (hidT st.heap H) := fun z o e => low (kin z o e) (by
    rcases cases0 z with q | q | ⟨rfl, q, _⟩
    · exact q
    · obtain ⟨p, hp, rfl⟩ := ofT z q
      rw [tabK p hp] at e
      cases e
    · have q : (K.lookup z).isNone = true := q
      rw [e] at q
      cases q)
  have okM : L2.Mod K mg (hidT st.heap H) := ⟨kbase, space gm, ⟨mb, space gb, gbb⟩, nl.elim fun m q => ⟨m, space q.1, q.2⟩⟩
  have okH : HOk P w H st.heap := fun z u e => by
    rcases cases0 z with q | q | ⟨rfl, q, q2⟩
    · rw [q] at e
      cases e
    · have q3 : H z = some (.tbl #[]) := H0_tab q
      rw [q3] at e
      cases e
      exact objT z q
    · have q2 : H z = _ := q2
      rw [q2] at e
      cases e
      exact ⟨scr, by rw [List.length_map]; exact le, us, _, rels, scr⟩
  have env : Env0 P w K mg (hidT st.heap H) callerA [] st H := ⟨rfl, okM, fun z o e => of_hidT e, Nat.le_of_eq (hidT_size _ _), trivial, fun z hz => absurd hz (by simp [frs]), okH, .of_eq ge⟩
  have tab : ∀ p ∈ cs, LamX.TabB (hidT st.heap H) mg p.1 p.2 := fun p hp => by
    have noG : ∀ {z : Addr} {o : Obj}, st.heap.get? z = some o → (∀ es ep, o.data ≠ .dict es ep) → z ≠ mainGlobals := fun {z o} e n q => by
      obtain ⟨o2, es, ep, e2, d2, _⟩ := gm
      rw [q, e2] at e
      cases e
      exact n _ _ d2
    refine ⟨?_, ?_, fun q => noG (tabs p hp) (fun _ _ q => by cases q) q.symm⟩
    · obtain ⟨o, cf, f1, f2, f3, f4, f5, f6, f7, g, g1, g2, g3, g4⟩ := code p hp
      refine ⟨o, cf, f1, f2, f3, f4, f5, f6, f7, low g (bare g (fun xs n q => ?_) fun q => ?_), g1, g2, g3, g4⟩
      · rw [g2] at q
        cases q
      · rw [g2] at q
        cases q
        cases g3
    · obtain ⟨m, o, b1, b2, b3, b4, b5, b6⟩ := bmod
      have pl : ∀ {d}, o.data = d → d = .plain := fun q => q.symm.trans b6
      refine ⟨m, o, b1, b2, noG b3 (fun es ep q => (nomatch pl q)), fun q => ?_, low b3 (bare b3 (fun xs n q => nomatch pl q) fun q => nomatch pl q), b4, b5, b6⟩
      have q2 := tabs p hp
      rw [← q, b3] at q2
      cases q2
      cases b6
  have read : Rd H a (.lst (zs.map V.int)) ∨ SqL K (fun _ => none) a (zs.map V.int) := by
    cases hk : K.lookup a with
    | none => exact .inl (.inr ⟨_, H0_scr scrT (by show (K.lookup a).isNone = true; rw [hk]; rfl)⟩)
    | some o =>
      have e := kin a o hk
      rw [scr] at e
      cases e
      exact .inr (.inr ⟨_, us.toArray, _, hk, rfl, rfl, rfl, by rw [List.size_toArray, nums]; exact le, by simpa using rels⟩)
  have seq : SqL K H a (zs.map V.int) := read.elim .inl SqL.up
  refine codeAny_mono (go _ H kbase tab env (fun p hp => H0_tab (inT p hp)) (fun z hz q => scrT (q ▸ hz)) seq read) fun r s' res => ?_
  cases r with
  | error e => exact res.elim
  | ok fl =>
    cases fl with
    | next => exact res.elim
    | brk => exact res.elim
    | cont => exact res.elim
    | ret u =>
      obtain ⟨v, H', same, gens, un, ok', rv, rfl⟩ := res
      obtain rfl : u = Value.bool true := rv
      have kept : ∀ z o, z ∉ T → st.heap.get? z = some o → s'.heap.get? z = some o := fun z o nz e => by
        rcases cases0 z with q | q | ⟨rfl, q, q2⟩
        · exact un.keep z o e q (fun hz => nomatch (show z ∈ ([] : List Addr) from hz)) (by simp)
        · exact absurd q nz
        · have q3 := un.frzs z _ _ q2
          rw [scr] at e
          cases e
          exact (ok' z _ q3).1
      have grew : ∀ z ∈ T, ∃ more : Array Value, s'.heap.get? z = some { cls := .none, data := .fields more } := fun z hz => by
        obtain ⟨more, q⟩ := un.tbls z #[] (H0_tab hz)
        exact ⟨_, ok' z _ q⟩
      refine ⟨rfl, ⟨fun z o e => ?_, fun z o e => ?_⟩, same, gens⟩
      · by_cases hz : z ∈ T
        · obtain ⟨p, hp, rfl⟩ := ofT z hz
          obtain ⟨more, q⟩ := grew p.2 hz
          rw [tabs p hp] at e
          cases e
          exact .inr (.inl ⟨((code p hp).tab (tabs p hp)).isCodeTable, rfl, #[], more, rfl, by rw [Array.empty_append]; exact q⟩)
        · exact .inl (kept z o hz e)
      · by_cases hz : z ∈ T
        · obtain ⟨more, q⟩ := grew z hz
          exact ⟨_, q⟩
        · exact ⟨o, kept z o hz e⟩
end HP

set_option Elab.async false
set_option linter.all false
set_option maxRecDepth 10000
set_option maxHeartbeats 1000000
/-! The evaluator, part 8: a law's program as data; what a look at the heap behind the top says of it. -/
namespace HP
open PySem PySem.Spec PyProof.Rows L2
/-- one def as data: its own syntax, its names, its parameters, what the text says of it -/
structure DE where
  id : Nat
  d : FnD
  N : List Str
  ps : List Str
  dd : He.DefD
def lkN {α : Type} (k : Nat) : List (Nat × α) → Option α
  | [] => none
  | p :: r => match Nat.beq p.1 k with
    | true => some p.2
    | false => lkN k r
theorem lkN_mem {α : Type} {k : Nat} {a : α} : ∀ {l : List (Nat × α)}, lkN k l = some a → (k, a) ∈ l
  | [], h => nomatch h
  | p :: r, h => by
    unfold lkN at h
    split at h
    · rename_i e
      cases h
      obtain rfl := Nat.eq_of_beq_eq_true e
      exact List.mem_cons_self
    · exact List.mem_cons_of_mem _ (lkN_mem h)
def lkD (k : Nat) : List DE → Option DE
  | [] => none
  | p :: r => match Nat.beq p.id k with
    | true => some p
    | false => lkD k r
theorem lkD_mem {k : Nat} {a : DE} : ∀ {l : List DE}, lkD k l = some a → a ∈ l ∧ a.id = k
  | [], h => nomatch h
  | p :: r, h => by
    unfold lkD at h
    split at h
    · rename_i e
      cases h
      exact ⟨List.mem_cons_self, Nat.eq_of_beq_eq_true e⟩
    · exact ⟨List.mem_cons_of_mem _ (lkD_mem h).1, (lkD_mem h).2⟩
structure Lw where
  gcd : Bool := false
  fns : List DE
  cls : List (Nat × ClD)
  csts : List (Nat × X) := []
  fnN : List (Nat × Str)
  clN : List (Nat × Str)
  csN : List (Nat × Str) := []
  fld : List Str
  lamF : List (Nat × List Nat) := []
  lamN : List Str := ["?"]
  kws : List (Nat × List Str × List Nat) := []
  probe : Nat := 0
  /-- what is looked at besides -/
  ex : PySem.W.Frag → Bool := fun _ => true
def Lw.T (L : Lw) : Tb := ⟨L.gcd, fun f => (lkN f L.fnN).getD "", fun c => (lkN c L.clN).getD "", fun k => (lkN k L.csN).getD "", fun f => L.fld.getD f "", fun f => lkN f L.lamF, L.lamN, L.kws⟩
def Lw.P (L : Lw) : Pg := ⟨fun f => (lkD f L.fns).map (·.d), fun c => lkN c L.cls, fun k => lkN k L.csts, fun f => lkN f L.lamF, L.probe⟩
def Lw.fa (L : Lw) (K : PySem.W.Frag) (f : Nat) : Addr := match lkD f L.fns with
  | some e => He.fAd K e.dd.at_
  | none => 0
def Lw.W (L : Lw) (hn : L.fld.Nodup) (K : PySem.W.Frag) (tab : Option (Addr × Str)) (tabc : Option Addr) : Wd where
  K := K
  ca := fun c => He.ga K (L.T.cl c)
  fa := L.fa K
  T := L.T
  P := L.P
  nf := L.fld.length
  Z := []
  tab := tab
  tabc := tabc
  inj := fun f g hf hg e => by
    have e : L.fld.getD f "" = L.fld.getD g "" := e
    rw [List.getD_eq_getElem?_getD, List.getD_eq_getElem?_getD, List.getElem?_eq_getElem hf, List.getElem?_eq_getElem hg] at e
    exact (List.getElem_inj hn).mp e
/-! ### values that the text's constants hold -/
mutual
def valB (K : PySem.W.Frag) : X → Value → Bool
  | .non, .none => true
  | .bl b, .bool c => b == c
  | .int i, .int j _ => decide (i = j)
  | .str s, .str z _ => decide (s = z)
  | .tup xs, .ref a => match K.lookup a with
    | some ⟨.type c, _, .seq its _, _⟩ => decide (c = "tuple") && (decide (its.size ≤ sizeLine) && valsB K xs its.toList)
    | _ => false
  | _, _ => false
def valsB (K : PySem.W.Frag) : List X → List Value → Bool
  | [], [] => true
  | x :: xs, u :: us => valB K x u && valsB K xs us
  | _, _ => false
end
mutual
theorem valB_ok {W : Wd} : ∀ {x : X} {u : Value}, valB W.K x u = true → ∃ v, L2.RelV v u ∧ ∀ Z φ H, Rep (W.z Z) φ H x v
  | .non, u, h => by
    cases u <;> first | (exact absurd h Bool.false_ne_true) | exact ⟨.non, rfl, fun _ _ _ => rep_non⟩
  | .bl b, u, h => by
    cases u <;> first | (exact absurd h Bool.false_ne_true) | skip
    rename_i c
    have h : (b == c) = true := h
    exact ⟨.bl b, by rw [eq_of_beq h]; rfl, fun _ _ _ => rep_bl⟩
  | .int i, u, h => by
    cases u <;> first | (exact absurd h Bool.false_ne_true) | skip
    rename_i j t
    obtain rfl : i = j := of_decide_eq_true h
    exact ⟨.int i, ⟨t, rfl⟩, fun _ _ _ => rep_int⟩
  | .str i, u, h => by
    cases u <;> first | (exact absurd h Bool.false_ne_true) | skip
    rename_i j t
    obtain rfl : i = j := of_decide_eq_true h
    exact ⟨.str i, ⟨t, rfl⟩, fun _ _ _ => rep_str⟩
  | .tup xs, u, h => by
    cases u <;> first | (exact absurd h Bool.false_ne_true) | skip
    rename_i a
    have h : (match W.K.lookup a with | some ⟨.type c, _, .seq its _, _⟩ => decide (c = "tuple") && (decide (its.size ≤ sizeLine) && valsB W.K xs its.toList) | _ => false) = true := h
    split at h
    · rename_i c d its n sl hk
      simp only [Bool.and_eq_true, decide_eq_true_eq] at h
      obtain ⟨h1, h2, h3⟩ := h
      subst h1
      obtain ⟨vs, r, q⟩ := valsB_ok h3
      exact ⟨.ref a, rfl, fun Z φ H => ⟨a, vs, rfl, .inr (.inr ⟨_, its, n, hk, rfl, rfl, h2, r⟩), q Z φ H⟩⟩
    · cases h
  | .lst _, u, h => by cases u <;> exact absurd h Bool.false_ne_true
  | .ins _ _, u, h => by cases u <;> exact absurd h Bool.false_ne_true
  | .fn _, u, h => by cases u <;> exact absurd h Bool.false_ne_true
  | .ob _, u, h => by cases u <;> exact absurd h Bool.false_ne_true
  | .scr _, u, h => by cases u <;> exact absurd h Bool.false_ne_true
  | .lam _, u, h => by cases u <;> exact absurd h Bool.false_ne_true
theorem valsB_ok {W : Wd} : ∀ {xs : List X} {us : List Value}, valsB W.K xs us = true → ∃ vs, Vals vs us ∧ ∀ Z φ H, Reps (W.z Z) φ H xs vs
  | [], [], _ => ⟨[], .nil, fun _ _ _ => rfl⟩
  | [], _ :: _, h => absurd h Bool.false_ne_true
  | _ :: _, [], h => absurd h Bool.false_ne_true
  | x :: xs, u :: us, h => by
    have h : (valB W.K x u && valsB W.K xs us) = true := h
    simp only [Bool.and_eq_true] at h
    obtain ⟨v, r1, q1⟩ := valB_ok h.1
    obtain ⟨vs, r2, q2⟩ := valsB_ok h.2
    exact ⟨v :: vs, .cons r1 r2, fun Z φ H => ⟨v, vs, rfl, q1 Z φ H, q2 Z φ H⟩⟩
end
/-! ### the looks -/
open He (eqO eqO_ok)
def atG (W : Wd) (x : Str) (v : Value) : Bool := eqO (PySem.W.nsIn W.K mainGlobals x) (some (some v))
def fnB (W : Wd) (C : Addr) (m : Str) (f : Nat) : Bool := eqO (PySem.W.findIn W.K (.ref C) m) (some (some (.ref (W.fa f)))) && PySem.W.isFn W.K (.ref (W.fa f))
def eqB (W : Wd) (c : Nat) (m : Str) : Option Nat → Bool
  | none => true
  | some f => fnB W (W.ca c) m f && (W.P.fn f).isSome && (dflX W.P f 2).isEmpty
def clB (W : Wd) (cs : List (Nat × ClD)) (c : Nat) (d : ClD) : Bool :=
  PySem.W.plainGet W.K (W.ca c) Str.empty && PySem.W.hasDictIn W.K (W.ca c) && PySem.W.plainOver W.K (W.ca c) && eqO (PySem.W.findIn W.K (.ref (W.ca c)) "__setattr__") (some (some (.builtin "object.__setattr__"))) &&
  d.flds.all (fun f => eqO (PySem.W.findIn W.K (.ref (W.ca c)) (W.T.fld f)) (some none) && decide (f < W.nf)) &&
  d.mths.all (fun p => fnB W (W.ca c) (W.T.fld p.1) p.2 && PySem.W.keepIn W.K (.ref (W.fa p.2)) && decide (p.1 ∉ d.flds) && decide (p.1 < W.nf)) &&
  PySem.W.makesIn W.K (W.ca c) && PySem.W.keepIn W.K (.ref (W.ca c)) &&
  (match d.init with
    | some f => fnB W (W.ca c) "__init__" f
    | none => eqO (PySem.W.findIn W.K (.ref (W.ca c)) "__init__") (some (some (.builtin "object.__init__")))) &&
  eqO (PySem.W.findIn W.K (.ref (W.ca c)) "__class__") (some (some (.builtin "object.__class__"))) && decide (PySem.W.mroIn W.K (W.ca c) (.type "object") = some true) &&
  eqB W c "__eq__" d.eq && eqB W c "__ne__" d.ne && (!(d.eq.isSome || d.ne.isSome) || cs.all fun p => PySem.W.notFirst W.K (W.ca c) (.ref (W.ca p.1)))
def kds (cs : List (Nat × ClD)) : List Kd := [.non, .bl, .int, .str, .tup, .lst, .dct] ++ cs.map fun p => .ins p.1
def tks (cn : List (Nat × Str)) : List Tk := [.tint, .tbool, .tstr, .tlist, .ttuple, .tnone] ++ cn.map fun p => .cls p.1
def kitB (W : Wd) (k : Kd) (t : Tk) : Bool := match kdIs k t with
  | some b => decide (PySem.W.kitOne W.K (k.val W) (t.val W) = some b)
  | none => true
def okB (L : Lw) (W : Wd) : Bool :=
  L.fnN.all (fun p => atG W p.2 (.ref (W.fa p.1))) && L.clN.all (fun p => atG W p.2 (.ref (W.ca p.1))) &&
  L.csts.all (fun p => match PySem.W.nsIn W.K mainGlobals (W.T.cst p.1) with
    | some (some u) => valB W.K p.2 u
    | _ => false) &&
  bnames.all (fun x => eqO (PySem.W.nsIn W.K mainGlobals x) (some none)) && (!L.gcd || atG W "gcd" (.builtin "math.gcd")) &&
  L.fns.all (fun e => PySem.W.keepIn W.K (.ref (W.fa e.id))) && L.cls.all (fun p => clB W L.cls p.1 p.2) &&
  decide (PySem.W.specialIn W.K (.builtin "object.__class__") "__get__" = some (some (.builtin "getset_descriptor.__get__"))) && decide (PySem.W.takesIn W.K (.builtin "object.__class__") = some true) &&
  (kds L.cls).all fun k => (tks L.clN).all fun t => kitB W k t
theorem getD_size {α : Type} {k : Nat} {l : List (Nat × Str)} (h : ((lkN k l).getD "").cps.size ≠ 0) : ∃ x, lkN k l = some x ∧ (lkN k l).getD "" = x := by
  cases e : lkN k l with
  | none => rw [e] at h; exact absurd rfl h
  | some x => exact ⟨x, rfl, rfl⟩
theorem eqB_ok {W : Wd} {c : Nat} {m : Str} {o : Option Nat} (h : eqB W c m o = true) : ∀ f, o = some f → PySem.W.findIn W.K (.ref (W.ca c)) m = some (some (.ref (W.fa f))) ∧ PySem.W.isFn W.K (.ref (W.fa f)) = true ∧ (W.P.fn f).isSome = true ∧ dflX W.P f 2 = [] := fun f e => by
  subst e
  unfold eqB fnB at h
  simp only [Bool.and_eq_true] at h
  exact ⟨eqO_ok h.1.1.1, h.1.1.2, h.1.2, by simpa using h.2⟩
theorem clB_ok {W : Wd} {cs : List (Nat × ClD)} {c : Nat} {d : ClD} (hcs : ∀ c2, (W.P.cl c2).isSome = true → ∃ d2, (c2, d2) ∈ cs) (h : clB W cs c d = true) : ClFacts W c d := by
  unfold clB at h
  simp only [Bool.and_eq_true] at h
  obtain ⟨⟨⟨⟨⟨⟨⟨⟨⟨⟨⟨⟨⟨h1, h2⟩, h3⟩, h4⟩, h5⟩, h6⟩, h7⟩, h8⟩, h9⟩, h10⟩, h11⟩, h12⟩, h13⟩, h14⟩ := h
  refine ⟨⟨h1, h2, h3, eqO_ok h4⟩, fun f hf => ?_, fun p hp => ?_, fun f hf => ?_, fun hn => ?_, ⟨eqO_ok h10, of_decide_eq_true h11⟩, eqB_ok h12, eqB_ok h13, fun he c2 hc2 => ?_⟩
  · have := List.all_eq_true.mp h5 f hf
    simp only [Bool.and_eq_true, decide_eq_true_eq] at this
    exact ⟨eqO_ok this.1, this.2⟩
  · have := List.all_eq_true.mp h6 p hp
    unfold fnB at this
    simp only [Bool.and_eq_true, decide_eq_true_eq] at this
    obtain ⟨⟨⟨⟨a, b⟩, c⟩, d⟩, e⟩ := this
    exact ⟨⟨eqO_ok a, b, c⟩, d, e⟩
  · rw [hf] at h9
    unfold fnB at h9
    simp only [Bool.and_eq_true] at h9
    exact ⟨h7, eqO_ok h9.1, h9.2, h8⟩
  · rw [hn] at h9
    exact ⟨h7, eqO_ok h9, h8⟩
  · obtain ⟨d2, hm⟩ := hcs c2 hc2
    have h14 : (!(d.eq.isSome || d.ne.isSome) || cs.all fun p => PySem.W.notFirst W.K (W.ca c) (.ref (W.ca p.1))) = true := h14
    have hb : (d.eq.isSome || d.ne.isSome) = true := by
      rcases he with he | he
      · rw [he]; rfl
      · rw [he, Bool.or_true]
    rw [hb] at h14
    exact List.all_eq_true.mp h14 _ hm
theorem Lw.facts (L : Lw) (hn : L.fld.Nodup) {K : PySem.W.Frag} {tab : Option (Addr × Str)} {tabc : Option Addr} {h : Heap} {mg : Str → Option Value} (X : K.In h) (G : h.Ns mainGlobals mg) (c : okB L (L.W hn K tab tabc) = true) : Facts (L.W hn K tab tabc) mg := by
  unfold okB at c
  simp only [Bool.and_eq_true] at c
  obtain ⟨⟨⟨⟨⟨⟨⟨⟨⟨h1, h2⟩, h3⟩, h4⟩, h5⟩, h6⟩, h7⟩, h8⟩, h9⟩, h10⟩ := c
  refine ⟨fun f hf => ?_, fun f hf => ?_, fun k x hk => ?_, fun x hx => ?_, fun hg => ?_, fun f d hf => ?_, fun c d hc => ?_, ⟨of_decide_eq_true h8, of_decide_eq_true h9⟩, fun k t b hb hk ht => ?_⟩
  · obtain ⟨x, e1, e2⟩ := getD_size (α := Nat) (show ((lkN f L.fnN).getD "").cps.size ≠ 0 from hf)
    show mg ((lkN f L.fnN).getD "") = _
    rw [e2]
    exact PySem.W.mg_of X G (eqO_ok (List.all_eq_true.mp h1 _ (lkN_mem e1)))
  · obtain ⟨x, e1, e2⟩ := getD_size (α := Nat) (show ((lkN f L.clN).getD "").cps.size ≠ 0 from hf)
    show mg ((lkN f L.clN).getD "") = _
    rw [e2]
    exact PySem.W.mg_of X G (eqO_ok (List.all_eq_true.mp h2 _ (lkN_mem e1)))
  · have := List.all_eq_true.mp h3 _ (lkN_mem (show lkN k L.csts = some x from hk))
    split at this
    · rename_i u hu
      obtain ⟨v, r, q⟩ := valB_ok this
      exact ⟨u, v, PySem.W.mg_of X G hu, r, q⟩
    · cases this
  · exact PySem.W.mg_none_of X G (eqO_ok (List.all_eq_true.mp h4 x hx))
  · have hg : L.gcd = true := hg
    rw [hg, Bool.not_true, Bool.false_or] at h5
    unfold atG at h5
    exact PySem.W.mg_of X G (eqO_ok h5)
  · have hf : (lkD f L.fns).map (·.d) = some d := hf
    rw [Option.map_eq_some_iff] at hf
    obtain ⟨e, he, _⟩ := hf
    obtain ⟨m1, rfl⟩ := lkD_mem he
    exact List.all_eq_true.mp h6 e m1
  · have h7' : clB (L.W hn K tab tabc) L.cls c d = true := List.all_eq_true.mp h7 (c, d) (lkN_mem (show lkN c L.cls = some d from hc))
    refine clB_ok (W := L.W hn K tab tabc) (cs := L.cls) (fun c2 h2 => ?_) h7'
    have h2 : (lkN c2 L.cls).isSome = true := h2
    obtain ⟨d2, h2⟩ := Option.isSome_iff_exists.mp h2
    exact ⟨d2, lkN_mem h2⟩
  · have hkm : k ∈ kds L.cls := by
      cases k with
      | ins c =>
        obtain ⟨d2, h2⟩ := Option.isSome_iff_exists.mp (hk c rfl)
        exact List.mem_append_right _ (List.mem_map.mpr ⟨_, lkN_mem h2, rfl⟩)
      | _ => exact List.mem_append_left _ (by simp)
    have htm : t ∈ tks L.clN := by
      cases t with
      | cls c =>
        obtain ⟨x, e1, e2⟩ := getD_size (α := Nat) (show ((lkN c L.clN).getD "").cps.size ≠ 0 from ht c rfl)
        exact List.mem_append_right _ (List.mem_map.mpr ⟨_, lkN_mem e1, rfl⟩)
      | _ => exact List.mem_append_left _ (by simp)
    have := List.all_eq_true.mp (List.all_eq_true.mp h10 k hkm) t htm
    unfold kitB at this
    rw [hb] at this
    exact of_decide_eq_true this
end HP

set_option Elab.async false
set_option linter.all false
set_option maxRecDepth 10000
set_option maxHeartbeats 1000000
/-! The evaluator, part 9: a law. -/
namespace HP
open PySem PySem.Spec PyProof.Rows L2
/-! ### how arguments come to parameters -/
theorem lk_zip {α β : Type} [BEq α] [LawfulBEq α] : ∀ {ps : List α} {us : List β}, us.length = ps.length → ∀ n ∈ ps, ((ps.zip us).lookup n).isSome = true
  | [], _, _, n, h => by cases h
  | p :: ps, [], hl, _, _ => by cases hl
  | p :: ps, u :: us, hl, n, h => by
    rw [List.zip_cons_cons, List.lookup_cons]
    cases hb : n == p with
    | true => rfl
    | false =>
      rcases List.mem_cons.mp h with rfl | h
      · rw [beq_self_eq_true] at hb; cases hb
      · exact lk_zip (by simpa using hl) n h
theorem zip_self {α β : Type} [BEq α] [LawfulBEq α] : ∀ {ps : List α} {us : List β}, ps.Nodup → us.length = ps.length → ps.filterMap (fun n => ((ps.zip us).lookup n).map (n, ·)) = ps.zip us := by
  intro ps us nd hl
  have key : ∀ (qs : List α) (ws : List β) (pre : List (α × β)), qs.Nodup → ws.length = qs.length → (∀ q ∈ qs, pre.lookup q = none) → qs.filterMap (fun n => ((pre ++ qs.zip ws).lookup n).map (n, ·)) = qs.zip ws := by
    intro qs
    induction qs with
    | nil => intros; rfl
    | cons q qs ih =>
      intro ws pre nd hl hp
      cases ws with
      | nil => cases hl
      | cons u ws =>
        have nd' := List.nodup_cons.mp nd
        rw [List.zip_cons_cons, List.filterMap_cons]
        have e1 : (pre ++ (q, u) :: qs.zip ws).lookup q = some u := by
          rw [List.lookup_append, hp q List.mem_cons_self]
          simp [List.lookup_cons]
        rw [e1]
        show (q, u) :: _ = _
        congr 1
        have := ih ws (pre ++ [(q, u)]) nd'.2 (by simpa using hl) (fun r hr => by
          rw [List.lookup_append, hp r (List.mem_cons_of_mem _ hr)]
          have : (r == q) = false := by
            rw [beq_eq_false_iff_ne]
            exact fun z => nd'.1 (z ▸ hr)
          simp [List.lookup_cons, this])
        rw [List.append_assoc] at this
        exact this
  have := key ps us [] nd hl (fun _ _ => rfl)
  exact this
theorem bind_plain {fd : FuncData} {as : List Arg} {ps : List Str} {us : List Value} (hp : fd.params = ⟨[], as, none, [], [], none, []⟩) (hd : fd.defaults = .none) (ha : as.map (·.arg) = ps) (nd : ps.Nodup) (hl : us.length = ps.length) : bindArgs fd ⟨us, []⟩ = pure (ps.zip us) := by
  have h1 := lk_zip hl
  have h2 := zip_self nd hl
  have h3 : (ps.filter fun n => ((ps.zip us).lookup n).isNone) = [] := by
    rw [List.filter_eq_nil_iff]
    intro n hn
    have := h1 n hn
    cases hh : (ps.zip us).lookup n with
    | none => rw [hh] at this; cases this
    | some _ => simp
  unfold bindArgs
  simp [hp, hd, ha, hl, seqItems?, h3, h2]
  rfl
/-! ### what the text alone tells of a def -/
def scB (N ps : List Str) (sc : Scope) : Bool := decide (sc.kind = .function) && !sc.isCoroutine && !sc.isGenerator && decide N.Nodup && decide (N.take ps.length = ps) && ps.all (fun x => isLoc sc x || isCel sc x) && sc.names.all (fun y => !decide (y.2 = .free))
def parP (ps : List Str) : Arguments → Bool
  | ⟨[], as, none, [], [], none, []⟩ => decide (as.map (·.arg) = ps)
  | _ => false
def statB (T : Tb) (e : DE) : Bool := scB e.N e.ps e.dd.scope && decide (e.ps.length = e.d.np) && decide (e.N.length = e.d.ns) && chSs T e.N e.d.body e.dd.scope e.dd.body && e.dd.kwd.isEmpty && (!e.dd.dfl.isEmpty || parP e.ps e.dd.params && e.d.dfl.isEmpty)
theorem scB_ok {N ps : List Str} {sc : Scope} (h : scB N ps sc = true) : FnScope N ps sc := by
  unfold scB at h
  simp only [Bool.and_eq_true, Bool.or_eq_true, Bool.not_eq_true', decide_eq_true_eq, decide_eq_false_iff_not, List.all_eq_true] at h
  obtain ⟨⟨⟨⟨⟨⟨h1, h2⟩, h3⟩, h4⟩, h5⟩, h6⟩, h7⟩ := h
  refine ⟨h1, h2, h3, h4, h5, fun x hx => (h6 x hx).imp (fun z => ?_) (fun z => ?_), fun y hy => h7 y hy⟩
  · unfold isLoc at z
    split at z
    · assumption
    · cases z
  · unfold isCel at z
    split at z
    · assumption
    · cases z
section
variable (L : Lw) (hn : L.fld.Nodup)
/-- how the code objects of lambdas are named -/
def Lw.lamQ : Option Nat → Str
  | some f => match lkD f L.fns with
    | some e => (e.dd.qual ++ ".<locals>.") ++ "<lambda>"
    | none => ""
  | none => ""
abbrev Lw.Wc (K : PySem.W.Frag) (lf : Option Nat) (cs : Option (Addr × Addr)) : Wd := L.W hn K (cs.map fun p => (p.2, L.lamQ lf)) (cs.map fun p => p.1)
/-- the defaults of a def are bound -/
def BindD (K : PySem.W.Frag) (e : DE) : Prop := ∀ fd, FunD K e.dd.name e.dd.qual e.dd.params e.dd.body e.dd.scope (e.dd.dvs K) [] (He.fAd K e.dd.at_) fd → ∀ (s : Shared) (us : List Value) (n : Nat), K.In s.heap → us.length = n → n + (dflX L.P e.id n).length = e.d.np →
  ∃ ds dv, BindsTo s fd ⟨us, []⟩ (e.ps.zip (us ++ ds)) ∧ Vals dv ds ∧ ∀ (W : Wd), W.K = K → ∀ φ H, Reps W φ H (dflX L.P e.id n) dv
/-- keywords are bound -/
def BindK (K : PySem.W.Frag) (e : DE) (ks : List Str) (pm : List Nat) : Prop := ∀ fd, FunD K e.dd.name e.dd.qual e.dd.params e.dd.body e.dd.scope (e.dd.dvs K) [] (He.fAd K e.dd.at_) fd → ∀ (s : Shared) (u : Value) (ws ws' : List Value), K.In s.heap → ws.length = ks.length → permL pm ws = some ws' → ws'.length + 1 + (dflX L.P e.id (ws'.length + 1)).length = e.d.np →
  ∃ ds dv, BindsTo s fd ⟨[u], ks.zip ws⟩ (e.ps.zip (u :: ws' ++ ds)) ∧ Vals dv ds ∧ ∀ (W : Wd), W.K = K → ∀ φ H, Reps W φ H (dflX L.P e.id (ws'.length + 1)) dv
structure Lw.Good : Prop where
  stat : L.fns.all (statB L.T) = true
  dfl : ∀ K e, e ∈ L.fns → e.dd.dfl ≠ [] → L.ex K = true → e.dd.ok K = true → BindD L K e
  kws : ∀ K c ks pm cd e, (c, ks, pm) ∈ L.kws → lkN c L.cls = some cd → cd.init = some e.id → lkD e.id L.fns = some e → L.ex K = true → e.dd.ok K = true → BindK L K e ks pm
  lamN : L.lamN ≠ [("one" : Str)]
/-- what a look at the heap says -/
def Lw.Says (lf : Option Nat) (h : Heap) : Prop := ∃ (K : PySem.W.Frag) (cs : Option (Addr × Addr)), K.In h ∧ okB L (L.Wc hn K lf cs) = true ∧ L.ex K = true ∧ (L.fns.all fun e => e.dd.ok K) = true ∧ L.fns.map (fun e => He.fnW K e.dd.at_) = L.fns.map (fun e => e.dd.val) ∧
  (lf = none ∧ cs = none ∧ (L.fns.all fun e => !decide (e.N = L.lamN)) = true ∨ ∃ f c P oc od fd osl, lf = some f ∧ cs = some (c, P) ∧ PySem.W.codeHdIn K c P = true ∧ h.get? P = some { cls := .none, data := .fields #[] } ∧ K.lookup P = none ∧ K.lookup (L.fa K f) = some ⟨oc, od, .func fd, osl⟩ ∧ fd.code = .ref c ∧ (L.fns.all fun e => !decide (e.N = L.lamN) || Nat.beq e.id f) = true)
variable {L} {hn}
theorem Lw.defF (G : L.Good) {lf : Option Nat} {h : Heap} {K : PySem.W.Frag} {cs : Option (Addr × Addr)} (c1 : L.ex K = true) (c2 : (L.fns.all fun e => e.dd.ok K) = true) (c3 : L.fns.map (fun e => He.fnW K e.dd.at_) = L.fns.map (fun e => e.dd.val))
    (c4 : lf = none ∧ cs = none ∧ (L.fns.all fun e => !decide (e.N = L.lamN)) = true ∨ ∃ f c P oc od fd osl, lf = some f ∧ cs = some (c, P) ∧ PySem.W.codeHdIn K c P = true ∧ h.get? P = some { cls := .none, data := .fields #[] } ∧ K.lookup P = none ∧ K.lookup (L.fa K f) = some ⟨oc, od, .func fd, osl⟩ ∧ fd.code = .ref c ∧ (L.fns.all fun e => !decide (e.N = L.lamN) || Nat.beq e.id f) = true) :
    ∀ f d, (L.Wc hn K lf cs).P.fn f = some d → DefF (L.Wc hn K lf cs) f d := by
  intro f d hf
  have hf : (lkD f L.fns).map (·.d) = some d := hf
  rw [Option.map_eq_some_iff] at hf
  obtain ⟨e, he, rfl⟩ := hf
  obtain ⟨me, rfl⟩ := lkD_mem he
  have hok := List.all_eq_true.mp c2 e me
  have hst := List.all_eq_true.mp G.stat e me
  unfold statB at hst
  simp only [Bool.and_eq_true, decide_eq_true_eq] at hst
  obtain ⟨⟨⟨⟨⟨s1, s2⟩, s3⟩, s4⟩, s5⟩, s6⟩ := hst
  have hv : He.fnW K e.dd.at_ = e.dd.val := by
    obtain ⟨i, hi⟩ := List.mem_iff_getElem?.mp me
    have := congrArg (fun l => l[i]?) c3
    simp only [List.getElem?_map, hi, Option.map_some] at this
    exact Option.some.inj this
  obtain ⟨fd, F⟩ := He.DefD.funD hv hok
  have hkw : e.dd.kws K = [] := by
    have : e.dd.kwd = [] := by simpa using s5
    unfold He.DefD.kws
    rw [this]
    rfl
  rw [hkw] at F
  have hfa : (L.Wc hn K lf cs).fa e.id = He.fAd K e.dd.at_ := by
    show L.fa K e.id = _
    unfold Lw.fa
    rw [he]
  obtain ⟨oc, od, dV, kV, doc, pm, an, cdv, ct, osl, efd, lk, hcd, hD, hKw⟩ := F.ex
  refine ⟨e.dd.name, e.dd.qual, e.dd.params, e.dd.body, e.dd.scope, e.N, e.ps, oc, od, dV, kV, doc, pm, an, cdv, ct, osl, ?_, hcd, scB_ok s1, s2, s3, s4, fun s us n X hl hnp => ?_, fun c ks pm' cd hm hc hi s u ws ws' X hl hp hnp => ?_, fun hN => ?_⟩
  · rw [hfa, ← efd]
    exact lk
  · by_cases hd : e.dd.dfl = []
    · have s6 : (parP e.ps e.dd.params && e.d.dfl.isEmpty) = true := by
        rw [hd] at s6
        simpa using s6
      simp only [Bool.and_eq_true] at s6
      have hdx : ∀ n, dflX L.P e.id n = [] := fun n => by
        show (match (lkD e.id L.fns).map (·.d) with | some d => d.dfl.drop (d.dfl.length - (d.np - n)) | none => []) = []
        rw [he]
        have : e.d.dfl = [] := by simpa using s6.2
        show e.d.dfl.drop _ = []
        rw [this]
        exact List.drop_nil
      refine ⟨[], [], ?_, .nil, fun Z φ H => ?_⟩
      · rw [List.append_nil, ← efd]
        have hpar := s6.1
        unfold parP at hpar
        split at hpar
        · rename_i as hpp
          have hpar := of_decide_eq_true hpar
          refine .of_eq (bind_plain (as := as) ?_ ?_ hpar ?_ ?_)
          · rw [efd]; exact hpp
          · rw [efd]
            unfold He.DefD.dvs at hD
            rw [hd] at hD
            rcases hD with ⟨_, q⟩ | ⟨q, _⟩
            · exact q
            · exact absurd rfl q
          · exact (scB_ok s1).nd.sublist (by rw [← (scB_ok s1).pre]; exact List.take_sublist _ _)
          · have : (dflX (L.Wc hn K lf cs).P e.id n).length = 0 := by
              show (dflX L.P e.id n).length = 0
              rw [hdx]; rfl
            rw [hl, s2]
            omega
        · cases hpar
      · show Reps _ _ _ (dflX L.P e.id n) []
        rw [hdx]
        rfl
    · obtain ⟨ds, dv, h1, h2, h3⟩ := G.dfl K e me hd c1 hok fd F s us n X hl hnp
      exact ⟨ds, dv, by rw [← efd]; exact h1, h2, fun Z φ H => h3 _ rfl φ H⟩
  · obtain ⟨ds, dv, h1, h2, h3⟩ := G.kws K c ks pm' cd e hm hc hi he c1 hok fd F s u ws ws' X hl hp hnp
    exact ⟨ds, dv, by rw [← efd]; exact h1, h2, fun Z φ H => h3 _ rfl φ H⟩
  · have hN : e.N = L.lamN := hN
    rcases c4 with ⟨_, _, c4⟩ | ⟨f, c, P, oc', od', fd', osl', rfl, rfl, _, _, _, q1, q2, c4⟩
    · have := List.all_eq_true.mp c4 e me
      rw [hN] at this
      simp at this
    · have := List.all_eq_true.mp c4 e me
      rw [hN] at this
      simp at this
      have hid : e.id = f := this.elim (fun z => absurd rfl z) id
      subst hid
      have q1 : K.lookup (L.fa K e.id) = _ := q1
      rw [show L.fa K e.id = He.fAd K e.dd.at_ from hfa, lk] at q1
      cases q1
      subst efd
      refine ⟨c, P, q2, ?_, rfl⟩
      show some (P, L.lamQ (some e.id)) = _
      unfold Lw.lamQ
      simp only [he]
/-- a law holds, if the evaluator says so of each script -/
theorem Lw.walk (G : L.Good) {lf : Option Nat} {lawf : Nat} {ld : FnD} {l : PySem.W.OpenLaw} {q : Program} {loose : List Str} {XP : (Str → Option Value) → Heap → Prop} {d : DefRec} (h63 : l.most = some 63) (hdf : d.params.defaults = []) (hnm : d.name = L.T.fn lawf) (hne : (L.T.fn lawf).cps.size ≠ 0) (hld : L.P.fn lawf = some ld) (hd1 : dflX L.P lawf 1 = [])
    (ev : ∀ zs : List Int, zs.length ≤ 63 → (∀ z ∈ zs, Builtin.Int.intBits z ≤ 1048576) → ∃ n h', n ≤ 100 ∧ calls L.P n lawf [.scr (zs.map .int)] (if lf.isSome then [.tbl] else []) = .ok (.bl true) h') :
    PySem.W.WalkO q loose XP (fun _ h => L.Says hn lf h) l.row.toRowW d [] (fun f vs => PySem.call f vs) := by
  refine Att.attach_callB h63 hdf fun w s₀ st mg mb fa o pm cd doc a us zs Gr Y ho hd hcd hmg hobj hints hlen hbits hg => ?_
  obtain ⟨K, cs, kin, c1, c0, c2, c3, c4⟩ := Y
  have F := Lw.facts L hn (tab := cs.map fun p => (p.2, L.lamQ lf)) (tabc := cs.map fun p => p.1) kin Gr.T.g c1
  have D := Lw.defF (hn := hn) G c0 c2 c3 c4
  have lm : LamF (L.Wc hn K lf cs) := ⟨fun _ => rfl, G.lamN⟩
  have hfa : fa = (L.Wc hn K lf cs).fa lawf := by
    have e := F.fn lawf hne
    have e : mg (L.T.fn lawf) = some (.ref ((L.Wc hn K lf cs).fa lawf)) := e
    rw [← hnm, hmg] at e
    cases e
    rfl
  subst hfa
  obtain ⟨n, h', hn100, hev⟩ := ev zs hlen hbits
  have tabs : ∀ p ∈ cs.toList, st.heap.get? p.2 = some { cls := .none, data := .fields #[] } ∧ K.lookup p.2 = none ∧ PySem.W.CodeHd st.heap p.1 p.2 := fun p hp => by
    rcases c4 with ⟨_, rfl, _⟩ | ⟨f, c, P, oc', od', fd', osl', _, rfl, q1, q2, q3, _⟩
    · cases hp
    · have hp : p ∈ [(c, P)] := hp
      rw [List.mem_singleton.mp hp]
      exact ⟨q2, q3, PySem.W.codeHd_of_K kin q1⟩
  refine law_end (cs := cs.toList) kin Gr.T.g Gr.T.b Gr.T.builtins Gr.T.nolimit hg (fun p hp => (tabs p hp).1) (fun p hp => (tabs p hp).2.1) (fun p hp => (tabs p hp).2.2) Gr.T.bmain hobj hints (Nat.le_trans hlen (by decide)) fun base H kb tb env ht hta sq rd => ?_
  have low := defs_ok (P := l.prog) (w := w) (base := base) F D lm (fun c P' h1 ⟨q, h2⟩ => by
    rcases c4 with ⟨_, rfl, _⟩ | ⟨f, c', P, oc', od', fd', osl', _, rfl, _⟩
    · cases h1
    · cases h1
      cases h2
      exact tb (c', P) (List.mem_singleton.mpr rfl)) n
  refine low.fn lawf ld hld callerA ?_ rfl [] st H [.ref a] [.ref a] _ env (.cons rfl .nil) ?_
  · refine ⟨rfl, ?_, ?_⟩
    · have e1 : callerA.depth + 605 < recursionLimit := by decide
      omega
    · have e1 : callerA.units + 3400 < cLine := by decide
      omega
  · refine ⟨[], cs.toList.map (·.2), if lf.isSome then [.tbl] else [], [.scr (zs.map .int)], .bl true, h', ⟨.ref a, [], rfl, ⟨a, zs.map V.int, rfl, ?_, ?_⟩, rfl⟩, ?_, ?_, ?_⟩
    · rcases rd with rd | rd
      · exact .inl ⟨⟨fun z => hta a z rfl, fun z => (nomatch z)⟩, rd⟩
      · exact .inr rd
    · have : ∀ zs : List Int, Reps ((L.Wc hn K lf cs).z []) (cs.toList.map (·.2)) H (zs.map X.int) (zs.map V.int) := fun zs => by
        induction zs with
        | nil => rfl
        | cons z zs ih => exact ⟨_, _, rfl, rep_int, ih⟩
      exact this zs
    · rcases c4 with ⟨rfl, rfl, _⟩ | ⟨f, c', P, oc', od', fd', osl', rfl, rfl, _⟩
      · exact ⟨rfl, List.nodup_nil, fun z hz => (nomatch hz), fun l o e => (nomatch e), fun P q e => (nomatch e)⟩
      · refine ⟨rfl, by simp, fun z hz => (nomatch hz), fun l o e => ?_, fun P' q e => by cases e; rfl⟩
        cases l with
        | succ l => cases e
        | zero =>
          cases e
          refine ⟨P, rfl, #[], ht (c', P) (List.mem_singleton.mpr rfl), trivial, fun pos cv hcv => ?_⟩
          simp [codeAmong] at hcv
    · show calls L.P n lawf ([.scr (zs.map .int)] ++ dflX L.P lawf 1) _ = _
      rw [hd1]
      exact hev
    · intro φ' H' v _ _ r
      exact r
end
end HP

set_option Elab.async false
set_option linter.all false
set_option maxRecDepth 10000
set_option maxHeartbeats 1000000
/-! The evaluator: the look at the heap behind the top, as a hook. -/
namespace HP
open PySem PySem.Spec PyProof.Rows L2
section
variable (L : Lw) (hn : L.fld.Nodup)
def Lw.kOf (lf : Option Nat) (K : PySem.W.Frag) : Option (PySem.W.Frag × Option (Addr × Addr)) := match lf with
  | none => some (K, none)
  | some f => match K.lookup (L.fa K f) with
    | some ⟨_, _, .func fd, _⟩ => match fd.code with
      | .ref c => match K.lookup c with
        | some ⟨_, _, .fields vs, _⟩ => match (vs[11]? : Option Value) with
          | some (.ref P) => some (K.filter (fun p => !Nat.beq p.1 P), some (c, P))
          | _ => none
        | _ => none
      | _ => none
    | _ => none
def tblB : Option Obj → Bool
  | some ⟨.none, none, .fields a, sl⟩ => Nat.beq a.size 0 && Nat.beq sl.size 0
  | _ => false
def codeIs (c : Addr) : Option Obj → Bool
  | some ⟨_, _, .func fd, _⟩ => match fd.code with
    | .ref c' => Nat.beq c' c
    | _ => false
  | _ => false
def Lw.tabB (g : Addr → Option Obj) (K : PySem.W.Frag) (lf : Option Nat) (cs : Option (Addr × Addr)) : Bool := match lf, cs with
  | none, none => L.fns.all fun e => !decide (e.N = L.lamN)
  | some f, some (c, P) => PySem.W.codeHdIn K c P && tblB (g P) && (K.lookup P).isNone && codeIs c (K.lookup (L.fa K f)) && (L.fns.all fun e => !decide (e.N = L.lamN) || Nat.beq e.id f)
  | _, _ => false
def Lw.seeK (lf : Option Nat) (g : Addr → Option Obj) : Option (PySem.W.Frag × Option (Addr × Addr)) → Bool × List He.FnW
  | none => (false, [])
  | some (K, cs) => (okB L (L.Wc hn K lf cs) && L.ex K && (L.fns.all fun e => e.dd.ok K) && L.tabB g K lf cs, L.fns.map fun e => He.fnW K e.dd.at_)
def Lw.see (lf : Option Nat) (g : Addr → Option Obj) : Bool × List He.FnW := L.seeK hn lf g (L.kOf lf (He.frG g (He.asD g 5)))
variable {L} {hn}
theorem lookup_filter {P b : Addr} {o : Obj} : ∀ {K : PySem.W.Frag}, List.lookup b (K.filter fun p => !Nat.beq p.1 P) = some o → K.lookup b = some o
  | [], h => by cases h
  | (a, u) :: r, h => by
    rw [List.filter_cons] at h
    rw [List.lookup_cons]
    split at h
    · rw [List.lookup_cons] at h
      split at h
      · exact h
      · exact lookup_filter h
    · rename_i hn
      have ha : a = P := by
        have : Nat.beq a P = true := by simpa using hn
        exact Nat.eq_of_beq_eq_true this
      subst ha
      cases hb : (b == a) with
      | true =>
        obtain rfl := eq_of_beq hb
        exfalso
        have : ∀ K : PySem.W.Frag, List.lookup b (K.filter fun p => !Nat.beq p.1 b) = none := fun K => by
          induction K with
          | nil => rfl
          | cons p r ih =>
            rw [List.filter_cons]
            split
            · rename_i hp
              rw [List.lookup_cons]
              have : (b == p.1) = false := by
                rw [beq_eq_false_iff_ne]
                intro z
                rw [← z] at hp
                simp at hp
              rw [this]
              exact ih
            · exact ih
        rw [this] at h
        cases h
      | false => exact lookup_filter h
theorem Lw.see_ok {lf : Option Nat} {h : Heap} (e : L.see hn lf h.get? = (true, L.fns.map fun e => e.dd.val)) : L.Says hn lf h := by
  unfold Lw.see at e
  have kin : PySem.W.Frag.In (He.frG h.get? (He.asD h.get? 5)) h := He.frG_in
  generalize He.frG h.get? (He.asD h.get? 5) = K0 at e kin
  cases hk : L.kOf lf K0 with
  | none =>
    rw [hk] at e
    cases congrArg (fun z : Bool × List He.FnW => z.1) e
  | some r =>
    obtain ⟨K, cs⟩ := r
    rw [hk] at e
    have e1 : (okB L (L.Wc hn K lf cs) && L.ex K && (L.fns.all fun e => e.dd.ok K) && L.tabB h.get? K lf cs) = true := congrArg (fun z : Bool × List He.FnW => z.1) e
    have e2 : L.fns.map (fun e => He.fnW K e.dd.at_) = L.fns.map (fun e => e.dd.val) := congrArg (fun z : Bool × List He.FnW => z.2) e
    simp only [Bool.and_eq_true] at e1
    obtain ⟨⟨⟨c1, c0⟩, c2⟩, c3⟩ := e1
    have kin' : K.In h := by
      unfold Lw.kOf at hk
      split at hk
      · cases hk
        exact kin
      · split at hk
        · split at hk
          · split at hk
            · split at hk
              · cases hk
                exact fun b o e => kin b o (lookup_filter e)
              · cases hk
            · cases hk
          · cases hk
        · cases hk
    refine ⟨K, cs, kin', c1, c0, c2, e2, ?_⟩
    unfold Lw.tabB at c3
    split at c3
    · exact .inl ⟨rfl, rfl, c3⟩
    · rename_i f c P
      simp only [Bool.and_eq_true] at c3
      obtain ⟨⟨⟨⟨t1, t2⟩, t3⟩, t4⟩, t5⟩ := c3
      right
      have hP : h.get? P = some { cls := .none, data := .fields #[] } := by
        unfold tblB at t2
        split at t2
        · rename_i a sl ha
          simp only [Bool.and_eq_true] at t2
          have h1 : a = #[] := Array.eq_empty_of_size_eq_zero (Nat.eq_of_beq_eq_true t2.1)
          have h2 : sl = #[] := Array.eq_empty_of_size_eq_zero (Nat.eq_of_beq_eq_true t2.2)
          subst h1 h2
          exact ha
        · cases t2
      unfold codeIs at t4
      split at t4
      · rename_i oc od fd osl hfd
        split at t4
        · rename_i c' hc'
          obtain rfl := Nat.eq_of_beq_eq_true t4
          exact ⟨f, c', P, oc, od, fd, osl, rfl, rfl, t1, hP, by simpa using t3, hfd, hc', t5⟩
        · cases t4
      · cases t4
    · cases c3
theorem Lw.Says.keep {lf : Option Nat} {h h' : Heap} (s : L.Says hn lf h) (k : ∀ b o, h.get? b = some o → h'.get? b = some o) : L.Says hn lf h' := by
  obtain ⟨K, cs, h1, h2, h3, h4, h5, h6⟩ := s
  refine ⟨K, cs, h1.keeps k, h2, h3, h4, h5, h6.imp id ?_⟩
  rintro ⟨f, c, P, oc, od, fd, osl, a1, a2, a3, a4, a5⟩
  exact ⟨f, c, P, oc, od, fd, osl, a1, a2, a3, k _ _ a4, a5⟩
variable (L) (hn)
def Lw.hook (lf : Option Nat) : PySem.W.Hook where
  α := Bool × List He.FnW
  obs := fun s => L.see hn lf s.heap.get?
  val := fun _ => (true, L.fns.map fun e => e.dd.val)
  says := fun _ h => L.Says hn lf h
  of := fun _ _ e => Lw.see_ok e
  keeps := fun _ _ _ s k => s.keep k
def Lw.ob (lf : Option Nat) (s : PySem.W.SharedT) : Bool × List He.FnW := L.see hn lf (HandSHeadRun.getT s)
theorem Lw.ob_eq (lf : Option Nat) (s : PySem.W.SharedT) : L.ob hn lf s = (L.hook hn lf).obs s.abs := by
  have e : HandSHeadRun.getT s = s.abs.heap.get? := funext (HandSHeadRun.getT_eq s)
  show L.see hn lf (HandSHeadRun.getT s) = L.see hn lf s.abs.heap.get?
  rw [e]
end
end HP

set_option Elab.async false
set_option linter.all false
set_option maxRecDepth 10000
set_option maxHeartbeats 1000000
/-! The evaluator, step by step: equations for simp. -/
namespace HP
open PySem
theorem R.bnd_m {α β : Type} {r : R α} {f : α → M β} : R.bnd r f = match r with
    | .ok a h => f a h
    | .exc c fs h => .exc c fs h
    | .bad => .bad := by cases r <;> rfl
section
variable {P : Pg} {cl : Cll} {e : Env'} {h : Hq}
theorem s_var {i : Nat} : evE P cl (.var i) e h = getV e i h := rfl
theorem s_non : evE P cl .non e h = .ok .non h := rfl
theorem s_bl {b : Bool} : evE P cl (.bl b) e h = .ok (.bl b) h := rfl
theorem s_int {i : Int} : evE P cl (.int i) e h = .ok (.int i) h := rfl
theorem s_str {i : Str} : evE P cl (.str i) e h = .ok (.str i) h := rfl
theorem s_cst {k : Nat} : evE P cl (.cst k) e h = M.opt (P.cst k) h := rfl
theorem s_tup {es : Es} : evE P cl (.tup es) e h = (evEs P cl es e h).bnd fun xs h => if szSeq xs.length then .ok (.tup xs) h else .bad := rfl
theorem s_lst {m : Bool} {es : Es} : evE P cl (.lst m es) e h = (evEs P cl es e h).bnd (newL m) := rfl
theorem s_dct {ks : List Str} {vs : Es} : evE P cl (.dct ks vs) e h = (evEs P cl vs e (h ++ [.dct []])).bnd fun xs h1 => if xs.length = ks.length && decide ks.Nodup && decide (h1[h.length]? = some (.dct [])) then .ok (.ob h.length) (h1.set h.length (.dct ((ks.map .str).zip xs))) else .bad := rfl
theorem s_bin {m : Bool} {o : Op} {a b : E} : evE P cl (.bin m o a b) e h = (evE P cl a e h).bnd fun x h => (evE P cl b e h).bnd fun y => binX m o x y := rfl
theorem s_neg {a : E} : evE P cl (.neg a) e h = (evE P cl a e h).bnd fun x h => match x with | .int i => .ok (.int (-i)) h | _ => .bad := rfl
theorem s_cmp {o : Cp} {a b : E} : evE P cl (.cmp o a b) e h = (evE P cl a e h).bnd fun x h => (evE P cl b e h).bnd fun y => eqM P cl o x y := rfl
theorem s_chn {o p : Cp} {a b c : E} : evE P cl (.chn o p a b c) e h = (evE P cl a e h).bnd fun x h => (evE P cl b e h).bnd fun y => fun h => match cmpX o x y h with
    | some true => (evE P cl c e h).bnd fun z h1 => match cmpX p y z h1 with
      | some k => .ok (.bl k) h1
      | none => .bad
    | some false => .ok (.bl false) h
    | none => .bad := rfl
theorem s_and {a b : E} : evE P cl (.and a b) e h = (evE P cl a e h).bnd fun x h => (truM x h).bnd fun k h => if k then evE P cl b e h else .ok x h := by
  show (evE P cl a e h).bnd _ = _
  congr 1
  funext x h
  show (truM x h).bnd _ = _
  congr 1
  funext k h
  cases k <;> rfl
theorem s_or {a b : E} : evE P cl (.or a b) e h = (evE P cl a e h).bnd fun x h => (truM x h).bnd fun k h => if k then .ok x h else evE P cl b e h := by
  show (evE P cl a e h).bnd _ = _
  congr 1
  funext x h
  show (truM x h).bnd _ = _
  congr 1
  funext k h
  cases k <;> rfl
theorem s_not {a : E} : evE P cl (.not a) e h = (evE P cl a e h).bnd fun x h => (truM x h).bnd fun k h => .ok (.bl (!k)) h := rfl
theorem s_ite {c a b : E} : evE P cl (.ite c a b) e h = (evE P cl c e h).bnd fun x h => (truM x h).bnd fun k h => if k then evE P cl a e h else evE P cl b e h := by
  show (evE P cl c e h).bnd _ = _
  congr 1
  funext x h
  show (truM x h).bnd _ = _
  congr 1
  funext k h
  cases k <;> rfl
theorem s_idx {a i : E} : evE P cl (.idx a i) e h = (evE P cl a e h).bnd fun x h => (evE P cl i e h).bnd fun y h => match idxX x y h with | some z => .ok z h | none => .bad := rfl
theorem s_slc {m : Bool} {a : E} {lo hi : Es} : evE P cl (.slc m a lo hi) e h = (evE P cl a e h).bnd fun x h => (evEs P cl lo e h).bnd fun l h => (evEs P cl hi e h).bnd fun u => slcX m x l u := rfl
theorem s_fld {a : E} {f : Nat} : evE P cl (.fld a f) e h = (evE P cl a e h).bnd fun x h => match fldX P x f h with | some z => .ok z h | none => .bad := rfl
theorem s_call {f : Nat} {es : Es} : evE P cl (.call f es) e h = (evEs P cl es e h).bnd fun xs => cl f (xs ++ dflX P f xs.length) := rfl
theorem s_mk {c : Nat} {es : Es} : evE P cl (.mk c es) e h = (evEs P cl es e h).bnd fun xs => mkX P cl c xs := rfl
theorem s_mkk {c : Nat} {ks : List Str} {pm : List Nat} {es : Es} : evE P cl (.mkk c ks pm es) e h = (evEs P cl es e h).bnd fun xs h => match permL pm xs with | some ys => mkX P cl c ys h | none => .bad := by
  show (evEs P cl es e h).bnd _ = _
  congr 1
  funext xs h
  cases permL pm xs <;> rfl
theorem s_mth {a : E} {m : Nat} {es : Es} : evE P cl (.mth a m es) e h = (evE P cl a e h).bnd fun x h => match mthX P x m h with
    | some f => (evEs P cl es e h).bnd fun xs => cl f (x :: xs ++ dflX P f (xs.length + 1))
    | none => .bad := rfl
theorem s_app {i : Nat} {es : Es} : evE P cl (.app i es) e h = (getV e i h).bnd fun g h => (evEs P cl es e h).bnd fun xs h => match g with
    | .fn f => cl f (xs ++ dflX P f xs.length) h
    | .lam f => lamX P cl f xs h
    | _ => .bad := by
  show (getV e i h).bnd _ = _
  congr 1
  funext g h
  show (evEs P cl es e h).bnd _ = _
  congr 1
  funext xs h
  cases g <;> rfl
theorem s_bi {m : Bool} {b : Bi} {es : Es} : evE P cl (.bi m b es) e h = (evEs P cl es e h).bnd fun xs => biX m b xs := rfl
theorem s_bm {m : Bool} {b : Bm} {o : E} {es : Es} : evE P cl (.bm m b o es) e h = (evE P cl o e h).bnd fun x h => if bmR b x h then (evEs P cl es e h).bnd fun xs => bmX m b x xs else .bad := rfl
theorem s_isi {a : E} {ts : List Tk} : evE P cl (.isi a ts) e h = (evE P cl a e h).bnd fun x h => match isiA x h ts with | some k => .ok (.bl k) h | none => .bad := rfl
theorem s_comp {m : Bool} {own : List Nat} {el : E} {t : Tg} {it : It} {c : Es} : evE P cl (.comp m own el t it c) e h = (evIt P cl it e h).bnd fun p h => (cmpL p.2 (fun x => (evTg P cl t x (wipX e own)).bnd fun e1 => (evC P cl c e1).bnd fun k => if k then (evE P cl el e1).bnd fun y => .ret (some y) else .ret none) p.1 h).bnd (newL m) := rfl
theorem s_rev {m : Bool} {a : E} : evE P cl (.rev m a) e h = (evE P cl a e h).bnd fun x h => match lstX x h with | some xs => newL m xs.reverse h | none => .bad := rfl
theorem s_lam {f : Nat} : evE P cl (.lam f) e h = match h[0]? with | some O.tbl => .ok (.lam f) h | _ => .bad := rfl
theorem s_fnv {f : Nat} : evE P cl (.fnv f) e h = .ok (.fn f) h := rfl
theorem s_nil : evEs P cl .nil e h = .ok [] h := rfl
theorem s_cons {a : E} {es : Es} : evEs P cl (.cons a es) e h = (evE P cl a e h).bnd fun x h => (evEs P cl es e h).bnd fun xs h => .ok (x :: xs) h := rfl
theorem s_cnil : evC P cl .nil e h = .ok true h := rfl
theorem s_ccons {a : E} {es : Es} : evC P cl (.cons a es) e h = (evE P cl a e h).bnd truM := rfl
theorem s_iseq {a : E} : evIt P cl (.seq a) e h = (evE P cl a e h).bnd fun x h => match itX x h with | some p => .ok p h | none => .bad := rfl
theorem s_irng {es : Es} : evIt P cl (.rng es) e h = (evEs P cl es e h).bnd fun xs h => match rngX xs with | some ys => .ok (ys, []) h | none => .bad := rfl
theorem s_izip {es : Es} : evIt P cl (.zip es) e h = (evEs P cl es e h).bnd fun xs h => match zipI xs h with | some p => .ok p h | none => .bad := rfl
theorem s_ienm {a : E} : evIt P cl (.enm a) e h = (evE P cl a e h).bnd fun x h => match enmI x h with | some p => .ok p h | none => .bad := rfl
theorem s_tnm {i : Nat} {x : X} : evTg P cl (.nm i) x e h = .ok (e.set i (some x)) h := rfl
theorem s_tidx {o i : E} {x : X} : evTg P cl (.idx o i) x e h = (evE P cl o e h).bnd fun a h => (evE P cl i e h).bnd fun k h => match setM a k x h with | some h' => .ok e h' | none => .bad := rfl
theorem s_ttup {ts : Tgs} {x : X} : evTg P cl (.tup ts) x e h = match unpX ts.len x h with | some xs => evTgs P cl ts xs e h | none => .bad := rfl
theorem s_tsnil : evTgs P cl .nil [] e h = .ok e h := rfl
theorem s_tscons {t : Tg} {ts : Tgs} {x : X} {xs : List X} : evTgs P cl (.cons t ts) (x :: xs) e h = (evTg P cl t x e h).bnd fun e1 => evTgs P cl ts xs e1 := rfl
theorem s_expr {a : E} : evS P cl (.expr a) e h = (evE P cl a e h).bnd fun _ h => .ok (.nx e) h := rfl
theorem s_asg {t : Tg} {a : E} : evS P cl (.asg t a) e h = (evE P cl a e h).bnd fun x h => (evTg P cl t x e h).bnd fun e1 h => .ok (.nx e1) h := rfl
theorem s_par {is : List Nat} {es : Es} : evS P cl (.par is es) e h = (evEs P cl es e h).bnd fun xs h => match setA e is xs with | some e1 => .ok (.nx e1) h | none => .bad := rfl
theorem s_aug {i : Nat} {o : Op} {a : E} : evS P cl (.aug i o a) e h = (getV e i h).bnd fun x h => (evE P cl a e h).bnd fun y h => (augX o x y h).bnd fun z h => .ok (.nx (e.set i (some z))) h := rfl
theorem s_ret {a : E} : evS P cl (.ret a) e h = (evE P cl a e h).bnd fun x h => .ok (.rt x) h := rfl
theorem s_retN : evS P cl .retN e h = .ok (.rt .non) h := rfl
theorem s_ifs {c : E} {a b : Ss} : evS P cl (.ifs c a b) e h = (evE P cl c e h).bnd fun x h => (truM x h).bnd fun k h => if k then evSs P cl a e h else evSs P cl b e h := by
  show (evE P cl c e h).bnd _ = _
  congr 1
  funext x h
  show (truM x h).bnd _ = _
  congr 1
  funext k h
  cases k <;> rfl
theorem s_for {t : Tg} {it : It} {b : Ss} : evS P cl (.for t it b) e h = (evIt P cl it e h).bnd fun p h => forL p.2 (fun x e0 => (evTg P cl t x e0).bnd fun e1 => evSs P cl b e1) p.1 e h := rfl
theorem s_whl {c : E} {b : Ss} : evS P cl (.whl c b) e h = whlL (fun e0 => (evE P cl c e0).bnd truM) (fun e0 => evSs P cl b e0) fuel e h := rfl
theorem s_brk : evS P cl .brk e h = .ok (.bk e) h := rfl
theorem s_cnt : evS P cl .cnt e h = .ok (.ct e) h := rfl
theorem s_pass : evS P cl .pass e h = .ok (.nx e) h := rfl
theorem s_snil : evSs P cl .nil e h = .ok (.nx e) h := rfl
theorem s_scons {s : S} {ss : Ss} : evSs P cl (.cons s ss) e h = (evS P cl s e h).bnd fun f h => match f with
    | .nx e1 => evSs P cl ss e1 h
    | f => .ok f h := by
  show (evS P cl s e h).bnd _ = _
  first
    | rfl
    | (congr 1
       funext f h
       cases f <;> rfl)
theorem s_get {i : Nat} {x : X} (hx : e[i]? = some (some x)) : getV e i h = .ok x h := by unfold getV; rw [hx]
theorem s_run {d : FnD} {as : List X} (ha : as.length = d.np) : runF P cl d as h = (evSs P cl d.body (as.map some ++ List.replicate (d.ns - d.np) none) h).bnd fun f h1 => match f with
    | .rt v => finX P d.frz h v h1
    | .nx _ => finX P d.frz h .non h1
    | _ => .bad := by
  unfold runF
  (rw [if_pos ha]) <;> rfl
theorem s_calls {n f : Nat} {d : FnD} {as : List X} (hf : P.fn f = some d) : calls P (n + 1) f as h = runF P (calls P n) d as h := by
  show (match P.fn f with | some d => runF P (calls P n) d as | none => fun _ => .bad) h = _
  rw [hf]
theorem t_bl {b : Bool} : truM (.bl b) h = .ok b h := rfl
theorem t_int {i : Int} : truM (.int i) h = .ok (i != 0) h := rfl
theorem t_non : truM .non h = .ok false h := rfl
theorem t_tup {xs : List X} : truM (.tup xs) h = .ok (!xs.isEmpty) h := rfl
theorem t_lst {xs : List X} : truM (.lst xs) h = .ok (!xs.isEmpty) h := rfl
/-- a for without guards, by an invariant -/
theorem forL_inv {turn : X → Env' → M Fl} {I : Nat → Env' → Hq → Prop} : ∀ (xs : List X) (n : Nat), (∀ i x, xs[i]? = some x → ∀ e h, I (n + i) e h → ∃ e' h', turn x e h = .ok (.nx e') h' ∧ I (n + i + 1) e' h') → ∀ e h, I n e h → ∃ e' h', forL [] turn xs e h = .ok (.nx e') h' ∧ I (n + xs.length) e' h'
  | [], n, _, e, h, i => ⟨e, h, rfl, i⟩
  | x :: xs, n, st, e, h, i => by
    obtain ⟨e1, h1, q1, i1⟩ := st 0 x rfl e h i
    obtain ⟨e2, h2, q2, i2⟩ := forL_inv xs (n + 1) (fun j y hy e h k => by
      have := st (j + 1) y hy e h (by rw [show n + (j + 1) = n + 1 + j by omega]; exact k)
      rw [show n + (j + 1) + 1 = n + 1 + j + 1 by omega] at this
      exact this) e1 h1 i1
    refine ⟨e2, h2, ?_, by rw [List.length_cons, show n + (xs.length + 1) = n + 1 + xs.length by omega]; exact i2⟩
    show (if grdOk [] h then (turn x e h).bnd _ else .bad) = _
    rw [show grdOk [] h = true from rfl, if_pos rfl, q1]
    exact q2
/-- a comprehension without guards, by an invariant -/
theorem cmpL_inv {turn : X → M (Option X)} {I : Nat → List X → Hq → Prop} : ∀ (xs : List X) (n : Nat) (pre : List X), (∀ i x, xs[i]? = some x → ∀ ys h, I (n + i) ys h → ∃ y h', turn x h = .ok (some y) h' ∧ I (n + i + 1) (ys ++ [y]) h') → ∀ h, I n pre h → ∃ ys h', cmpL [] turn xs h = .ok ys h' ∧ I (n + xs.length) (pre ++ ys) h'
  | [], n, pre, _, h, i => ⟨[], h, rfl, by rw [List.append_nil]; exact i⟩
  | x :: xs, n, pre, st, h, i => by
    obtain ⟨y, h1, q1, i1⟩ := st 0 x rfl pre h i
    obtain ⟨ys, h2, q2, i2⟩ := cmpL_inv xs (n + 1) (pre ++ [y]) (fun j z hz e h k => by
      have := st (j + 1) z hz e h (by rw [show n + (j + 1) = n + 1 + j by omega]; exact k)
      rw [show n + (j + 1) + 1 = n + 1 + j + 1 by omega] at this
      exact this) h1 i1
    refine ⟨y :: ys, h2, ?_, by rw [List.length_cons, show n + (xs.length + 1) = n + 1 + xs.length by omega, List.append_cons]; exact i2⟩
    show (if grdOk [] h then (turn x h).bnd _ else .bad) = _
    rw [show grdOk [] h = true from rfl, if_pos rfl, q1]
    show (cmpL [] turn xs h1).bnd _ = _
    rw [q2]
    rfl
end
end HP

set_option Elab.async false
set_option linter.all false
set_option maxRecDepth 100000
set_option maxHeartbeats 2000000
/-! The laws' draws. -/
namespace HP
open PySem
structure Pen where
  cells : List Int
  at_ : Nat
  digits : Int
  count : Int
  fold : Int
def pd (s : Pen) : List (X × X) := [(.str "cells", .lst (s.cells.map .int)), (.str "at", .int s.at_), (.str "digits", .int s.digits), (.str "count", .int s.count), (.str "fold", .int s.fold)]
section
variable {o : O} {s : Pen} {r : Hq}
theorem px_cells : idxX (.ob 1) (.str "cells") (o :: .dct (pd s) :: r) = some (.lst (s.cells.map .int)) := rfl
theorem px_at : idxX (.ob 1) (.str "at") (o :: .dct (pd s) :: r) = some (.int s.at_) := rfl
theorem px_digits : idxX (.ob 1) (.str "digits") (o :: .dct (pd s) :: r) = some (.int s.digits) := rfl
theorem px_count : idxX (.ob 1) (.str "count") (o :: .dct (pd s) :: r) = some (.int s.count) := rfl
theorem px_fold : idxX (.ob 1) (.str "fold") (o :: .dct (pd s) :: r) = some (.int s.fold) := rfl
theorem ps_count {i : Int} : setM (.ob 1) (.str "count") (.int i) (o :: .dct (pd s) :: r) = some (o :: .dct (pd { s with count := i }) :: r) := rfl
theorem ps_digits {i : Int} : setM (.ob 1) (.str "digits") (.int i) (o :: .dct (pd s) :: r) = some (o :: .dct (pd { s with digits := i }) :: r) := rfl
theorem ps_fold {i : Int} : setM (.ob 1) (.str "fold") (.int i) (o :: .dct (pd s) :: r) = some (o :: .dct (pd { s with fold := i }) :: r) := rfl
theorem ps_at {i : Nat} : setM (.ob 1) (.str "at") (.int ((i : Int) + 1)) (o :: .dct (pd s) :: r) = some (o :: .dct (pd { s with at_ := i + 1 }) :: r) := rfl
theorem px_cell {h : Hq} {c : Int} (hc : s.cells[s.at_]? = some c) : idxX (.lst (s.cells.map .int)) (.int s.at_) h = some (.int c) := by
  have hl : s.at_ < s.cells.length := (List.getElem?_eq_some_iff.mp hc).1
  show (atX (s.cells.map X.int).length s.at_).bind (fun k => (s.cells.map X.int)[k]?) = _
  unfold atX
  rw [if_pos (by omega), if_pos (by rw [List.length_map]; omega)]
  simp [hc]
end
section
variable {m : Bool} {i j : Int} {h : Hq} {P : Pg} {cl : Cll}
theorem bi_len {xs : List X} : biX m .len [.lst xs] h = .ok (.int xs.length) h := rfl
theorem bi_int : biX m .int [.int i] h = .ok (.int i) h := rfl
theorem bx_add : binX m .add (.int i) (.int j) h = .ok (.int (i + j)) h := rfl
theorem bx_sub : binX m .sub (.int i) (.int j) h = .ok (.int (i - j)) h := rfl
theorem bx_mul (hz : szMul i j = true) : binX m .mul (.int i) (.int j) h = .ok (.int (i * j)) h := by
  show (if szMul i j then HP.R.ok (X.int (i * j)) h else .bad) = _
  rw [if_pos hz]
theorem eq_int : eqM P cl .eq (.int i) (.int j) h = .ok (.bl (i == j)) h := rfl
theorem lt_int : eqM P cl .lt (.int i) (.int j) h = .ok (.bl (decide (i < j))) h := rfl
theorem gt_int : eqM P cl .gt (.int i) (.int j) h = .ok (.bl (decide (j < i))) h := rfl
theorem ge_int : eqM P cl .ge (.int i) (.int j) h = .ok (.bl (decide (j ≤ i))) h := rfl
theorem le_int : eqM P cl .le (.int i) (.int j) h = .ok (.bl (decide (i ≤ j))) h := rfl
theorem bx_mod (hj : j ≠ 0) : binX m .mod (.int i) (.int j) h = .ok (.int (i.fmod j)) h := by
  show (if decide (j ≠ 0) then HP.R.ok (X.int (i.fmod j)) h else .bad) = _
  rw [if_pos (by simpa using hj)]
theorem bx_div (hj : j ≠ 0) (hl : j.natAbs.log2 < 9000) : binX m .fdiv (.int i) (.int j) h = .ok (.int (i.fdiv j)) h := by
  show (if decide (j ≠ 0) && decide (j.natAbs.log2 < 9000) then HP.R.ok (X.int (i.fdiv j)) h else .bad) = _
  rw [if_pos (by simp [hj, hl])]
theorem bx_pow18 : binX m .pow (.int 10) (.int 18) h = .ok (.int 1000000000000000000) h := rfl
theorem bx_pow55 (hi : i.natAbs < 2 ^ 64) : binX m .pow (.int i) (.int 55) h = .ok (.int (i ^ 55)) h := by
  show (if decide ((0 : Int) ≤ 55) && decide ((55 : Int) ≤ 1000000) && decide (i.natAbs < 2 ^ 64) then HP.R.ok (X.int (i ^ (55 : Int).toNat)) h else .bad) = _
  rw [if_pos (by simp [hi])]
  rfl
theorem fin_keep {x : X} {h0 : Hq} (hx : X.noOb x = true) (hl : h.length = h0.length) : finX P true h0 x h = .ok x h := by
  have e : frzX P h0.length h 8 x = some x := by
    unfold frzX
    rw [if_pos hx]
  unfold finX
  rw [if_pos rfl, e]
  show (if h.take h0.length = h0 then HP.R.ok x h0 else if (h.take h0.length).all (O.bel h0.length) then .ok x (h.take h0.length) else .ok x h) = _
  rw [← hl, List.take_length]
  split
  · rename_i e
    rw [e]
  · split <;> rfl
end
def drawB : Ss := (.cons (.asg (.idx (.var 0) (.str "count")) (.bin false .add (.idx (.var 0) (.str "count")) (.int 1))) (.cons (.ifs (.and (.cmp .eq (.idx (.var 0) (.str "digits")) (.int 0)) (.cmp .lt (.idx (.var 0) (.str "at")) (.bi false .len (.cons (.idx (.var 0) (.str "cells")) .nil)))) (.cons (.asg (.nm 2) (.idx (.idx (.var 0) (.str "cells")) (.idx (.var 0) (.str "at")))) (.cons (.asg (.idx (.var 0) (.str "at")) (.bin false .add (.idx (.var 0) (.str "at")) (.int 1))) (.cons (.ifs (.cmp .ge (.var 2) (.bin false .pow (.int 10) (.int 18))) (.cons (.asg (.idx (.var 0) (.str "digits")) (.bin false .sub (.var 2) (.bin false .pow (.int 10) (.int 18)))) .nil) (.cons (.asg (.idx (.var 0) (.str "fold")) (.bin false .mod (.bi false .int (.cons (.bin false .add (.bin false .mul (.idx (.var 0) (.str "fold")) (.int 30011)) (.var 2)) .nil)) (.int 2147482921))) .nil)) .nil))) .nil) (.cons (.ifs (.cmp .gt (.idx (.var 0) (.str "digits")) (.int 0)) (.cons (.asg (.nm 3) (.bin false .mod (.bi false .int (.cons (.idx (.var 0) (.str "digits")) .nil)) (.var 1))) (.cons (.asg (.idx (.var 0) (.str "digits")) (.bin false .fdiv (.idx (.var 0) (.str "digits")) (.var 1))) (.cons (.ret (.var 3)) .nil))) .nil) (.cons (.asg (.nm 4) (.bin false .add (.bin false .add (.idx (.var 0) (.str "fold")) (.bin false .mul (.idx (.var 0) (.str "count")) (.int 6311))) (.int 181))) (.cons (.ret (.bin false .mod (.bin false .fdiv (.bi false .int (.cons (.bin false .mod (.bin false .pow (.var 4) (.int 55)) (.int 2305843009213693951)) .nil)) (.int 1024)) (.var 1))) .nil)))))
def drawD : FnD := ⟨2, 5, [], true, drawB⟩
/-- what a pen keeps -/
structure Pen.Ok (s : Pen) : Prop where
  dg : 0 ≤ s.digits
  fo : 0 ≤ s.fold ∧ s.fold < 2147482921
  ct : 0 ≤ s.count
section
variable {P : Pg} {cl : Cll} {o : O} {s : Pen} {r : Hq} {m : Int}
theorem mul_sz {i j : Int} (hi : i.natAbs < 2 ^ 64) (hj : j.natAbs < 2 ^ 64) : szMul i j = true := by
  unfold szMul
  have l : ∀ n : Nat, n < 2 ^ 64 → n.log2 < 64 := fun n hn => by
    by_cases h : n = 0
    · subst h; decide
    · exact (Nat.log2_lt h).mpr hn
  have := l _ hi
  have := l _ hj
  simp
  omega
theorem mod_in (k : Int) (hm : 0 < m) : 0 ≤ k.fmod m ∧ k.fmod m < m := ⟨Int.fmod_nonneg_of_pos k hm, Int.fmod_lt_of_pos k hm⟩
def blK (fold count : Int) : Int := (((fold + count * 6311 + 181) ^ 55).fmod 2305843009213693951).fdiv 1024
/-- a draw -/
theorem draw_ok (I : s.Ok) (hc : s.count < 100000) (hm : 0 < m) (hm2 : m < 1000) : ∃ (k : Int) (s' : Pen), 0 ≤ k ∧ k < m ∧ s'.Ok ∧ s'.count = s.count + 1 ∧ runF P cl drawD [.ob 1, .int m] (o :: .dct (pd s) :: r) = .ok (.int k) (o :: .dct (pd s') :: r) := by
  have m0 : m ≠ 0 := by omega
  have ml : m.natAbs.log2 < 9000 := by
    have : m.natAbs.log2 < 10 := (Nat.log2_lt (by omega)).mpr (by omega)
    omega
  have I1 := I.dg
  have I2 := I.fo
  have I3 := I.ct
  rw [s_run rfl]
  unfold drawD drawB
  cases h1 : (s.digits == 0) with
  | false =>
    have h2 : decide (0 < s.digits) = true := by
      have : s.digits ≠ 0 := by simpa using h1
      simp
      omega
    refine ⟨s.digits.fmod m, { s with digits := s.digits.fdiv m, count := s.count + 1 }, (mod_in _ hm).1, (mod_in _ hm).2, ⟨Int.fdiv_nonneg I1 (by omega), I2, by show 0 ≤ s.count + 1; omega⟩, rfl, ?_⟩
    simp -implicitDefEqProofs only [↓s_var, ↓s_non, ↓s_bl, ↓s_int, ↓s_str, ↓s_cst, ↓s_tup, ↓s_lst, ↓s_dct, ↓s_bin, ↓s_neg, ↓s_cmp, ↓s_chn, ↓s_and, ↓s_or, ↓s_not, ↓s_ite, ↓s_idx, ↓s_slc, ↓s_fld, ↓s_call, ↓s_mk, ↓s_mkk, ↓s_mth, ↓s_app, ↓s_bi, ↓s_bm, ↓s_isi, ↓s_comp, ↓s_rev, ↓s_lam, ↓s_fnv, ↓s_nil, ↓s_cons, ↓s_cnil, ↓s_ccons, ↓s_iseq, ↓s_irng, ↓s_izip, ↓s_ienm, ↓s_tnm, ↓s_tidx, ↓s_ttup, ↓s_tsnil, ↓s_tscons, ↓s_expr, ↓s_asg, ↓s_par, ↓s_aug, ↓s_ret, ↓s_retN, ↓s_ifs, ↓s_for, ↓s_whl, ↓s_brk, ↓s_cnt, ↓s_pass, ↓s_snil, ↓s_scons, t_bl, t_int, t_non, t_tup, t_lst, ↓R.bnd_m, M.bnd_ap, M.opt_some, getV, List.length_cons, List.length_nil, List.getElem?_cons_zero, List.getElem?_cons_succ, List.set_cons_zero, List.set_cons_succ, ↓reduceIte, Bool.false_eq_true, Nat.reduceAdd, Nat.reduceSub, List.map_cons, List.map_nil, List.cons_append, List.nil_append, List.replicate_succ, List.replicate_zero, px_cells, px_at, px_digits, px_count, px_fold, ps_count, ps_digits, ps_fold, ps_at, bi_len, bi_int, bx_add, bx_sub, eq_int, lt_int, gt_int, ge_int, h1, h2, bx_mod m0, bx_div m0 ml]
    exact fin_keep rfl rfl
  | true =>
    have hd : s.digits = 0 := by simpa using h1
    have blend : ∀ s1 : Pen, s1.Ok → s1.digits = 0 → s1.count = s.count + 1 → szMul s1.count 6311 = true ∧ (s1.fold + s1.count * 6311 + 181).natAbs < 2 ^ 64 := fun s1 I0 _ h2 => by
      have := I0.fo
      refine ⟨mul_sz (by omega) (by decide), by omega⟩
    cases h2 : decide ((s.at_ : Int) < (s.cells.map X.int).length) with
    | false =>
      have h3 : decide (0 < s.digits) = false := by rw [hd]; rfl
      have b := blend { s with count := s.count + 1 } ⟨I1, I2, by show 0 ≤ s.count + 1; omega⟩ hd rfl
      refine ⟨(blK s.fold (s.count + 1)).fmod m, { s with count := s.count + 1 }, (mod_in _ hm).1, (mod_in _ hm).2, ⟨I1, I2, by show 0 ≤ s.count + 1; omega⟩, rfl, ?_⟩
      · simp -implicitDefEqProofs only [↓s_var, ↓s_non, ↓s_bl, ↓s_int, ↓s_str, ↓s_cst, ↓s_tup, ↓s_lst, ↓s_dct, ↓s_bin, ↓s_neg, ↓s_cmp, ↓s_chn, ↓s_and, ↓s_or, ↓s_not, ↓s_ite, ↓s_idx, ↓s_slc, ↓s_fld, ↓s_call, ↓s_mk, ↓s_mkk, ↓s_mth, ↓s_app, ↓s_bi, ↓s_bm, ↓s_isi, ↓s_comp, ↓s_rev, ↓s_lam, ↓s_fnv, ↓s_nil, ↓s_cons, ↓s_cnil, ↓s_ccons, ↓s_iseq, ↓s_irng, ↓s_izip, ↓s_ienm, ↓s_tnm, ↓s_tidx, ↓s_ttup, ↓s_tsnil, ↓s_tscons, ↓s_expr, ↓s_asg, ↓s_par, ↓s_aug, ↓s_ret, ↓s_retN, ↓s_ifs, ↓s_for, ↓s_whl, ↓s_brk, ↓s_cnt, ↓s_pass, ↓s_snil, ↓s_scons, t_bl, t_int, t_non, t_tup, t_lst, ↓R.bnd_m, M.bnd_ap, M.opt_some, getV, List.length_cons, List.length_nil, List.getElem?_cons_zero, List.getElem?_cons_succ, List.set_cons_zero, List.set_cons_succ, ↓reduceIte, Bool.false_eq_true, Nat.reduceAdd, Nat.reduceSub, List.map_cons, List.map_nil, List.cons_append, List.nil_append, List.replicate_succ, List.replicate_zero, px_cells, px_at, px_digits, px_count, px_fold, ps_count, ps_digits, ps_fold, ps_at, bi_len, bi_int, bx_add, bx_sub, eq_int, lt_int, gt_int, ge_int, h1, h2, h3, bx_mul b.1, bx_pow55 b.2, bx_mod (show (2305843009213693951 : Int) ≠ 0 by decide), bx_div (show (1024 : Int) ≠ 0 by decide) (by decide), bx_mod m0]
        exact fin_keep rfl rfl
    | true =>
      have hl : s.at_ < s.cells.length := by
        have := of_decide_eq_true h2
        rw [List.length_map] at this
        omega
      obtain ⟨c, hcell⟩ : ∃ c, s.cells[s.at_]? = some c := ⟨_, List.getElem?_eq_getElem hl⟩
      have hx := fun h => px_cell (s := { s with count := s.count + 1 }) (h := h) hcell
      cases h3 : decide ((1000000000000000000 : Int) ≤ c) with
      | true =>
        have hge : (1000000000000000000 : Int) ≤ c := of_decide_eq_true h3
        cases h4 : decide (0 < c - 1000000000000000000) with
        | true =>
          refine ⟨(c - 1000000000000000000).fmod m, { s with digits := (c - 1000000000000000000).fdiv m, count := s.count + 1, at_ := s.at_ + 1 }, (mod_in _ hm).1, (mod_in _ hm).2, ⟨Int.fdiv_nonneg (by omega) (by omega), I2, by show 0 ≤ s.count + 1; omega⟩, rfl, ?_⟩
          · simp -implicitDefEqProofs only [↓s_var, ↓s_non, ↓s_bl, ↓s_int, ↓s_str, ↓s_cst, ↓s_tup, ↓s_lst, ↓s_dct, ↓s_bin, ↓s_neg, ↓s_cmp, ↓s_chn, ↓s_and, ↓s_or, ↓s_not, ↓s_ite, ↓s_idx, ↓s_slc, ↓s_fld, ↓s_call, ↓s_mk, ↓s_mkk, ↓s_mth, ↓s_app, ↓s_bi, ↓s_bm, ↓s_isi, ↓s_comp, ↓s_rev, ↓s_lam, ↓s_fnv, ↓s_nil, ↓s_cons, ↓s_cnil, ↓s_ccons, ↓s_iseq, ↓s_irng, ↓s_izip, ↓s_ienm, ↓s_tnm, ↓s_tidx, ↓s_ttup, ↓s_tsnil, ↓s_tscons, ↓s_expr, ↓s_asg, ↓s_par, ↓s_aug, ↓s_ret, ↓s_retN, ↓s_ifs, ↓s_for, ↓s_whl, ↓s_brk, ↓s_cnt, ↓s_pass, ↓s_snil, ↓s_scons, t_bl, t_int, t_non, t_tup, t_lst, ↓R.bnd_m, M.bnd_ap, M.opt_some, getV, List.length_cons, List.length_nil, List.getElem?_cons_zero, List.getElem?_cons_succ, List.set_cons_zero, List.set_cons_succ, ↓reduceIte, Bool.false_eq_true, Nat.reduceAdd, Nat.reduceSub, List.map_cons, List.map_nil, List.cons_append, List.nil_append, List.replicate_succ, List.replicate_zero, px_cells, px_at, px_digits, px_count, px_fold, ps_count, ps_digits, ps_fold, ps_at, bi_len, bi_int, bx_add, bx_sub, eq_int, lt_int, gt_int, ge_int, h1, h2, hx, h3, h4, bx_pow18, bx_mod m0, bx_div m0 ml]
            exact fin_keep rfl rfl
        | false =>
          have b := blend { s with digits := c - 1000000000000000000, count := s.count + 1, at_ := s.at_ + 1 } ⟨by show (0 : Int) ≤ c - 1000000000000000000; omega, I2, by show 0 ≤ s.count + 1; omega⟩ (by have := of_decide_eq_false h4; show c - 1000000000000000000 = 0; omega) rfl
          refine ⟨(blK s.fold (s.count + 1)).fmod m, { s with digits := c - 1000000000000000000, count := s.count + 1, at_ := s.at_ + 1 }, (mod_in _ hm).1, (mod_in _ hm).2, ⟨by show (0 : Int) ≤ c - 1000000000000000000; omega, I2, by show 0 ≤ s.count + 1; omega⟩, rfl, ?_⟩
          · simp -implicitDefEqProofs only [↓s_var, ↓s_non, ↓s_bl, ↓s_int, ↓s_str, ↓s_cst, ↓s_tup, ↓s_lst, ↓s_dct, ↓s_bin, ↓s_neg, ↓s_cmp, ↓s_chn, ↓s_and, ↓s_or, ↓s_not, ↓s_ite, ↓s_idx, ↓s_slc, ↓s_fld, ↓s_call, ↓s_mk, ↓s_mkk, ↓s_mth, ↓s_app, ↓s_bi, ↓s_bm, ↓s_isi, ↓s_comp, ↓s_rev, ↓s_lam, ↓s_fnv, ↓s_nil, ↓s_cons, ↓s_cnil, ↓s_ccons, ↓s_iseq, ↓s_irng, ↓s_izip, ↓s_ienm, ↓s_tnm, ↓s_tidx, ↓s_ttup, ↓s_tsnil, ↓s_tscons, ↓s_expr, ↓s_asg, ↓s_par, ↓s_aug, ↓s_ret, ↓s_retN, ↓s_ifs, ↓s_for, ↓s_whl, ↓s_brk, ↓s_cnt, ↓s_pass, ↓s_snil, ↓s_scons, t_bl, t_int, t_non, t_tup, t_lst, ↓R.bnd_m, M.bnd_ap, M.opt_some, getV, List.length_cons, List.length_nil, List.getElem?_cons_zero, List.getElem?_cons_succ, List.set_cons_zero, List.set_cons_succ, ↓reduceIte, Bool.false_eq_true, Nat.reduceAdd, Nat.reduceSub, List.map_cons, List.map_nil, List.cons_append, List.nil_append, List.replicate_succ, List.replicate_zero, px_cells, px_at, px_digits, px_count, px_fold, ps_count, ps_digits, ps_fold, ps_at, bi_len, bi_int, bx_add, bx_sub, eq_int, lt_int, gt_int, ge_int, h1, h2, hx, h3, h4, bx_pow18, bx_mul b.1, bx_pow55 b.2, bx_mod (show (2305843009213693951 : Int) ≠ 0 by decide), bx_div (show (1024 : Int) ≠ 0 by decide) (by decide), bx_mod m0]
            exact fin_keep rfl rfl
      | false =>
        have h4 : decide (0 < s.digits) = false := by rw [hd]; rfl
        have hf := mod_in (m := 2147482921) (s.fold * 30011 + c) (by decide)
        have b := blend { s with fold := (s.fold * 30011 + c).fmod 2147482921, count := s.count + 1, at_ := s.at_ + 1 } ⟨I1, hf, by show 0 ≤ s.count + 1; omega⟩ hd rfl
        refine ⟨(blK ((s.fold * 30011 + c).fmod 2147482921) (s.count + 1)).fmod m, { s with fold := (s.fold * 30011 + c).fmod 2147482921, count := s.count + 1, at_ := s.at_ + 1 }, (mod_in _ hm).1, (mod_in _ hm).2, ⟨I1, hf, by show 0 ≤ s.count + 1; omega⟩, rfl, ?_⟩
        · simp -implicitDefEqProofs only [↓s_var, ↓s_non, ↓s_bl, ↓s_int, ↓s_str, ↓s_cst, ↓s_tup, ↓s_lst, ↓s_dct, ↓s_bin, ↓s_neg, ↓s_cmp, ↓s_chn, ↓s_and, ↓s_or, ↓s_not, ↓s_ite, ↓s_idx, ↓s_slc, ↓s_fld, ↓s_call, ↓s_mk, ↓s_mkk, ↓s_mth, ↓s_app, ↓s_bi, ↓s_bm, ↓s_isi, ↓s_comp, ↓s_rev, ↓s_lam, ↓s_fnv, ↓s_nil, ↓s_cons, ↓s_cnil, ↓s_ccons, ↓s_iseq, ↓s_irng, ↓s_izip, ↓s_ienm, ↓s_tnm, ↓s_tidx, ↓s_ttup, ↓s_tsnil, ↓s_tscons, ↓s_expr, ↓s_asg, ↓s_par, ↓s_aug, ↓s_ret, ↓s_retN, ↓s_ifs, ↓s_for, ↓s_whl, ↓s_brk, ↓s_cnt, ↓s_pass, ↓s_snil, ↓s_scons, t_bl, t_int, t_non, t_tup, t_lst, ↓R.bnd_m, M.bnd_ap, M.opt_some, getV, List.length_cons, List.length_nil, List.getElem?_cons_zero, List.getElem?_cons_succ, List.set_cons_zero, List.set_cons_succ, ↓reduceIte, Bool.false_eq_true, Nat.reduceAdd, Nat.reduceSub, List.map_cons, List.map_nil, List.cons_append, List.nil_append, List.replicate_succ, List.replicate_zero, px_cells, px_at, px_digits, px_count, px_fold, ps_count, ps_digits, ps_fold, ps_at, bi_len, bi_int, bx_add, bx_sub, eq_int, lt_int, gt_int, ge_int, h1, h2, hx, h3, h4, bx_pow18, bx_mul (mul_sz (i := s.fold) (j := 30011) (by omega) (by decide)), bx_mul b.1, bx_pow55 b.2, bx_mod (show (2147482921 : Int) ≠ 0 by decide), bx_mod (show (2305843009213693951 : Int) ≠ 0 by decide), bx_div (show (1024 : Int) ≠ 0 by decide) (by decide), bx_mod m0]
          exact fin_keep rfl rfl
def penB : Ss := (.cons (.asg (.nm 1) (.int 0)) (.cons (.for (.nm 2) (.seq (.var 0)) (.cons (.asg (.nm 1) (.bin false .mod (.bi false .int (.cons (.bin false .add (.bin false .mul (.var 1) (.int 191)) (.var 2)) .nil)) (.int 999999137))) .nil)) (.cons (.ret (.dct [("cells" : Str), ("at" : Str), ("digits" : Str), ("count" : Str), ("fold" : Str)] (.cons (.bi false .list (.cons (.var 0) .nil)) (.cons (.int 0) (.cons (.int 0) (.cons (.int 0) (.cons (.var 1) .nil))))))) .nil)))
def penD : FnD := ⟨1, 3, [], true, penB⟩
/-- the pen of a script -/
theorem pen_ok {zs : List Int} (hz : zs.length ≤ 63) : ∃ s : Pen, s.Ok ∧ s.count = 0 ∧ runF P cl penD [.scr (zs.map .int)] [o] = .ok (.ob 1) [o, .dct (pd s)] := by
  rw [s_run rfl]
  unfold penD penB
  obtain ⟨e', h', q, f, v, rfl, rfl, hf⟩ := forL_inv (turn := fun x e0 => (evTg P cl (.nm 2) x e0).bnd fun e1 => evSs P cl (.cons (.asg (.nm 1) (.bin false .mod (.bi false .int (.cons (.bin false .add (.bin false .mul (.var 1) (.int 191)) (.var 2)) .nil)) (.int 999999137))) .nil) e1)
    (I := fun _ e h => ∃ (f : Int) (v : Option X), e = [some (.scr (zs.map .int)), some (.int f), v] ∧ h = [o] ∧ 0 ≤ f ∧ f < 999999137) (zs.map .int) 0 (fun i x hx e h ⟨f, v, he, hh, hf⟩ => by
      subst he hh
      rw [List.getElem?_map] at hx
      obtain ⟨z, _, rfl⟩ := Option.map_eq_some_iff.mp hx
      have hm := mul_sz (i := f) (j := 191) (by omega) (by decide)
      refine ⟨_, [o], ?_, (f * 191 + z).fmod 999999137, some (.int z), rfl, rfl, mod_in _ (by decide)⟩
      simp -implicitDefEqProofs only [↓s_var, ↓s_non, ↓s_bl, ↓s_int, ↓s_str, ↓s_cst, ↓s_tup, ↓s_lst, ↓s_dct, ↓s_bin, ↓s_neg, ↓s_cmp, ↓s_chn, ↓s_and, ↓s_or, ↓s_not, ↓s_ite, ↓s_idx, ↓s_slc, ↓s_fld, ↓s_call, ↓s_mk, ↓s_mkk, ↓s_mth, ↓s_app, ↓s_bi, ↓s_bm, ↓s_isi, ↓s_comp, ↓s_rev, ↓s_lam, ↓s_fnv, ↓s_nil, ↓s_cons, ↓s_cnil, ↓s_ccons, ↓s_iseq, ↓s_irng, ↓s_izip, ↓s_ienm, ↓s_tnm, ↓s_tidx, ↓s_ttup, ↓s_tsnil, ↓s_tscons, ↓s_expr, ↓s_asg, ↓s_par, ↓s_aug, ↓s_ret, ↓s_retN, ↓s_ifs, ↓s_for, ↓s_whl, ↓s_brk, ↓s_cnt, ↓s_pass, ↓s_snil, ↓s_scons, t_bl, t_int, t_non, t_tup, t_lst, ↓R.bnd_m, M.bnd_ap, M.opt_some, getV, List.length_cons, List.length_nil, List.getElem?_cons_zero, List.getElem?_cons_succ, List.set_cons_zero, List.set_cons_succ, ↓reduceIte, Bool.false_eq_true, Nat.reduceAdd, Nat.reduceSub, List.map_cons, List.map_nil, List.cons_append, List.nil_append, List.replicate_succ, List.replicate_zero, bi_int, bx_add, bx_mul hm, bx_mod (show (999999137 : Int) ≠ 0 by decide)]) [some (.scr (zs.map .int)), some (.int 0), none] [o] ⟨0, none, rfl, rfl, by decide, by decide⟩
  refine ⟨⟨zs, 0, 0, 0, f⟩, ⟨Int.le_refl 0, ⟨hf.1, by show f < 2147482921; omega⟩, Int.le_refl 0⟩, rfl, ?_⟩
  have hi : itX (.scr (zs.map .int)) [o] = some (zs.map .int, []) := rfl
  have hl : biX false .list [.scr (zs.map .int)] [o, .dct []] = .ok (.lst (zs.map .int)) [o, .dct []] := by
    show (if szSeq (zs.map X.int).length then HP.R.ok (X.lst (zs.map .int)) _ else .bad) = _
    rw [if_pos (by unfold szSeq; simp; omega)]
  have hs : (decide ((["cells", "at", "digits", "count", "fold"] : List Str).Nodup)) = true := by decide +kernel
  simp -implicitDefEqProofs only [↓s_var, ↓s_non, ↓s_bl, ↓s_int, ↓s_str, ↓s_cst, ↓s_tup, ↓s_lst, ↓s_dct, ↓s_bin, ↓s_neg, ↓s_cmp, ↓s_chn, ↓s_and, ↓s_or, ↓s_not, ↓s_ite, ↓s_idx, ↓s_slc, ↓s_fld, ↓s_call, ↓s_mk, ↓s_mkk, ↓s_mth, ↓s_app, ↓s_bi, ↓s_bm, ↓s_isi, ↓s_comp, ↓s_rev, ↓s_lam, ↓s_fnv, ↓s_nil, ↓s_cons, ↓s_cnil, ↓s_ccons, ↓s_iseq, ↓s_irng, ↓s_izip, ↓s_ienm, ↓s_tnm, ↓s_tidx, ↓s_ttup, ↓s_tsnil, ↓s_tscons, ↓s_expr, ↓s_asg, ↓s_par, ↓s_aug, ↓s_ret, ↓s_retN, ↓s_ifs, ↓s_for, ↓s_whl, ↓s_brk, ↓s_cnt, ↓s_pass, ↓s_snil, ↓s_scons, t_bl, t_int, t_non, t_tup, t_lst, ↓R.bnd_m, M.bnd_ap, M.opt_some, getV, List.length_cons, List.length_nil, List.getElem?_cons_zero, List.getElem?_cons_succ, List.set_cons_zero, List.set_cons_succ, ↓reduceIte, Bool.false_eq_true, Nat.reduceAdd, Nat.reduceSub, List.map_cons, List.map_nil, List.cons_append, List.nil_append, List.replicate_succ, List.replicate_zero, hi, q, hl, hs]
  rfl
end
end HP


set_option Elab.async false
set_option linter.all false
set_option maxRecDepth 100000
namespace HP
open PySem
def top (i : Nat) : Stmt := PySem.Challenge.pw_hedgepapers_k90_classes_made_by_hand.main.body.getD i (.Pass ⟨0, 0, 0, 0⟩)
/-- copied -/
def b0 : Ss := (.cons (.ret (.ite (.isi (.var 0) [.tlist]) (.bi false .tuple (.cons (.var 0) .nil)) (.var 0))) .nil)
/-- Gains.__init__ -/
def b10 : Ss := (.cons (.asg (.fld (.var 0) 0) (.call 0 (.cons (.var 1) .nil))) .nil)
/-- Gains.__eq__ -/
def b11 : Ss := (.cons (.ret (.and (.isi (.var 1) [.cls 0]) (.cmp .eq (.fld (.var 0) 0) (.fld (.var 1) 0)))) .nil)
/-- Gains.__ne__ -/
def b12 : Ss := (.cons (.ret (.not (.cmp .eq (.var 0) (.var 1)))) .nil)
/-- Fair.__eq__ -/
def b13 : Ss := (.cons (.ret (.isi (.var 1) [.cls 1])) .nil)
/-- Fair.__ne__ -/
def b14 : Ss := (.cons (.ret (.not (.cmp .eq (.var 0) (.var 1)))) .nil)
/-- Cost.__init__ -/
def b15 : Ss := (.cons (.asg (.fld (.var 0) 1) (.call 0 (.cons (.var 1) .nil))) .nil)
/-- Cost.__eq__ -/
def b16 : Ss := (.cons (.ret (.and (.isi (.var 1) [.cls 2]) (.cmp .eq (.fld (.var 0) 1) (.fld (.var 1) 1)))) .nil)
/-- Cost.__ne__ -/
def b17 : Ss := (.cons (.ret (.not (.cmp .eq (.var 0) (.var 1)))) .nil)
/-- Worth.__init__ -/
def b18 : Ss := (.cons (.asg (.fld (.var 0) 1) (.call 0 (.cons (.var 1) .nil))) .nil)
/-- Worth.__eq__ -/
def b19 : Ss := (.cons (.ret (.and (.isi (.var 1) [.cls 3]) (.cmp .eq (.fld (.var 0) 1) (.fld (.var 1) 1)))) .nil)
/-- Worth.__ne__ -/
def b20 : Ss := (.cons (.ret (.not (.cmp .eq (.var 0) (.var 1)))) .nil)
/-- Copies.__init__ -/
def b21 : Ss := (.cons (.asg (.fld (.var 0) 3) (.call 0 (.cons (.var 1) .nil))) (.cons (.asg (.fld (.var 0) 2) (.call 0 (.cons (.var 2) .nil))) .nil))
/-- Copies.__eq__ -/
def b22 : Ss := (.cons (.ret (.and (.isi (.var 1) [.cls 4]) (.cmp .eq (.tup (.cons (.fld (.var 0) 3) (.cons (.fld (.var 0) 2) .nil))) (.tup (.cons (.fld (.var 1) 3) (.cons (.fld (.var 1) 2) .nil)))))) .nil)
/-- Copies.__ne__ -/
def b23 : Ss := (.cons (.ret (.not (.cmp .eq (.var 0) (.var 1)))) .nil)
/-- Bars.__eq__ -/
def b24 : Ss := (.cons (.ret (.isi (.var 1) [.cls 5])) .nil)
/-- Bars.__ne__ -/
def b25 : Ss := (.cons (.ret (.not (.cmp .eq (.var 0) (.var 1)))) .nil)
/-- Whole.__eq__ -/
def b26 : Ss := (.cons (.ret (.isi (.var 1) [.cls 6])) .nil)
/-- Whole.__ne__ -/
def b27 : Ss := (.cons (.ret (.not (.cmp .eq (.var 0) (.var 1)))) .nil)
/-- Gap.__init__ -/
def b28 : Ss := (.cons (.asg (.fld (.var 0) 4) (.call 0 (.cons (.var 1) .nil))) .nil)
/-- Gap.__eq__ -/
def b29 : Ss := (.cons (.ret (.and (.isi (.var 1) [.cls 7]) (.cmp .eq (.fld (.var 0) 4) (.fld (.var 1) 4)))) .nil)
/-- Gap.__ne__ -/
def b30 : Ss := (.cons (.ret (.not (.cmp .eq (.var 0) (.var 1)))) .nil)
/-- Early.__init__ -/
def b31 : Ss := (.cons (.asg (.fld (.var 0) 1) (.call 0 (.cons (.var 1) .nil))) .nil)
/-- Early.__eq__ -/
def b32 : Ss := (.cons (.ret (.and (.isi (.var 1) [.cls 8]) (.cmp .eq (.fld (.var 0) 1) (.fld (.var 1) 1)))) .nil)
/-- Early.__ne__ -/
def b33 : Ss := (.cons (.ret (.not (.cmp .eq (.var 0) (.var 1)))) .nil)
/-- Takes.__init__ -/
def b34 : Ss := (.cons (.asg (.fld (.var 0) 1) (.call 0 (.cons (.var 1) .nil))) (.cons (.asg (.fld (.var 0) 5) (.call 0 (.cons (.var 2) .nil))) .nil))
/-- Takes.__eq__ -/
def b35 : Ss := (.cons (.ret (.and (.isi (.var 1) [.cls 9]) (.cmp .eq (.tup (.cons (.fld (.var 0) 1) (.cons (.fld (.var 0) 5) .nil))) (.tup (.cons (.fld (.var 1) 1) (.cons (.fld (.var 1) 5) .nil)))))) .nil)
/-- Takes.__ne__ -/
def b36 : Ss := (.cons (.ret (.not (.cmp .eq (.var 0) (.var 1)))) .nil)
/-- Endless.__eq__ -/
def b37 : Ss := (.cons (.ret (.isi (.var 1) [.cls 10])) .nil)
/-- Endless.__ne__ -/
def b38 : Ss := (.cons (.ret (.not (.cmp .eq (.var 0) (.var 1)))) .nil)
/-- Lack.__init__ -/
def b39 : Ss := (.cons (.asg (.fld (.var 0) 1) (.call 0 (.cons (.var 1) .nil))) .nil)
/-- Lack.__eq__ -/
def b40 : Ss := (.cons (.ret (.and (.isi (.var 1) [.cls 11]) (.cmp .eq (.fld (.var 0) 1) (.fld (.var 1) 1)))) .nil)
/-- Lack.__ne__ -/
def b41 : Ss := (.cons (.ret (.not (.cmp .eq (.var 0) (.var 1)))) .nil)
/-- Most.__init__ -/
def b42 : Ss := (.cons (.asg (.fld (.var 0) 1) (.call 0 (.cons (.var 1) .nil))) .nil)
/-- Most.__eq__ -/
def b43 : Ss := (.cons (.ret (.and (.isi (.var 1) [.cls 12]) (.cmp .eq (.fld (.var 0) 1) (.fld (.var 1) 1)))) .nil)
/-- Most.__ne__ -/
def b44 : Ss := (.cons (.ret (.not (.cmp .eq (.var 0) (.var 1)))) .nil)
/-- Broke.__eq__ -/
def b45 : Ss := (.cons (.ret (.isi (.var 1) [.cls 13])) .nil)
/-- Broke.__ne__ -/
def b46 : Ss := (.cons (.ret (.not (.cmp .eq (.var 0) (.var 1)))) .nil)
/-- Square.__init__ -/
def b47 : Ss := (.cons (.asg (.fld (.var 0) 6) (.call 0 (.cons (.var 1) .nil))) .nil)
/-- Square.__eq__ -/
def b48 : Ss := (.cons (.ret (.and (.isi (.var 1) [.cls 14]) (.cmp .eq (.fld (.var 0) 6) (.fld (.var 1) 6)))) .nil)
/-- Square.__ne__ -/
def b49 : Ss := (.cons (.ret (.not (.cmp .eq (.var 0) (.var 1)))) .nil)
/-- Model.__init__ -/
def b50 : Ss := (.cons (.asg (.fld (.var 0) 11) (.call 0 (.cons (.var 1) .nil))) (.cons (.asg (.fld (.var 0) 5) (.call 0 (.cons (.var 2) .nil))) (.cons (.asg (.fld (.var 0) 10) (.call 0 (.cons (.var 3) .nil))) (.cons (.asg (.fld (.var 0) 9) (.call 0 (.cons (.var 4) .nil))) (.cons (.asg (.fld (.var 0) 8) (.call 0 (.cons (.var 5) .nil))) (.cons (.asg (.fld (.var 0) 7) (.call 0 (.cons (.var 6) .nil))) .nil))))))
/-- Model.__eq__ -/
def b51 : Ss := (.cons (.ret (.and (.isi (.var 1) [.cls 15]) (.cmp .eq (.call 1 (.cons (.var 0) .nil)) (.call 1 (.cons (.var 1) .nil))))) .nil)
/-- Model.__ne__ -/
def b52 : Ss := (.cons (.ret (.not (.cmp .eq (.var 0) (.var 1)))) .nil)
/-- model_key -/
def b1 : Ss := (.cons (.ret (.tup (.cons (.fld (.var 0) 11) (.cons (.fld (.var 0) 5) (.cons (.fld (.var 0) 10) (.cons (.fld (.var 0) 9) (.cons (.fld (.var 0) 8) (.cons (.fld (.var 0) 7) .nil)))))))) .nil)
/-- Paper.__init__ -/
def b53 : Ss := (.cons (.asg (.fld (.var 0) 12) (.call 0 (.cons (.var 1) .nil))) .nil)
/-- Paper.__eq__ -/
def b54 : Ss := (.cons (.ret (.and (.isi (.var 1) [.cls 16]) (.cmp .eq (.fld (.var 0) 12) (.fld (.var 1) 12)))) .nil)
/-- Paper.__ne__ -/
def b55 : Ss := (.cons (.ret (.not (.cmp .eq (.var 0) (.var 1)))) .nil)
/-- _law_pen -/
def b9 : Ss := (.cons (.asg (.nm 1) (.int 0)) (.cons (.for (.nm 2) (.seq (.var 0)) (.cons (.asg (.nm 1) (.bin false .mod (.bi false .int (.cons (.bin false .add (.bin false .mul (.var 1) (.int 191)) (.var 2)) .nil)) (.int 999999137))) .nil)) (.cons (.ret (.dct [("cells" : Str), ("at" : Str), ("digits" : Str), ("count" : Str), ("fold" : Str)] (.cons (.bi false .list (.cons (.var 0) .nil)) (.cons (.int 0) (.cons (.int 0) (.cons (.int 0) (.cons (.var 1) .nil))))))) .nil)))
/-- _law_draw -/
def b2 : Ss := (.cons (.asg (.idx (.var 0) (.str "count")) (.bin false .add (.idx (.var 0) (.str "count")) (.int 1))) (.cons (.ifs (.and (.cmp .eq (.idx (.var 0) (.str "digits")) (.int 0)) (.cmp .lt (.idx (.var 0) (.str "at")) (.bi false .len (.cons (.idx (.var 0) (.str "cells")) .nil)))) (.cons (.asg (.nm 2) (.idx (.idx (.var 0) (.str "cells")) (.idx (.var 0) (.str "at")))) (.cons (.asg (.idx (.var 0) (.str "at")) (.bin false .add (.idx (.var 0) (.str "at")) (.int 1))) (.cons (.ifs (.cmp .ge (.var 2) (.bin false .pow (.int 10) (.int 18))) (.cons (.asg (.idx (.var 0) (.str "digits")) (.bin false .sub (.var 2) (.bin false .pow (.int 10) (.int 18)))) .nil) (.cons (.asg (.idx (.var 0) (.str "fold")) (.bin false .mod (.bi false .int (.cons (.bin false .add (.bin false .mul (.idx (.var 0) (.str "fold")) (.int 30011)) (.var 2)) .nil)) (.int 2147482921))) .nil)) .nil))) .nil) (.cons (.ifs (.cmp .gt (.idx (.var 0) (.str "digits")) (.int 0)) (.cons (.asg (.nm 3) (.bin false .mod (.bi false .int (.cons (.idx (.var 0) (.str "digits")) .nil)) (.var 1))) (.cons (.asg (.idx (.var 0) (.str "digits")) (.bin false .fdiv (.idx (.var 0) (.str "digits")) (.var 1))) (.cons (.ret (.var 3)) .nil))) .nil) (.cons (.asg (.nm 4) (.bin false .add (.bin false .add (.idx (.var 0) (.str "fold")) (.bin false .mul (.idx (.var 0) (.str "count")) (.int 6311))) (.int 181))) (.cons (.ret (.bin false .mod (.bin false .fdiv (.bi false .int (.cons (.bin false .mod (.bin false .pow (.var 4) (.int 55)) (.int 2305843009213693951)) .nil)) (.int 1024)) (.var 1))) .nil)))))
/-- _law_pick -/
def b3 : Ss := (.cons (.ret (.idx (.var 1) (.call 2 (.cons (.var 0) (.cons (.bi false .len (.cons (.var 1) .nil)) .nil))))) .nil)
/-- _law_value -/
def b8 : Ss := (.cons (.ret (.call 3 (.cons (.var 0) (.cons (.lst false (.cons (.tup (.cons (.int 1) (.cons (.int 2) .nil))) (.cons (.lst false (.cons (.int 3) (.cons (.tup (.cons (.int 4) .nil)) .nil))) (.cons (.tup .nil) (.cons (.lst false .nil) (.cons (.str "abc") (.cons (.int 0) (.cons .non (.cons (.tup (.cons (.tup (.cons (.str "a") (.cons (.int 1) .nil))) .nil)) (.cons (.lst false (.cons (.lst false (.cons (.int 1) .nil)) .nil)) (.cons (.int 7) .nil))))))))))) .nil)))) .nil)
/-- _law_copy -/
def b6 : Ss := (.cons (.ret (.ite (.isi (.var 0) [.tlist]) (.bi false .tuple (.cons (.var 0) .nil)) (.var 0))) .nil)
/-- _law_model_fields -/
def b4 : Ss := (.cons (.ret (.tup (.cons (.fld (.var 0) 11) (.cons (.fld (.var 0) 5) (.cons (.fld (.var 0) 10) (.cons (.fld (.var 0) 9) (.cons (.fld (.var 0) 8) .nil))))))) .nil)
/-- _law_rows -/
def b7 : Ss := (.cons (.asg (.nm 4) (.lst true (.cons (.tup (.cons (.mk 0 (.cons (.var 0) .nil)) (.cons (.mkk 0 ["plan"] [0] (.cons (.var 0) .nil)) (.cons (.tup (.cons (.var 0) .nil)) (.cons (.lam 15) .nil))))) .nil))) (.cons (.expr (.bm false .append (.var 4) (.cons (.tup (.cons (.mk 2 (.cons (.var 1) .nil)) (.cons (.mkk 2 ["ratio"] [0] (.cons (.var 1) .nil)) (.cons (.tup (.cons (.var 1) .nil)) (.cons (.lam 14) .nil))))) .nil))) (.cons (.expr (.bm false .append (.var 4) (.cons (.tup (.cons (.mk 3 (.cons (.var 1) .nil)) (.cons (.mkk 3 ["ratio"] [0] (.cons (.var 1) .nil)) (.cons (.tup (.cons (.var 1) .nil)) (.cons (.lam 13) .nil))))) .nil))) (.cons (.expr (.bm false .append (.var 4) (.cons (.tup (.cons (.mk 4 (.cons (.var 0) (.cons (.var 2) .nil))) (.cons (.mkk 4 ["holdings", "start"] [1, 0] (.cons (.var 2) (.cons (.var 0) .nil))) (.cons (.tup (.cons (.var 0) (.cons (.var 2) .nil))) (.cons (.lam 12) .nil))))) .nil))) (.cons (.expr (.bm false .append (.var 4) (.cons (.tup (.cons (.mk 7 (.cons (.var 2) .nil)) (.cons (.mkk 7 ["row"] [0] (.cons (.var 2) .nil)) (.cons (.tup (.cons (.var 2) .nil)) (.cons (.lam 11) .nil))))) .nil))) (.cons (.expr (.bm false .append (.var 4) (.cons (.tup (.cons (.mk 8 (.cons (.var 3) .nil)) (.cons (.mkk 8 ["ratio"] [0] (.cons (.var 3) .nil)) (.cons (.tup (.cons (.var 3) .nil)) (.cons (.lam 10) .nil))))) .nil))) (.cons (.expr (.bm false .append (.var 4) (.cons (.tup (.cons (.mk 9 (.cons (.var 3) (.cons (.var 0) .nil))) (.cons (.mkk 9 ["nodes", "ratio"] [1, 0] (.cons (.var 0) (.cons (.var 3) .nil))) (.cons (.tup (.cons (.var 3) (.cons (.var 0) .nil))) (.cons (.lam 9) .nil))))) .nil))) (.cons (.expr (.bm false .append (.var 4) (.cons (.tup (.cons (.mk 16 (.cons (.var 0) .nil)) (.cons (.mkk 16 ["asked"] [0] (.cons (.var 0) .nil)) (.cons (.tup (.cons (.var 0) .nil)) (.cons (.lam 8) .nil))))) .nil))) (.cons (.expr (.bm false .append (.var 4) (.cons (.tup (.cons (.mk 15 (.cons (.var 0) (.cons (.var 1) (.cons (.var 2) (.cons (.var 3) (.cons (.int 5) .nil)))))) (.cons (.mkk 15 ["asks", "claims", "limits", "nodes", "things"] [4, 3, 2, 1, 0] (.cons (.int 5) (.cons (.var 3) (.cons (.var 2) (.cons (.var 1) (.cons (.var 0) .nil)))))) (.cons (.tup (.cons (.var 0) (.cons (.var 1) (.cons (.var 2) (.cons (.var 3) (.cons (.int 5) .nil)))))) (.cons (.fnv 4) .nil))))) .nil))) (.cons (.expr (.bm false .append (.var 4) (.cons (.tup (.cons (.mk 11 (.cons (.var 3) .nil)) (.cons (.mkk 11 ["ratio"] [0] (.cons (.var 3) .nil)) (.cons (.tup (.cons (.var 3) .nil)) (.cons (.lam 7) .nil))))) .nil))) (.cons (.expr (.bm false .append (.var 4) (.cons (.tup (.cons (.mk 12 (.cons (.var 3) .nil)) (.cons (.mkk 12 ["ratio"] [0] (.cons (.var 3) .nil)) (.cons (.tup (.cons (.var 3) .nil)) (.cons (.lam 6) .nil))))) .nil))) (.cons (.expr (.bm false .append (.var 4) (.cons (.tup (.cons (.mk 14 (.cons (.var 2) .nil)) (.cons (.mkk 14 ["total"] [0] (.cons (.var 2) .nil)) (.cons (.tup (.cons (.var 2) .nil)) (.cons (.lam 5) .nil))))) .nil))) (.cons (.expr (.bm false .append (.var 4) (.cons (.tup (.cons (.mk 13 .nil) (.cons (.mk 13 .nil) (.cons (.tup .nil) (.cons (.lam 4) .nil))))) .nil))) (.cons (.expr (.bm false .append (.var 4) (.cons (.tup (.cons (.mk 1 .nil) (.cons (.mk 1 .nil) (.cons (.tup .nil) (.cons (.lam 3) .nil))))) .nil))) (.cons (.expr (.bm false .append (.var 4) (.cons (.tup (.cons (.mk 5 .nil) (.cons (.mk 5 .nil) (.cons (.tup .nil) (.cons (.lam 2) .nil))))) .nil))) (.cons (.expr (.bm false .append (.var 4) (.cons (.tup (.cons (.mk 6 .nil) (.cons (.mk 6 .nil) (.cons (.tup .nil) (.cons (.lam 1) .nil))))) .nil))) (.cons (.expr (.bm false .append (.var 4) (.cons (.tup (.cons (.mk 10 .nil) (.cons (.mk 10 .nil) (.cons (.tup .nil) (.cons (.lam 0) .nil))))) .nil))) (.cons (.ret (.var 4)) .nil))))))))))))))))))
/-- _law_unlike -/
def b5 : Ss := (.cons (.asg (.nm 0) (.lst false (.cons (.tup (.cons (.mk 0 (.cons (.int 1) .nil)) (.cons (.mk 0 (.cons (.int 0) .nil)) .nil))) (.cons (.tup (.cons (.mk 2 (.cons (.int 1) .nil)) (.cons (.mk 2 (.cons (.int 0) .nil)) .nil))) (.cons (.tup (.cons (.mk 3 (.cons (.int 1) .nil)) (.cons (.mk 3 (.cons (.int 0) .nil)) .nil))) (.cons (.tup (.cons (.mk 4 (.cons (.int 1) (.cons (.int 2) .nil))) (.cons (.mk 4 (.cons (.int 0) (.cons (.int 2) .nil))) .nil))) (.cons (.tup (.cons (.mk 4 (.cons (.int 1) (.cons (.int 2) .nil))) (.cons (.mk 4 (.cons (.int 1) (.cons (.int 0) .nil))) .nil))) (.cons (.tup (.cons (.mk 7 (.cons (.int 1) .nil)) (.cons (.mk 7 (.cons (.int 0) .nil)) .nil))) .nil)))))))) (.cons (.asg (.nm 0) (.bin false .add (.var 0) (.lst false (.cons (.tup (.cons (.mk 8 (.cons (.int 1) .nil)) (.cons (.mk 8 (.cons (.int 0) .nil)) .nil))) (.cons (.tup (.cons (.mk 9 (.cons (.int 1) (.cons (.int 2) .nil))) (.cons (.mk 9 (.cons (.int 0) (.cons (.int 2) .nil))) .nil))) (.cons (.tup (.cons (.mk 9 (.cons (.int 1) (.cons (.int 2) .nil))) (.cons (.mk 9 (.cons (.int 1) (.cons (.int 0) .nil))) .nil))) (.cons (.tup (.cons (.mk 16 (.cons (.int 1) .nil)) (.cons (.mk 16 (.cons (.int 0) .nil)) .nil))) .nil))))))) (.cons (.asg (.nm 0) (.bin false .add (.var 0) (.lst false (.cons (.tup (.cons (.mk 15 (.cons (.int 1) (.cons (.int 2) (.cons (.int 3) (.cons (.int 4) (.cons (.int 5) .nil)))))) (.cons (.mk 15 (.cons (.int 0) (.cons (.int 2) (.cons (.int 3) (.cons (.int 4) (.cons (.int 5) .nil)))))) .nil))) (.cons (.tup (.cons (.mk 15 (.cons (.int 1) (.cons (.int 2) (.cons (.int 3) (.cons (.int 4) (.cons (.int 5) .nil)))))) (.cons (.mk 15 (.cons (.int 1) (.cons (.int 0) (.cons (.int 3) (.cons (.int 4) (.cons (.int 5) .nil)))))) .nil))) (.cons (.tup (.cons (.mk 15 (.cons (.int 1) (.cons (.int 2) (.cons (.int 3) (.cons (.int 4) (.cons (.int 5) .nil)))))) (.cons (.mk 15 (.cons (.int 1) (.cons (.int 2) (.cons (.int 0) (.cons (.int 4) (.cons (.int 5) .nil)))))) .nil))) .nil)))))) (.cons (.asg (.nm 0) (.bin false .add (.var 0) (.lst false (.cons (.tup (.cons (.mk 11 (.cons (.int 1) .nil)) (.cons (.mk 11 (.cons (.int 0) .nil)) .nil))) (.cons (.tup (.cons (.mk 12 (.cons (.int 1) .nil)) (.cons (.mk 12 (.cons (.int 0) .nil)) .nil))) (.cons (.tup (.cons (.mk 14 (.cons (.int 1) .nil)) (.cons (.mk 14 (.cons (.int 0) .nil)) .nil))) (.cons (.tup (.cons (.mk 11 (.cons (.int 1) .nil)) (.cons (.mk 12 (.cons (.int 1) .nil)) .nil))) (.cons (.tup (.cons (.mk 15 (.cons (.int 1) (.cons (.int 2) (.cons (.int 3) (.cons (.int 4) (.cons (.int 5) .nil)))))) (.cons (.mk 15 (.cons (.int 1) (.cons (.int 2) (.cons (.int 3) (.cons (.int 4) (.cons (.int 5) (.cons (.tup (.cons (.int 1) .nil)) .nil))))))) .nil))) .nil)))))))) (.cons (.ret (.bin false .add (.var 0) (.lst false (.cons (.tup (.cons (.mk 15 (.cons (.int 1) (.cons (.int 2) (.cons (.int 3) (.cons (.int 4) (.cons (.int 5) .nil)))))) (.cons (.mk 15 (.cons (.int 1) (.cons (.int 2) (.cons (.int 3) (.cons (.int 0) (.cons (.int 5) .nil)))))) .nil))) (.cons (.tup (.cons (.mk 15 (.cons (.int 1) (.cons (.int 2) (.cons (.int 3) (.cons (.int 4) (.cons (.int 5) .nil)))))) (.cons (.mk 15 (.cons (.int 1) (.cons (.int 2) (.cons (.int 3) (.cons (.int 4) (.cons (.int 0) .nil)))))) .nil))) .nil))))) .nil)))))
/-- law -/
def b56 : Ss := (.cons (.asg (.nm 1) (.call 9 (.cons (.var 0) .nil))) (.cons (.asg (.nm 2) (.comp false [3] (.call 8 (.cons (.var 1) .nil)) (.nm 3) (.rng (.cons (.int 4) .nil)) .nil)) (.cons (.asg (.tup (.cons (.nm 4) (.cons (.nm 5) (.cons (.nm 6) (.cons (.nm 7) .nil))))) (.comp true [8] (.ite (.isi (.var 8) [.tlist]) (.bi true .list (.cons (.var 8) .nil)) (.var 8)) (.nm 8) (.seq (.var 2)) .nil)) (.cons (.asg (.nm 9) (.call 7 (.cons (.var 4) (.cons (.var 5) (.cons (.var 6) (.cons (.var 7) .nil)))))) (.cons (.for (.tup (.cons (.nm 10) (.cons (.nm 11) (.cons (.nm 12) (.cons (.nm 13) .nil))))) (.seq (.var 9)) (.cons (.asg (.nm 14) (.bi false .repr (.cons (.bi false .tuple (.cons (.comp false [8] (.call 6 (.cons (.var 8) .nil)) (.nm 8) (.seq (.var 12)) .nil) .nil)) .nil))) (.cons (.ifs (.or (.cmp .ne (.bi false .repr (.cons (.app 13 (.cons (.var 10) .nil)) .nil)) (.var 14)) (.or (.cmp .ne (.bi false .repr (.cons (.app 13 (.cons (.var 11) .nil)) .nil)) (.var 14)) (.or (.cmp .ne (.var 10) (.var 11)) (.not (.cmp .eq (.var 10) (.var 11)))))) (.cons (.ret (.bl false)) .nil) .nil) .nil))) (.cons (.for (.nm 3) (.rng (.cons (.bi false .len (.cons (.var 9) .nil)) .nil)) (.cons (.asg (.nm 15) (.idx (.idx (.var 9) (.bin false .mod (.bi false .int (.cons (.bin false .add (.bin false .add (.var 3) (.int 1)) (.call 2 (.cons (.var 1) (.cons (.bin false .sub (.bi false .len (.cons (.var 9) .nil)) (.int 1)) .nil)))) .nil)) (.bi false .len (.cons (.var 9) .nil)))) (.int 0))) (.cons (.ifs (.or (.cmp .eq (.idx (.idx (.var 9) (.var 3)) (.int 0)) (.var 15)) (.not (.cmp .ne (.idx (.idx (.var 9) (.var 3)) (.int 0)) (.var 15)))) (.cons (.ret (.bl false)) .nil) .nil) .nil))) (.cons (.ifs (.bi false .any (.cons (.comp false [10, 11] (.or (.cmp .eq (.var 10) (.var 11)) (.not (.cmp .ne (.var 10) (.var 11)))) (.tup (.cons (.nm 10) (.cons (.nm 11) .nil))) (.seq (.call 5 .nil)) .nil) .nil)) (.cons (.ret (.bl false)) .nil) .nil) (.cons (.asg (.nm 16) (.bi false .repr (.cons (.fld (.idx (.idx (.var 9) (.int 0)) (.int 0)) 0) .nil))) (.cons (.ifs (.isi (.var 4) [.tlist]) (.cons (.expr (.bm false .append (.var 4) (.cons (.int 7) .nil))) .nil) .nil) (.cons (.ret (.cmp .eq (.bi false .repr (.cons (.fld (.idx (.idx (.var 9) (.int 0)) (.int 0)) 0) .nil)) (.var 16))) .nil))))))))))
def fnsL_0 : List DE := [⟨0, ⟨1, 1, [], true, b0⟩, ["value"], ["value"], ⟨("copied", none), "copied", "copied", L2.defArgs (top 1), L2.defBody (top 1), L2.defScope (top 1), [], []⟩⟩,
  ⟨10, ⟨2, 2, [], true, b10⟩, ["self", "plan"], ["self", "plan"], ⟨("Gains", some "__init__"), "__init__", "Gains.__init__", L2.defArgs (L2.inClass (top 3) 0), L2.defBody (L2.inClass (top 3) 0), L2.defScope (L2.inClass (top 3) 0), [], []⟩⟩,
  ⟨11, ⟨2, 2, [], true, b11⟩, ["self", "other"], ["self", "other"], ⟨("Gains", some "__eq__"), "__eq__", "Gains.__eq__", L2.defArgs (L2.inClass (top 3) 1), L2.defBody (L2.inClass (top 3) 1), L2.defScope (L2.inClass (top 3) 1), [], []⟩⟩,
  ⟨12, ⟨2, 2, [], true, b12⟩, ["self", "other"], ["self", "other"], ⟨("Gains", some "__ne__"), "__ne__", "Gains.__ne__", L2.defArgs (L2.inClass (top 3) 2), L2.defBody (L2.inClass (top 3) 2), L2.defScope (L2.inClass (top 3) 2), [], []⟩⟩,
  ⟨13, ⟨2, 2, [], true, b13⟩, ["self", "other"], ["self", "other"], ⟨("Fair", some "__eq__"), "__eq__", "Fair.__eq__", L2.defArgs (L2.inClass (top 4) 0), L2.defBody (L2.inClass (top 4) 0), L2.defScope (L2.inClass (top 4) 0), [], []⟩⟩,
  ⟨14, ⟨2, 2, [], true, b14⟩, ["self", "other"], ["self", "other"], ⟨("Fair", some "__ne__"), "__ne__", "Fair.__ne__", L2.defArgs (L2.inClass (top 4) 1), L2.defBody (L2.inClass (top 4) 1), L2.defScope (L2.inClass (top 4) 1), [], []⟩⟩,
  ⟨15, ⟨2, 2, [], true, b15⟩, ["self", "ratio"], ["self", "ratio"], ⟨("Cost", some "__init__"), "__init__", "Cost.__init__", L2.defArgs (L2.inClass (top 5) 0), L2.defBody (L2.inClass (top 5) 0), L2.defScope (L2.inClass (top 5) 0), [], []⟩⟩,
  ⟨16, ⟨2, 2, [], true, b16⟩, ["self", "other"], ["self", "other"], ⟨("Cost", some "__eq__"), "__eq__", "Cost.__eq__", L2.defArgs (L2.inClass (top 5) 1), L2.defBody (L2.inClass (top 5) 1), L2.defScope (L2.inClass (top 5) 1), [], []⟩⟩,
  ⟨17, ⟨2, 2, [], true, b17⟩, ["self", "other"], ["self", "other"], ⟨("Cost", some "__ne__"), "__ne__", "Cost.__ne__", L2.defArgs (L2.inClass (top 5) 2), L2.defBody (L2.inClass (top 5) 2), L2.defScope (L2.inClass (top 5) 2), [], []⟩⟩,
  ⟨18, ⟨2, 2, [], true, b18⟩, ["self", "ratio"], ["self", "ratio"], ⟨("Worth", some "__init__"), "__init__", "Worth.__init__", L2.defArgs (L2.inClass (top 6) 0), L2.defBody (L2.inClass (top 6) 0), L2.defScope (L2.inClass (top 6) 0), [], []⟩⟩,
  ⟨19, ⟨2, 2, [], true, b19⟩, ["self", "other"], ["self", "other"], ⟨("Worth", some "__eq__"), "__eq__", "Worth.__eq__", L2.defArgs (L2.inClass (top 6) 1), L2.defBody (L2.inClass (top 6) 1), L2.defScope (L2.inClass (top 6) 1), [], []⟩⟩,
  ⟨20, ⟨2, 2, [], true, b20⟩, ["self", "other"], ["self", "other"], ⟨("Worth", some "__ne__"), "__ne__", "Worth.__ne__", L2.defArgs (L2.inClass (top 6) 2), L2.defBody (L2.inClass (top 6) 2), L2.defScope (L2.inClass (top 6) 2), [], []⟩⟩,
  ⟨21, ⟨3, 3, [], true, b21⟩, ["self", "start", "holdings"], ["self", "start", "holdings"], ⟨("Copies", some "__init__"), "__init__", "Copies.__init__", L2.defArgs (L2.inClass (top 7) 0), L2.defBody (L2.inClass (top 7) 0), L2.defScope (L2.inClass (top 7) 0), [], []⟩⟩,
  ⟨22, ⟨2, 2, [], true, b22⟩, ["self", "other"], ["self", "other"], ⟨("Copies", some "__eq__"), "__eq__", "Copies.__eq__", L2.defArgs (L2.inClass (top 7) 1), L2.defBody (L2.inClass (top 7) 1), L2.defScope (L2.inClass (top 7) 1), [], []⟩⟩,
  ⟨23, ⟨2, 2, [], true, b23⟩, ["self", "other"], ["self", "other"], ⟨("Copies", some "__ne__"), "__ne__", "Copies.__ne__", L2.defArgs (L2.inClass (top 7) 2), L2.defBody (L2.inClass (top 7) 2), L2.defScope (L2.inClass (top 7) 2), [], []⟩⟩,
  ⟨24, ⟨2, 2, [], true, b24⟩, ["self", "other"], ["self", "other"], ⟨("Bars", some "__eq__"), "__eq__", "Bars.__eq__", L2.defArgs (L2.inClass (top 8) 0), L2.defBody (L2.inClass (top 8) 0), L2.defScope (L2.inClass (top 8) 0), [], []⟩⟩,
  ⟨25, ⟨2, 2, [], true, b25⟩, ["self", "other"], ["self", "other"], ⟨("Bars", some "__ne__"), "__ne__", "Bars.__ne__", L2.defArgs (L2.inClass (top 8) 1), L2.defBody (L2.inClass (top 8) 1), L2.defScope (L2.inClass (top 8) 1), [], []⟩⟩,
  ⟨26, ⟨2, 2, [], true, b26⟩, ["self", "other"], ["self", "other"], ⟨("Whole", some "__eq__"), "__eq__", "Whole.__eq__", L2.defArgs (L2.inClass (top 9) 0), L2.defBody (L2.inClass (top 9) 0), L2.defScope (L2.inClass (top 9) 0), [], []⟩⟩,
  ⟨27, ⟨2, 2, [], true, b27⟩, ["self", "other"], ["self", "other"], ⟨("Whole", some "__ne__"), "__ne__", "Whole.__ne__", L2.defArgs (L2.inClass (top 9) 1), L2.defBody (L2.inClass (top 9) 1), L2.defScope (L2.inClass (top 9) 1), [], []⟩⟩,
  ⟨28, ⟨2, 2, [], true, b28⟩, ["self", "row"], ["self", "row"], ⟨("Gap", some "__init__"), "__init__", "Gap.__init__", L2.defArgs (L2.inClass (top 10) 0), L2.defBody (L2.inClass (top 10) 0), L2.defScope (L2.inClass (top 10) 0), [], []⟩⟩]
def fnsL_1 : List DE := [⟨29, ⟨2, 2, [], true, b29⟩, ["self", "other"], ["self", "other"], ⟨("Gap", some "__eq__"), "__eq__", "Gap.__eq__", L2.defArgs (L2.inClass (top 10) 1), L2.defBody (L2.inClass (top 10) 1), L2.defScope (L2.inClass (top 10) 1), [], []⟩⟩,
  ⟨30, ⟨2, 2, [], true, b30⟩, ["self", "other"], ["self", "other"], ⟨("Gap", some "__ne__"), "__ne__", "Gap.__ne__", L2.defArgs (L2.inClass (top 10) 2), L2.defBody (L2.inClass (top 10) 2), L2.defScope (L2.inClass (top 10) 2), [], []⟩⟩,
  ⟨31, ⟨2, 2, [], true, b31⟩, ["self", "ratio"], ["self", "ratio"], ⟨("Early", some "__init__"), "__init__", "Early.__init__", L2.defArgs (L2.inClass (top 11) 0), L2.defBody (L2.inClass (top 11) 0), L2.defScope (L2.inClass (top 11) 0), [], []⟩⟩,
  ⟨32, ⟨2, 2, [], true, b32⟩, ["self", "other"], ["self", "other"], ⟨("Early", some "__eq__"), "__eq__", "Early.__eq__", L2.defArgs (L2.inClass (top 11) 1), L2.defBody (L2.inClass (top 11) 1), L2.defScope (L2.inClass (top 11) 1), [], []⟩⟩,
  ⟨33, ⟨2, 2, [], true, b33⟩, ["self", "other"], ["self", "other"], ⟨("Early", some "__ne__"), "__ne__", "Early.__ne__", L2.defArgs (L2.inClass (top 11) 2), L2.defBody (L2.inClass (top 11) 2), L2.defScope (L2.inClass (top 11) 2), [], []⟩⟩,
  ⟨34, ⟨3, 3, [], true, b34⟩, ["self", "ratio", "nodes"], ["self", "ratio", "nodes"], ⟨("Takes", some "__init__"), "__init__", "Takes.__init__", L2.defArgs (L2.inClass (top 12) 0), L2.defBody (L2.inClass (top 12) 0), L2.defScope (L2.inClass (top 12) 0), [], []⟩⟩,
  ⟨35, ⟨2, 2, [], true, b35⟩, ["self", "other"], ["self", "other"], ⟨("Takes", some "__eq__"), "__eq__", "Takes.__eq__", L2.defArgs (L2.inClass (top 12) 1), L2.defBody (L2.inClass (top 12) 1), L2.defScope (L2.inClass (top 12) 1), [], []⟩⟩,
  ⟨36, ⟨2, 2, [], true, b36⟩, ["self", "other"], ["self", "other"], ⟨("Takes", some "__ne__"), "__ne__", "Takes.__ne__", L2.defArgs (L2.inClass (top 12) 2), L2.defBody (L2.inClass (top 12) 2), L2.defScope (L2.inClass (top 12) 2), [], []⟩⟩,
  ⟨37, ⟨2, 2, [], true, b37⟩, ["self", "other"], ["self", "other"], ⟨("Endless", some "__eq__"), "__eq__", "Endless.__eq__", L2.defArgs (L2.inClass (top 13) 0), L2.defBody (L2.inClass (top 13) 0), L2.defScope (L2.inClass (top 13) 0), [], []⟩⟩,
  ⟨38, ⟨2, 2, [], true, b38⟩, ["self", "other"], ["self", "other"], ⟨("Endless", some "__ne__"), "__ne__", "Endless.__ne__", L2.defArgs (L2.inClass (top 13) 1), L2.defBody (L2.inClass (top 13) 1), L2.defScope (L2.inClass (top 13) 1), [], []⟩⟩,
  ⟨39, ⟨2, 2, [], true, b39⟩, ["self", "ratio"], ["self", "ratio"], ⟨("Lack", some "__init__"), "__init__", "Lack.__init__", L2.defArgs (L2.inClass (top 14) 0), L2.defBody (L2.inClass (top 14) 0), L2.defScope (L2.inClass (top 14) 0), [], []⟩⟩,
  ⟨40, ⟨2, 2, [], true, b40⟩, ["self", "other"], ["self", "other"], ⟨("Lack", some "__eq__"), "__eq__", "Lack.__eq__", L2.defArgs (L2.inClass (top 14) 1), L2.defBody (L2.inClass (top 14) 1), L2.defScope (L2.inClass (top 14) 1), [], []⟩⟩,
  ⟨41, ⟨2, 2, [], true, b41⟩, ["self", "other"], ["self", "other"], ⟨("Lack", some "__ne__"), "__ne__", "Lack.__ne__", L2.defArgs (L2.inClass (top 14) 2), L2.defBody (L2.inClass (top 14) 2), L2.defScope (L2.inClass (top 14) 2), [], []⟩⟩,
  ⟨42, ⟨2, 2, [], true, b42⟩, ["self", "ratio"], ["self", "ratio"], ⟨("Most", some "__init__"), "__init__", "Most.__init__", L2.defArgs (L2.inClass (top 15) 0), L2.defBody (L2.inClass (top 15) 0), L2.defScope (L2.inClass (top 15) 0), [], []⟩⟩,
  ⟨43, ⟨2, 2, [], true, b43⟩, ["self", "other"], ["self", "other"], ⟨("Most", some "__eq__"), "__eq__", "Most.__eq__", L2.defArgs (L2.inClass (top 15) 1), L2.defBody (L2.inClass (top 15) 1), L2.defScope (L2.inClass (top 15) 1), [], []⟩⟩,
  ⟨44, ⟨2, 2, [], true, b44⟩, ["self", "other"], ["self", "other"], ⟨("Most", some "__ne__"), "__ne__", "Most.__ne__", L2.defArgs (L2.inClass (top 15) 2), L2.defBody (L2.inClass (top 15) 2), L2.defScope (L2.inClass (top 15) 2), [], []⟩⟩,
  ⟨45, ⟨2, 2, [], true, b45⟩, ["self", "other"], ["self", "other"], ⟨("Broke", some "__eq__"), "__eq__", "Broke.__eq__", L2.defArgs (L2.inClass (top 16) 0), L2.defBody (L2.inClass (top 16) 0), L2.defScope (L2.inClass (top 16) 0), [], []⟩⟩,
  ⟨46, ⟨2, 2, [], true, b46⟩, ["self", "other"], ["self", "other"], ⟨("Broke", some "__ne__"), "__ne__", "Broke.__ne__", L2.defArgs (L2.inClass (top 16) 1), L2.defBody (L2.inClass (top 16) 1), L2.defScope (L2.inClass (top 16) 1), [], []⟩⟩,
  ⟨47, ⟨2, 2, [], true, b47⟩, ["self", "total"], ["self", "total"], ⟨("Square", some "__init__"), "__init__", "Square.__init__", L2.defArgs (L2.inClass (top 17) 0), L2.defBody (L2.inClass (top 17) 0), L2.defScope (L2.inClass (top 17) 0), [], []⟩⟩,
  ⟨48, ⟨2, 2, [], true, b48⟩, ["self", "other"], ["self", "other"], ⟨("Square", some "__eq__"), "__eq__", "Square.__eq__", L2.defArgs (L2.inClass (top 17) 1), L2.defBody (L2.inClass (top 17) 1), L2.defScope (L2.inClass (top 17) 1), [], []⟩⟩]
def fnsL_2 : List DE := [⟨49, ⟨2, 2, [], true, b49⟩, ["self", "other"], ["self", "other"], ⟨("Square", some "__ne__"), "__ne__", "Square.__ne__", L2.defArgs (L2.inClass (top 17) 2), L2.defBody (L2.inClass (top 17) 2), L2.defScope (L2.inClass (top 17) 2), [], []⟩⟩,
  ⟨50, ⟨7, 7, [.tup []], true, b50⟩, ["self", "things", "nodes", "limits", "claims", "asks", "measures"], ["self", "things", "nodes", "limits", "claims", "asks", "measures"], ⟨("Model", some "__init__"), "__init__", "Model.__init__", L2.defArgs (L2.inClass (top 19) 0), L2.defBody (L2.inClass (top 19) 0), L2.defScope (L2.inClass (top 19) 0), [.adr (He.dflAt ("Model", some "__init__") 0)], []⟩⟩,
  ⟨51, ⟨2, 2, [], true, b51⟩, ["self", "other"], ["self", "other"], ⟨("Model", some "__eq__"), "__eq__", "Model.__eq__", L2.defArgs (L2.inClass (top 19) 1), L2.defBody (L2.inClass (top 19) 1), L2.defScope (L2.inClass (top 19) 1), [], []⟩⟩,
  ⟨52, ⟨2, 2, [], true, b52⟩, ["self", "other"], ["self", "other"], ⟨("Model", some "__ne__"), "__ne__", "Model.__ne__", L2.defArgs (L2.inClass (top 19) 2), L2.defBody (L2.inClass (top 19) 2), L2.defScope (L2.inClass (top 19) 2), [], []⟩⟩,
  ⟨1, ⟨1, 1, [], true, b1⟩, ["model"], ["model"], ⟨("model_key", none), "model_key", "model_key", L2.defArgs (top 20), L2.defBody (top 20), L2.defScope (top 20), [], []⟩⟩,
  ⟨53, ⟨2, 2, [], true, b53⟩, ["self", "asked"], ["self", "asked"], ⟨("Paper", some "__init__"), "__init__", "Paper.__init__", L2.defArgs (L2.inClass (top 22) 0), L2.defBody (L2.inClass (top 22) 0), L2.defScope (L2.inClass (top 22) 0), [], []⟩⟩,
  ⟨54, ⟨2, 2, [], true, b54⟩, ["self", "other"], ["self", "other"], ⟨("Paper", some "__eq__"), "__eq__", "Paper.__eq__", L2.defArgs (L2.inClass (top 22) 1), L2.defBody (L2.inClass (top 22) 1), L2.defScope (L2.inClass (top 22) 1), [], []⟩⟩,
  ⟨55, ⟨2, 2, [], true, b55⟩, ["self", "other"], ["self", "other"], ⟨("Paper", some "__ne__"), "__ne__", "Paper.__ne__", L2.defArgs (L2.inClass (top 22) 2), L2.defBody (L2.inClass (top 22) 2), L2.defScope (L2.inClass (top 22) 2), [], []⟩⟩,
  ⟨9, ⟨1, 3, [], true, b9⟩, ["script", "fold", "cell"], ["script"], ⟨("_law_pen", none), "_law_pen", "_law_pen", L2.defArgs (top 24), L2.defBody (top 24), L2.defScope (top 24), [], []⟩⟩,
  ⟨2, ⟨2, 5, [], true, b2⟩, ["pen", "many", "cell", "digit", "blend"], ["pen", "many"], ⟨("_law_draw", none), "_law_draw", "_law_draw", L2.defArgs (top 25), L2.defBody (top 25), L2.defScope (top 25), [], []⟩⟩,
  ⟨3, ⟨2, 2, [], true, b3⟩, ["pen", "some"], ["pen", "some"], ⟨("_law_pick", none), "_law_pick", "_law_pick", L2.defArgs (top 26), L2.defBody (top 26), L2.defScope (top 26), [], []⟩⟩,
  ⟨8, ⟨1, 1, [], true, b8⟩, ["pen"], ["pen"], ⟨("_law_value", none), "_law_value", "_law_value", L2.defArgs (top 27), L2.defBody (top 27), L2.defScope (top 27), [], []⟩⟩,
  ⟨6, ⟨1, 1, [], true, b6⟩, ["value"], ["value"], ⟨("_law_copy", none), "_law_copy", "_law_copy", L2.defArgs (top 28), L2.defBody (top 28), L2.defScope (top 28), [], []⟩⟩,
  ⟨4, ⟨1, 1, [], true, b4⟩, ["one"], ["one"], ⟨("_law_model_fields", none), "_law_model_fields", "_law_model_fields", L2.defArgs (top 29), L2.defBody (top 29), L2.defScope (top 29), [], []⟩⟩,
  ⟨7, ⟨4, 5, [], true, b7⟩, ["a", "b", "c", "d", "rows"], ["a", "b", "c", "d"], ⟨("_law_rows", none), "_law_rows", "_law_rows", L2.defArgs (top 30), L2.defBody (top 30), L2.defScope (top 30), [], []⟩⟩,
  ⟨5, ⟨0, 1, [], true, b5⟩, ["rows"], [], ⟨("_law_unlike", none), "_law_unlike", "_law_unlike", L2.defArgs (top 31), L2.defBody (top 31), L2.defScope (top 31), [], []⟩⟩,
  ⟨56, ⟨1, 17, [], true, b56⟩, ["script", "pen", "values", "k", "a", "b", "c", "d", "value", "rows", "one", "two", "handed", "fields", "due", "other", "before"], ["script"], ⟨("law", none), "law", "law", L2.defArgs (top 32), L2.defBody (top 32), L2.defScope (top 32), [], []⟩⟩]
def fnsL : List DE := fnsL_0 ++ (fnsL_1 ++ (fnsL_2))
def clsL_0 : List (Nat × ClD) := [(0, ⟨(some 10), [0], [], true, (some 11), (some 12)⟩),
  (1, ⟨none, [], [], true, (some 13), (some 14)⟩),
  (2, ⟨(some 15), [1], [], true, (some 16), (some 17)⟩),
  (3, ⟨(some 18), [1], [], true, (some 19), (some 20)⟩),
  (4, ⟨(some 21), [3, 2], [], true, (some 22), (some 23)⟩),
  (5, ⟨none, [], [], true, (some 24), (some 25)⟩),
  (6, ⟨none, [], [], true, (some 26), (some 27)⟩),
  (7, ⟨(some 28), [4], [], true, (some 29), (some 30)⟩),
  (8, ⟨(some 31), [1], [], true, (some 32), (some 33)⟩),
  (9, ⟨(some 34), [1, 5], [], true, (some 35), (some 36)⟩),
  (10, ⟨none, [], [], true, (some 37), (some 38)⟩),
  (11, ⟨(some 39), [1], [], true, (some 40), (some 41)⟩),
  (12, ⟨(some 42), [1], [], true, (some 43), (some 44)⟩),
  (13, ⟨none, [], [], true, (some 45), (some 46)⟩),
  (14, ⟨(some 47), [6], [], true, (some 48), (some 49)⟩),
  (15, ⟨(some 50), [11, 5, 10, 9, 8, 7], [], true, (some 51), (some 52)⟩),
  (16, ⟨(some 53), [12], [], true, (some 54), (some 55)⟩)]
def clsL : List (Nat × ClD) := clsL_0
def cstL : List (Nat × X) := []
def fnNL_0 : List (Nat × Str) := [(0, "copied"),
  (1, "model_key"),
  (9, "_law_pen"),
  (2, "_law_draw"),
  (3, "_law_pick"),
  (8, "_law_value"),
  (6, "_law_copy"),
  (4, "_law_model_fields"),
  (7, "_law_rows"),
  (5, "_law_unlike"),
  (56, "law")]
def fnNL : List (Nat × Str) := fnNL_0
def clNL_0 : List (Nat × Str) := [(0, "Gains"),
  (1, "Fair"),
  (2, "Cost"),
  (3, "Worth"),
  (4, "Copies"),
  (5, "Bars"),
  (6, "Whole"),
  (7, "Gap"),
  (8, "Early"),
  (9, "Takes"),
  (10, "Endless"),
  (11, "Lack"),
  (12, "Most"),
  (13, "Broke"),
  (14, "Square"),
  (15, "Model"),
  (16, "Paper")]
def clNL : List (Nat × Str) := clNL_0
def csNL : List (Nat × Str) := []
def fldL_0 : List Str := ["plan",
  "ratio",
  "holdings",
  "start",
  "row",
  "nodes",
  "total",
  "measures",
  "asks",
  "claims",
  "limits",
  "things",
  "asked"]
def fldL : List Str := fldL_0
def exL (K : PySem.W.Frag) : Bool := valB K (.tup []) (.ref (He.dflAt ("Model", some "__init__") 0 K))
def LW : Lw := { gcd := false, fns := fnsL, cls := clsL, csts := cstL, fnN := fnNL, clN := clNL, csN := csNL, fld := fldL, lamF := [(0, []), (1, []), (2, []), (3, []), (4, []), (5, [6]), (6, [1]), (7, [1]), (8, [12]), (9, [1, 5]), (10, [1]), (11, [4]), (12, [3, 2]), (13, [1]), (14, [1]), (15, [0])], lamN := ["a", "b", "c", "d", "rows"], kws := [(14, ["total"], [0]), (12, ["ratio"], [0]), (11, ["ratio"], [0]), (15, ["asks", "claims", "limits", "nodes", "things"], [4, 3, 2, 1, 0]), (16, ["asked"], [0]), (9, ["nodes", "ratio"], [1, 0]), (8, ["ratio"], [0]), (7, ["row"], [0]), (4, ["holdings", "start"], [1, 0]), (3, ["ratio"], [0]), (2, ["ratio"], [0]), (0, ["plan"], [0])], probe := 0, ex := exL }
def lfL : Option Nat := (some 7)
abbrev lawL : Nat := 56
end HP

set_option Elab.async false
set_option linter.all false
set_option maxRecDepth 100000
set_option maxHeartbeats 0
namespace HP
open PySem PySem.Spec PyProof.Rows L2
abbrev Rw : PySem.W.OpenRow := PySem.W.OpenLaw.row PySem.Challenge.rw_hedgepapers_k90_classes_made_by_hand
def looseL_0 : List PySem.Str := ["copied", "Gains", "Fair", "Cost", "Worth", "Copies", "Bars", "Whole", "Gap", "Early", "Takes", "Endless", "Lack", "Most", "Broke", "Square", "Model", "model_key", "Paper", "_law_pen", "_law_draw", "_law_pick", "_law_value", "_law_copy", "_law_model_fields", "_law_rows", "_law_unlike"]
def looseL : List PySem.Str := looseL_0
theorem ndF : LW.fld.Nodup := by decide +kernel
theorem statL : LW.fns.all (statB LW.T) = true := by decide +kernel
theorem runH (w : World) : HandSHeadRun.RunEq Rw (PySem.W.view Rw.prog [32]) (LW.hook ndF lfL) (LW.ob ndF lfL) 20000 looseL w := by
  intro os
  kernel_rfl
abbrev lawI : Nat := 32
end HP

set_option Elab.async false
set_option linter.all false
set_option maxRecDepth 100000
set_option maxHeartbeats 2000000
/-! k90: values, copies, classes. -/
namespace HP
open PySem
/-- a value as the law hands it over, and as it is kept -/
inductive Av (h : Hq) : X → X → Prop
  | pl {v : X} (h1 : ∀ h, isiX v h .tlist = some false) (h2 : X.noOb v = true) : Av h v v
  | ob {l : Nat} {xs : List X} (h1 : h[l]? = some (.lst xs)) (h2 : X.noObs xs = true) : Av h (.ob l) (.tup xs)
theorem Av.nob {h : Hq} {a v : X} (A : Av h a v) : X.noOb v = true := by
  cases A with
  | pl h1 h2 => exact h2
  | ob h1 h2 => exact h2
theorem Av.app {h e : Hq} {a v : X} (A : Av h a v) : Av (h ++ e) a v := by
  cases A with
  | pl h1 h2 => exact .pl h1 h2
  | ob h1 h2 => exact .ob (by rw [List.getElem?_append_left (List.getElem?_eq_some_iff.mp h1).1]; exact h1) h2
def copB : Ss := .cons (.ret (.ite (.isi (.var 0) [.tlist]) (.bi false .tuple (.cons (.var 0) .nil)) (.var 0))) .nil
def copD : FnD := ⟨1, 1, [], true, copB⟩
theorem isi_false {x : X} {h : Hq} {t : Tk} (e : isiX x h t = some false) : isiA x h [t] = some false := by unfold isiA; rw [e]; rfl
theorem isi_true {x : X} {h : Hq} {t : Tk} (e : isiX x h t = some true) : isiA x h [t] = some true := by unfold isiA; rw [e]
theorem cop_ok {P : Pg} {cl : Cll} {h : Hq} {a v : X} (A : Av h a v) : runF P cl copD [a] h = .ok v h := by
  rw [s_run rfl]
  unfold copD copB
  cases A with
  | pl h1 h2 =>
    simp -implicitDefEqProofs only [↓s_var, ↓s_non, ↓s_bl, ↓s_int, ↓s_str, ↓s_cst, ↓s_tup, ↓s_lst, ↓s_dct, ↓s_bin, ↓s_neg, ↓s_cmp, ↓s_chn, ↓s_and, ↓s_or, ↓s_not, ↓s_ite, ↓s_idx, ↓s_slc, ↓s_fld, ↓s_call, ↓s_mk, ↓s_mkk, ↓s_mth, ↓s_app, ↓s_bi, ↓s_bm, ↓s_isi, ↓s_comp, ↓s_rev, ↓s_lam, ↓s_fnv, ↓s_nil, ↓s_cons, ↓s_cnil, ↓s_ccons, ↓s_iseq, ↓s_irng, ↓s_izip, ↓s_ienm, ↓s_tnm, ↓s_tidx, ↓s_ttup, ↓s_tsnil, ↓s_tscons, ↓s_expr, ↓s_asg, ↓s_par, ↓s_aug, ↓s_ret, ↓s_retN, ↓s_ifs, ↓s_for, ↓s_whl, ↓s_brk, ↓s_cnt, ↓s_pass, ↓s_snil, ↓s_scons, t_bl, t_int, t_non, t_tup, t_lst, ↓R.bnd_m, M.bnd_ap, M.opt_some, getV, List.length_cons, List.length_nil, List.getElem?_cons_zero, List.getElem?_cons_succ, List.set_cons_zero, List.set_cons_succ, ↓reduceIte, Bool.false_eq_true, Nat.reduceAdd, Nat.reduceSub, List.map_cons, List.map_nil, List.cons_append, List.nil_append, List.replicate_succ, List.replicate_zero, isi_false (h1 h)]
    exact fin_keep h2 rfl
  | ob h1 h2 =>
    rename_i l xs
    have e : isiX (.ob l) h .tlist = some true := by
      unfold isiX isTb isiY
      simp only [h1]
      rfl
    have e2 : biX false .tuple [.ob l] h = .ok (.tup xs) h := by
      show (match seqX (.ob l) h with | some xs => HP.R.ok (X.tup xs) h | none => .bad) = _
      have : seqX (.ob l) h = some xs := by
        unfold seqX
        simp only [h1]
      rw [this]
    simp -implicitDefEqProofs only [↓s_var, ↓s_non, ↓s_bl, ↓s_int, ↓s_str, ↓s_cst, ↓s_tup, ↓s_lst, ↓s_dct, ↓s_bin, ↓s_neg, ↓s_cmp, ↓s_chn, ↓s_and, ↓s_or, ↓s_not, ↓s_ite, ↓s_idx, ↓s_slc, ↓s_fld, ↓s_call, ↓s_mk, ↓s_mkk, ↓s_mth, ↓s_app, ↓s_bi, ↓s_bm, ↓s_isi, ↓s_comp, ↓s_rev, ↓s_lam, ↓s_fnv, ↓s_nil, ↓s_cons, ↓s_cnil, ↓s_ccons, ↓s_iseq, ↓s_irng, ↓s_izip, ↓s_ienm, ↓s_tnm, ↓s_tidx, ↓s_ttup, ↓s_tsnil, ↓s_tscons, ↓s_expr, ↓s_asg, ↓s_par, ↓s_aug, ↓s_ret, ↓s_retN, ↓s_ifs, ↓s_for, ↓s_whl, ↓s_brk, ↓s_cnt, ↓s_pass, ↓s_snil, ↓s_scons, t_bl, t_int, t_non, t_tup, t_lst, ↓R.bnd_m, M.bnd_ap, M.opt_some, getV, List.length_cons, List.length_nil, List.getElem?_cons_zero, List.getElem?_cons_succ, List.set_cons_zero, List.set_cons_succ, ↓reduceIte, Bool.false_eq_true, Nat.reduceAdd, Nat.reduceSub, List.map_cons, List.map_nil, List.cons_append, List.nil_append, List.replicate_succ, List.replicate_zero, isi_true e, e2]
    exact fin_keep h2 rfl
/-! ### objects that keep copies -/
def initB : List (Nat × Nat) → Ss
  | [] => .nil
  | p :: r => .cons (.asg (.fld (.var 0) p.1) (.call 0 (.cons (.var p.2) .nil))) (initB r)
theorem setF_new {f : Nat} {v : X} : ∀ {fs : List (Nat × X)}, f ∉ fs.map (·.1) → setF f v fs = fs ++ [(f, v)]
  | [], _ => rfl
  | (g, u) :: r, h => by
    have hg : g ≠ f := fun e => h (by rw [e]; exact List.mem_cons_self)
    unfold setF
    rw [if_neg hg, setF_new fun z => h (List.mem_cons_of_mem _ z)]
    rfl
theorem set_last {h : Hq} {a b : O} : (h ++ [a]).set h.length b = h ++ [b] := by
  rw [List.set_append_right _ _ (Nat.le_refl _)]
  simp
theorem get_last {h : Hq} {a : O} : (h ++ [a])[h.length]? = some a := by simp
theorem init_run {P : Pg} {cl : Cll} {c : Nat} {d : ClD} {h : Hq} {e : Env'} (hd : P.cl c = some d) (h0 : dflX P 0 1 = []) (he : e[0]? = some (some (.ob h.length)))
    (hcl : ∀ a v fs, Av h a v → cl 0 [a] (h ++ [.ins c fs]) = .ok v (h ++ [.ins c fs])) :
    ∀ (items : List (Nat × Nat)) (done : List (Nat × X)) (vs : List X), vs.length = items.length → (∀ (j : Nat) (p : Nat × Nat) (v : X), items[j]? = some p → vs[j]? = some v → p.1 ∈ d.flds ∧ ∃ a, e[p.2]? = some (some a) ∧ Av h a v) → (done.map (·.1) ++ items.map (·.1)).Nodup → done.length + items.length < 900 →
      evSs P cl (initB items) e (h ++ [.ins c done]) = .ok (.nx e) (h ++ [.ins c (done ++ (items.map (·.1)).zip vs)])
  | [], done, vs, hl, _, _, _ => by
    cases vs with
    | nil => simp [initB, s_snil]
    | cons _ _ => cases hl
  | p :: items, done, [], hl, _, _, _ => by cases hl
  | p :: items, done, v :: vs, hl, ha, nd, hs => by
    obtain ⟨hf, a, hea, hav⟩ := ha 0 p v rfl rfl
    have nf : p.1 ∉ done.map (·.1) := fun z => by
      rw [List.map_cons, List.nodup_append] at nd
      exact nd.2.2 _ z _ List.mem_cons_self rfl
    have ih := init_run hd h0 he hcl items (done ++ [(p.1, v)]) vs (by simpa using hl) (fun j q w h1 h2 => ha (j + 1) q w h1 h2) (by
      rw [List.map_append]
      simpa using nd) (by simp at hs ⊢; omega)
    have hdone : done.length < 999 := by simp at hs; omega
    unfold initB
    have e1 : evTg P cl (.fld (.var 0) p.1) v e (h ++ [.ins c done]) = .ok e (h ++ [.ins c (done ++ [(p.1, v)])]) := by
      show ((getV e 0 (h ++ [.ins c done])).bnd fun a h => _) = _
      rw [s_get he, R.bnd_ok]
      simp only [get_last, hd]
      have : d.flds.contains p.1 = true := by simpa using hf
      rw [this]
      simp only [hdone, decide_true, Bool.and_true, if_true]
      rw [setF_new nf, set_last]
    simp only [s_scons, s_asg, s_call, s_cons, s_nil, s_var, R.bnd_ok, s_get hea, List.length_cons, List.length_nil, h0, List.append_nil, Nat.zero_add, hcl a v done hav, e1]
    rw [ih]
    simp
/-- a class that keeps copies of all that is handed over -/
structure CopC (P : Pg) (c : Nat) (d : ClD) (f : Nat) (items : List (Nat × Nat)) : Prop where
  cl : P.cl c = some d
  ini : d.init = some f
  fn : ∃ fd, P.fn f = some fd ∧ fd.np = items.length + 1 ∧ fd.ns = items.length + 1 ∧ fd.frz = true ∧ fd.body = initB items
  frz : d.frz = true
  fl : d.flds = items.map (·.1)
  nd : (items.map (·.1)).Nodup
  cop : P.fn 0 = some copD
  sm : items.length < 800
theorem frz_noOb {P : Pg} {n : Nat} {h : Hq} : ∀ {k : Nat} {x : X}, X.noOb x = true → frzX P n h k x = some x
  | 0, x, hx => by unfold frzX; rw [if_pos hx]
  | k + 1, x, hx => by unfold frzX; rw [if_pos hx]
theorem mapO_noOb {P : Pg} {n k : Nat} {h : Hq} : ∀ {xs : List X}, X.noObs xs = true → mapO (frzX P n h k) xs = some xs
  | [], _ => rfl
  | x :: xs, hx => by
    have hx := Bool.and_eq_true_iff.mp hx
    unfold mapO
    rw [frz_noOb hx.1, mapO_noOb hx.2]
theorem mk_ok {P : Pg} {c : Nat} {d : ClD} {f : Nat} {items : List (Nat × Nat)} (C : CopC P c d f items) {k : Nat} {h : Hq} {as vs : List X} (hl : vs.length = items.length) (hal : (as ++ dflX P f (as.length + 1)).length = items.length)
    (ha : ∀ (j : Nat) (p : Nat × Nat) (v : X), items[j]? = some p → vs[j]? = some v → ∃ a, (X.ob h.length :: as ++ dflX P f (as.length + 1))[p.2]? = some a ∧ Av h a v) : mkX P (calls P (k + 2)) c as h = .ok (.ins c vs) h := by
  obtain ⟨fd, hfn, hnp, hns, hfz, hb⟩ := C.fn
  have hd0 : dflX P 0 1 = [] := by
    unfold dflX
    rw [C.cop]
    rfl
  have hcl : ∀ a v fs, Av h a v → calls P (k + 1) 0 [a] (h ++ [.ins c fs]) = .ok v (h ++ [.ins c fs]) := fun a v fs A => by
    rw [s_calls C.cop]
    exact cop_ok A.app
  have hrun := init_run (P := P) (cl := calls P (k + 1)) (c := c) (d := d) (h := h) (e := (X.ob h.length :: as ++ dflX P f (as.length + 1)).map some ++ List.replicate (fd.ns - fd.np) none) C.cl hd0 rfl hcl items [] vs hl (fun j p v h1 h2 => by
    obtain ⟨a, h3, h4⟩ := ha j p v h1 h2
    refine ⟨by rw [C.fl]; exact List.mem_map.mpr ⟨p, List.mem_of_getElem? h1, rfl⟩, a, ?_, h4⟩
    rw [List.getElem?_append_left (by rw [List.length_map]; exact (List.getElem?_eq_some_iff.mp h3).1), List.getElem?_map, h3]
    rfl) (by simpa using C.nd) (by have := C.sm; simpa using (by omega : items.length < 900))
  have hall : X.noObs vs = true := by
    have : ∀ v ∈ vs, X.noOb v = true := fun v hv => by
      obtain ⟨j, hj⟩ := List.mem_iff_getElem?.mp hv
      have hjl : j < items.length := by rw [← hl]; exact (List.getElem?_eq_some_iff.mp hj).1
      obtain ⟨a, _, A⟩ := ha j items[j] v (List.getElem?_eq_getElem hjl) hj
      exact A.nob
    clear hrun ha hl hal
    induction vs with
    | nil => rfl
    | cons v vs ih => exact Bool.and_eq_true_iff.mpr ⟨this v List.mem_cons_self, ih fun w hw => this w (List.mem_cons_of_mem _ hw)⟩
  unfold mkX
  rw [C.cl]
  simp only [C.ini]
  have e1 : calls P (k + 2) f (X.ob h.length :: as ++ dflX P f (as.length + 1)) (h ++ [.ins c []]) = .ok .non (h ++ [.ins c ((items.map (·.1)).zip vs)]) := by
    rw [s_calls hfn, s_run (by rw [hnp]; simpa using hal), hb, hrun, R.bnd_ok]
    show finX P fd.frz _ .non _ = _
    rw [hfz]
    exact fin_keep rfl (by simp)
  rw [e1, R.bnd_ok]
  show finX P d.frz h (.ob h.length) _ = _
  rw [C.frz]
  unfold finX
  rw [if_pos rfl]
  have e2 : frzX P h.length (h ++ [.ins c ((items.map (·.1)).zip vs)]) 8 (.ob h.length) = some (.ins c vs) := by
    unfold frzX
    rw [if_neg (show ¬ X.noOb (.ob h.length) = true from Bool.false_ne_true)]
    simp only [Nat.lt_irrefl, if_false, get_last, C.cl]
    have h1 : ((items.map (·.1)).zip vs).map (·.1) = d.flds := by
      rw [C.fl, List.map_fst_zip]
      rw [List.length_map, hl]
      exact Nat.le_refl _
    have h2 : ((items.map (·.1)).zip vs).map (·.2) = vs := by
      rw [List.map_snd_zip]
      rw [List.length_map, hl]
      exact Nat.le_refl _
    rw [C.frz, h1, h2, mapO_noOb hall]
    simp
  rw [e2]
  simp
end HP


set_option Elab.async false
set_option linter.all false
set_option maxRecDepth 100000
set_option maxHeartbeats 2000000
/-! k90: what is kept, shown, compared. -/
namespace HP
open PySem
/-- a value that is kept -/
structure GV (v : X) : Prop where
  nob : X.noOb v = true
  dat : X.dat v = true
  dep : X.dep v ≤ 4
  eqv : PyData.eqv v.toD v.toD = true
  sho : v.toD.showable = true
  len : v.toD.shown.length ≤ 100
  nl : ∀ h, isiX v h .tlist = some false
  red : ∀ h, redX v h = v
  cls : ∀ h, clsX v h = none
theorem GV.all {vs : List X} (g : ∀ v ∈ vs, GV v) : X.noObs vs = true ∧ X.dats vs = true ∧ X.deps vs ≤ 4 ∧ PyData.eqvAll (X.toDs vs) (X.toDs vs) = true ∧ PyData.showableAll (X.toDs vs) = true ∧ (∀ t ∈ PyData.shownAll (X.toDs vs), t.length ≤ 100) ∧ (PyData.shownAll (X.toDs vs)).length = vs.length := by
  induction vs with
  | nil => exact ⟨rfl, rfl, Nat.zero_le _, by unfold X.toDs; rw [PyData.eqvAll.eq_def], rfl, fun t ht => absurd ht (by unfold X.toDs; rw [PyData.shownAll.eq_def]; simp), rfl⟩
  | cons v vs ih =>
    have gv := g v List.mem_cons_self
    obtain ⟨a, b, c, d, e, f, i⟩ := ih fun w hw => g w (List.mem_cons_of_mem _ hw)
    refine ⟨Bool.and_eq_true_iff.mpr ⟨gv.nob, a⟩, Bool.and_eq_true_iff.mpr ⟨gv.dat, b⟩, Nat.max_le.mpr ⟨gv.dep, c⟩, ?_, ?_, ?_, ?_⟩
    · unfold X.toDs
      rw [PyData.eqvAll.eq_def]
      simp only [gv.eqv, d, Bool.and_self]
    · unfold X.toDs
      rw [PyData.showableAll.eq_def]
      simp only [gv.sho, e, Bool.and_self]
    · unfold X.toDs
      rw [PyData.shownAll.eq_def]
      intro t ht
      rcases List.mem_cons.mp ht with rfl | ht
      · exact gv.len
      · exact f t ht
    · unfold X.toDs
      rw [PyData.shownAll.eq_def]
      simp only [List.length_cons, i]
theorem piled_le {n : Nat} : ∀ {ts : List Str}, (∀ t ∈ ts, t.length ≤ n) → piled ts ≤ ts.length * (n + 2)
  | [], _ => Nat.zero_le _
  | t :: ts, h => by
    rw [piled_cons, List.length_cons, Nat.succ_mul]
    have := h t List.mem_cons_self
    have := piled_le fun u hu => h u (List.mem_cons_of_mem _ hu)
    omega
theorem sz_ok {n : Nat} (h : n ≤ 16777216) : szSeq n = true := by unfold szSeq; simpa using h
theorem GV.repr {v : X} (g : GV v) : ∀ h, reprX v h = some v.toD.shown := fun h => by
  unfold reprX
  have := g.len
  have := g.dep
  simp only [g.red h]
  rw [if_pos]
  unfold datX
  simp only [g.dat, g.sho, Bool.true_and, Bool.and_true, Bool.and_eq_true, decide_eq_true_eq]
  exact ⟨by omega, sz_ok (by omega)⟩
theorem GV.reprs {vs : List X} (g : ∀ v ∈ vs, GV v) (hl : vs.length ≤ 6) : ∀ h, reprX (.tup vs) h = some (X.tup vs).toD.shown := fun h => by
  obtain ⟨a, b, c, d, e, f, i⟩ := GV.all g
  have hr : redX (.tup vs) h = .tup vs := rfl
  unfold reprX
  simp only [hr]
  have h1 : datX (.tup vs) = true := by
    unfold datX
    rw [Bool.and_eq_true]
    exact ⟨b, decide_eq_true (show X.deps vs + 1 ≤ 60 by omega)⟩
  have h2 : (X.tup vs).toD.showable = true := by
    show (PyData.tuple (X.toDs vs)).showable = true
    rw [PyData.showable.eq_def]
    exact e
  have h3 : szSeq (X.tup vs).toD.shown.length = true := by
    have e0 : (X.tup vs).toD.shown = tupleText (PyData.shownAll (X.toDs vs)) := by
      show (PyData.tuple (X.toDs vs)).shown = _
      rw [PyData.shown.eq_def]
    rw [e0]
    refine sz_ok ?_
    unfold tupleText
    rw [strLen_append, strLen_append]
    have hj : (Str.join ", " (PyData.shownAll (X.toDs vs))).length ≤ 700 := by
      by_cases hn : PyData.shownAll (X.toDs vs) = []
      · rw [hn]; decide +kernel
      · have h4 := join_length_add _ hn
        have h5 := piled_le f
        rw [i] at h5
        have : vs.length * (100 + 2) ≤ 6 * 102 := Nat.mul_le_mul_right _ hl
        omega
    have h6 : (("(" : String) : Str).length = 1 := by decide +kernel
    have h7 : ∀ b : Bool, (((if b then ",)" else ")") : String) : Str).length ≤ 2 := by decide +kernel
    have := h7 ((PyData.shownAll (X.toDs vs)).length == 1)
    omega
  rw [h1, h2, h3]
  rfl
theorem GV.eq {v : X} (g : GV v) (h : Hq) : cmpX .eq v v h = some true := by
  have := g.dep
  show (match eqT v v with | some k => some k | none => if datX (redX v h) && datX (redX v h) then some (eqX (redX v h) (redX v h)) else none) = _
  cases e : eqT v v with
  | some k =>
    obtain ⟨a, b, h1, h2, h3⟩ := eqT_ok e
    rw [h1] at h2
    cases h2
    simp [h3]
  | none =>
    have hd : datX v = true := by unfold datX; rw [g.dat]; simpa using (by omega : X.dep v ≤ 60)
    simp only [g.red h, hd, Bool.and_self, if_true]
    exact congrArg some g.eqv
theorem GV.eqs {vs : List X} (g : ∀ v ∈ vs, GV v) (h : Hq) : cmpX .eq (.tup vs) (.tup vs) h = some true := by
  obtain ⟨a, b, c, d, _⟩ := GV.all g
  have hd : datX (.tup vs) = true := by
    unfold datX
    rw [Bool.and_eq_true]
    exact ⟨b, decide_eq_true (show X.deps vs + 1 ≤ 60 by omega)⟩
  show (if datX (.tup vs) && datX (.tup vs) then some (eqX (.tup vs) (.tup vs)) else none) = _
  rw [hd]
  show some (PyData.eqv (.tuple (X.toDs vs)) (.tuple (X.toDs vs))) = _
  rw [PyData.eqv.eq_def]
  exact congrArg some d
/-! ### == of objects -/
section
variable {P : Pg} {cl : Cll} {h : Hq} {c c2 : Nat} {vs ws : List X}
theorem cmpM_of {o : Cp} {x y : X} {b : Bool} (hc : clsX x h = none) (e : cmpX o x y h = some b) : eqM P cl o x y h = .ok (.bl b) h := by
  unfold eqM
  have : (if o = .eq then (clsX x h).bind fun c => (P.cl c).bind (·.eq) else if o = .ne then (clsX x h).bind fun c => (P.cl c).bind (·.ne) else none) = none := by
    rw [hc]
    split
    · rfl
    · split <;> rfl
  rw [this]
  simp only [e]
theorem eqM_ins {d : ClD} {f : Nat} {b : Bool} (hd : P.cl c = some d) (he : d.eq = some f) (h2 : (P.cl c2).isSome = true) (e : cl f [.ins c vs, .ins c2 ws] h = .ok (.bl b) h) : eqM P cl .eq (.ins c vs) (.ins c2 ws) h = .ok (.bl b) h := by
  unfold eqM
  have h1 : ((clsX (.ins c2 ws) h).bind P.cl).isSome = true := h2
  have h3 : (if Cp.eq = Cp.eq then (clsX (.ins c vs) h).bind fun c => (P.cl c).bind (·.eq) else if Cp.eq = Cp.ne then (clsX (.ins c vs) h).bind fun c => (P.cl c).bind (·.ne) else none) = some f := by
    rw [if_pos rfl]
    show (P.cl c).bind _ = _
    rw [hd]
    exact he
  rw [h3]
  simp only [h1, if_true, e]
  rfl
theorem neM_ins {d : ClD} {f : Nat} {b : Bool} (hd : P.cl c = some d) (he : d.ne = some f) (h2 : (P.cl c2).isSome = true) (e : cl f [.ins c vs, .ins c2 ws] h = .ok (.bl b) h) : eqM P cl .ne (.ins c vs) (.ins c2 ws) h = .ok (.bl b) h := by
  unfold eqM
  have h1 : ((clsX (.ins c2 ws) h).bind P.cl).isSome = true := h2
  have h3 : (if Cp.ne = Cp.eq then (clsX (.ins c vs) h).bind fun c => (P.cl c).bind (·.eq) else if Cp.ne = Cp.ne then (clsX (.ins c vs) h).bind fun c => (P.cl c).bind (·.ne) else none) = some f := by
    rw [if_neg (by decide), if_pos rfl]
    show (P.cl c).bind _ = _
    rw [hd]
    exact he
  rw [h3]
  simp only [h1, if_true, e]
  rfl
def neB : Ss := .cons (.ret (.not (.cmp .eq (.var 0) (.var 1)))) .nil
def neD : FnD := ⟨2, 2, [], true, neB⟩
def eqA (c : Nat) : FnD := ⟨2, 2, [], true, .cons (.ret (.isi (.var 1) [.cls c])) .nil⟩
def eqAnd (c : Nat) (a : E) : FnD := ⟨2, 2, [], true, .cons (.ret (.and (.isi (.var 1) [.cls c]) a)) .nil⟩
theorem isi_cls {k : Bool} (hk : (c2 == c) = k) : isiA (.ins c2 ws) h [.cls c] = some k := by
  have e : isiX (.ins c2 ws) h (.cls c) = some (c2 == c) := rfl
  unfold isiA
  rw [e, hk]
  cases k <;> rfl
theorem ne_run {x y : X} {b : Bool} (e : eqM P cl .eq x y h = .ok (.bl b) h) : runF P cl neD [x, y] h = .ok (.bl (!b)) h := by
  rw [s_run rfl]
  unfold neD neB
  simp -implicitDefEqProofs only [↓s_var, ↓s_non, ↓s_bl, ↓s_int, ↓s_str, ↓s_cst, ↓s_tup, ↓s_lst, ↓s_dct, ↓s_bin, ↓s_neg, ↓s_cmp, ↓s_chn, ↓s_and, ↓s_or, ↓s_not, ↓s_ite, ↓s_idx, ↓s_slc, ↓s_fld, ↓s_call, ↓s_mk, ↓s_mkk, ↓s_mth, ↓s_app, ↓s_bi, ↓s_bm, ↓s_isi, ↓s_comp, ↓s_rev, ↓s_lam, ↓s_fnv, ↓s_nil, ↓s_cons, ↓s_cnil, ↓s_ccons, ↓s_iseq, ↓s_irng, ↓s_izip, ↓s_ienm, ↓s_tnm, ↓s_tidx, ↓s_ttup, ↓s_tsnil, ↓s_tscons, ↓s_expr, ↓s_asg, ↓s_par, ↓s_aug, ↓s_ret, ↓s_retN, ↓s_ifs, ↓s_for, ↓s_whl, ↓s_brk, ↓s_cnt, ↓s_pass, ↓s_snil, ↓s_scons, t_bl, t_int, t_non, t_tup, t_lst, ↓R.bnd_m, M.bnd_ap, M.opt_some, getV, List.length_cons, List.length_nil, List.getElem?_cons_zero, List.getElem?_cons_succ, List.set_cons_zero, List.set_cons_succ, ↓reduceIte, Bool.false_eq_true, Nat.reduceAdd, Nat.reduceSub, List.map_cons, List.map_nil, List.cons_append, List.nil_append, List.replicate_succ, List.replicate_zero, e]
  exact fin_keep rfl rfl
theorem eqA_run {x : X} {k : Bool} (hk : (c2 == c) = k) : runF P cl (eqA c) [x, .ins c2 ws] h = .ok (.bl k) h := by
  rw [s_run rfl]
  unfold eqA
  simp -implicitDefEqProofs only [↓s_var, ↓s_non, ↓s_bl, ↓s_int, ↓s_str, ↓s_cst, ↓s_tup, ↓s_lst, ↓s_dct, ↓s_bin, ↓s_neg, ↓s_cmp, ↓s_chn, ↓s_and, ↓s_or, ↓s_not, ↓s_ite, ↓s_idx, ↓s_slc, ↓s_fld, ↓s_call, ↓s_mk, ↓s_mkk, ↓s_mth, ↓s_app, ↓s_bi, ↓s_bm, ↓s_isi, ↓s_comp, ↓s_rev, ↓s_lam, ↓s_fnv, ↓s_nil, ↓s_cons, ↓s_cnil, ↓s_ccons, ↓s_iseq, ↓s_irng, ↓s_izip, ↓s_ienm, ↓s_tnm, ↓s_tidx, ↓s_ttup, ↓s_tsnil, ↓s_tscons, ↓s_expr, ↓s_asg, ↓s_par, ↓s_aug, ↓s_ret, ↓s_retN, ↓s_ifs, ↓s_for, ↓s_whl, ↓s_brk, ↓s_cnt, ↓s_pass, ↓s_snil, ↓s_scons, t_bl, t_int, t_non, t_tup, t_lst, ↓R.bnd_m, M.bnd_ap, M.opt_some, getV, List.length_cons, List.length_nil, List.getElem?_cons_zero, List.getElem?_cons_succ, List.set_cons_zero, List.set_cons_succ, ↓reduceIte, Bool.false_eq_true, Nat.reduceAdd, Nat.reduceSub, List.map_cons, List.map_nil, List.cons_append, List.nil_append, List.replicate_succ, List.replicate_zero, isi_cls hk]
  exact fin_keep rfl rfl
theorem eqAnd_no {x : X} {a : E} (hk : (c2 == c) = false) : runF P cl (eqAnd c a) [x, .ins c2 ws] h = .ok (.bl false) h := by
  rw [s_run rfl]
  unfold eqAnd
  simp -implicitDefEqProofs only [↓s_var, ↓s_non, ↓s_bl, ↓s_int, ↓s_str, ↓s_cst, ↓s_tup, ↓s_lst, ↓s_dct, ↓s_bin, ↓s_neg, ↓s_cmp, ↓s_chn, ↓s_and, ↓s_or, ↓s_not, ↓s_ite, ↓s_idx, ↓s_slc, ↓s_fld, ↓s_call, ↓s_mk, ↓s_mkk, ↓s_mth, ↓s_app, ↓s_bi, ↓s_bm, ↓s_isi, ↓s_comp, ↓s_rev, ↓s_lam, ↓s_fnv, ↓s_nil, ↓s_cons, ↓s_cnil, ↓s_ccons, ↓s_iseq, ↓s_irng, ↓s_izip, ↓s_ienm, ↓s_tnm, ↓s_tidx, ↓s_ttup, ↓s_tsnil, ↓s_tscons, ↓s_expr, ↓s_asg, ↓s_par, ↓s_aug, ↓s_ret, ↓s_retN, ↓s_ifs, ↓s_for, ↓s_whl, ↓s_brk, ↓s_cnt, ↓s_pass, ↓s_snil, ↓s_scons, t_bl, t_int, t_non, t_tup, t_lst, ↓R.bnd_m, M.bnd_ap, M.opt_some, getV, List.length_cons, List.length_nil, List.getElem?_cons_zero, List.getElem?_cons_succ, List.set_cons_zero, List.set_cons_succ, ↓reduceIte, Bool.false_eq_true, Nat.reduceAdd, Nat.reduceSub, List.map_cons, List.map_nil, List.cons_append, List.nil_append, List.replicate_succ, List.replicate_zero, isi_cls hk]
  exact fin_keep rfl rfl
theorem eqAnd_yes {x : X} {a : E} {b : Bool} (e : evE P cl a [some x, some (.ins c ws)] h = .ok (.bl b) h) : runF P cl (eqAnd c a) [x, .ins c ws] h = .ok (.bl b) h := by
  rw [s_run rfl]
  unfold eqAnd
  simp -implicitDefEqProofs only [↓s_var, ↓s_non, ↓s_bl, ↓s_int, ↓s_str, ↓s_cst, ↓s_tup, ↓s_lst, ↓s_dct, ↓s_bin, ↓s_neg, ↓s_cmp, ↓s_chn, ↓s_and, ↓s_or, ↓s_not, ↓s_ite, ↓s_idx, ↓s_slc, ↓s_fld, ↓s_call, ↓s_mk, ↓s_mkk, ↓s_mth, ↓s_app, ↓s_bi, ↓s_bm, ↓s_isi, ↓s_comp, ↓s_rev, ↓s_lam, ↓s_fnv, ↓s_nil, ↓s_cons, ↓s_cnil, ↓s_ccons, ↓s_iseq, ↓s_irng, ↓s_izip, ↓s_ienm, ↓s_tnm, ↓s_tidx, ↓s_ttup, ↓s_tsnil, ↓s_tscons, ↓s_expr, ↓s_asg, ↓s_par, ↓s_aug, ↓s_ret, ↓s_retN, ↓s_ifs, ↓s_for, ↓s_whl, ↓s_brk, ↓s_cnt, ↓s_pass, ↓s_snil, ↓s_scons, t_bl, t_int, t_non, t_tup, t_lst, ↓R.bnd_m, M.bnd_ap, M.opt_some, getV, List.length_cons, List.length_nil, List.getElem?_cons_zero, List.getElem?_cons_succ, List.set_cons_zero, List.set_cons_succ, ↓reduceIte, Bool.false_eq_true, Nat.reduceAdd, Nat.reduceSub, List.map_cons, List.map_nil, List.cons_append, List.nil_append, List.replicate_succ, List.replicate_zero, isi_cls (beq_self_eq_true c), e]
  exact fin_keep rfl rfl
/-- a class whose == is by class, then by something -/
structure EqC (P : Pg) (c : Nat) : Prop where
  ex : ∃ d e n, P.cl c = some d ∧ d.eq = some e ∧ d.ne = some n ∧ P.fn n = some neD ∧ (P.fn e = some (eqA c) ∨ ∃ a, P.fn e = some (eqAnd c a))
/-- objects of two classes -/
theorem other {k : Nat} (E : EqC P c) (h2 : (P.cl c2).isSome = true) (hc : c2 ≠ c) : eqM P (calls P (k + 2)) .eq (.ins c vs) (.ins c2 ws) h = .ok (.bl false) h ∧ eqM P (calls P (k + 2)) .ne (.ins c vs) (.ins c2 ws) h = .ok (.bl true) h := by
  obtain ⟨d, e, n, h1, he, hn, hfn, hfe⟩ := E.ex
  have hk : (c2 == c) = false := by simpa using hc
  have eq : ∀ k, eqM P (calls P (k + 1)) .eq (.ins c vs) (.ins c2 ws) h = .ok (.bl false) h := fun k => by
    refine eqM_ins h1 he h2 ?_
    rcases hfe with hfe | ⟨a, hfe⟩
    · rw [s_calls hfe]; exact eqA_run hk
    · rw [s_calls hfe]; exact eqAnd_no hk
  refine ⟨eq (k + 1), neM_ins h1 hn h2 ?_⟩
  rw [s_calls hfn]
  exact ne_run (eq k)
/-- an object and one like it -/
theorem same {k : Nat} {d : ClD} {e n : Nat} (h1 : P.cl c = some d) (he : d.eq = some e) (hn : d.ne = some n) (hfn : P.fn n = some neD) (b : Bool) (hr : ∀ k, calls P (k + 2) e [.ins c vs, .ins c ws] h = .ok (.bl b) h) : eqM P (calls P (k + 3)) .eq (.ins c vs) (.ins c ws) h = .ok (.bl b) h ∧ eqM P (calls P (k + 3)) .ne (.ins c vs) (.ins c ws) h = .ok (.bl (!b)) h := by
  have h2 : (P.cl c).isSome = true := by rw [h1]; rfl
  refine ⟨eqM_ins h1 he h2 (hr (k + 1)), neM_ins h1 hn h2 ?_⟩
  rw [s_calls hfn]
  exact ne_run (eqM_ins h1 he h2 (hr k))
end
end HP


set_option Elab.async false
set_option linter.all false
set_option maxRecDepth 100000
set_option maxHeartbeats 4000000
/-! k90: the rows. -/
namespace HP
open PySem
abbrev LP : Pg := LW.P
abbrev CL (n : Nat) : Cll := calls LP n
/-- obs below, no script -/
def X.fz (n : Nat) : X → Bool
  | .ob l => decide (l < n)
  | .tup xs | .lst xs | .ins _ xs => go xs
  | .scr _ => false
  | _ => true
where go : List X → Bool
  | [] => true
  | x :: xs => X.fz n x && go xs
theorem frz_fz {P : Pg} {n : Nat} {h : Hq} : ∀ (k : Nat) (x : X), X.fz n x = true → X.dep x ≤ k → frzX P n h (k + 1) x = some x := by
  intro k
  induction k with
  | zero =>
    intro x hx hd
    cases x with
    | tup xs => exact absurd hd (by simp [X.dep])
    | lst xs => exact absurd hd (by simp [X.dep])
    | ins c xs => exact absurd hd (by simp [X.dep])
    | ob l =>
      have hx : l < n := of_decide_eq_true hx
      unfold frzX
      simp [X.noOb, hx]
    | scr xs => cases hx
    | _ => rfl
  | succ k ih =>
    intro x hx hd
    have all : ∀ xs : List X, X.fz.go n xs = true → X.deps xs ≤ k → mapO (frzX P n h (k + 1)) xs = some xs := fun xs => by
      induction xs with
      | nil => intros; rfl
      | cons y ys ih2 =>
        intro h1 h2
        have h1 : (X.fz n y && X.fz.go n ys) = true := h1
        rw [Bool.and_eq_true] at h1
        have h2 : max (X.dep y) (X.deps ys) ≤ k := h2
        unfold mapO
        rw [ih y h1.1 (by omega), ih2 h1.2 (by omega)]
    cases x with
    | tup xs =>
      have := all xs hx (by unfold X.dep at hd; omega)
      unfold frzX
      split
      · rfl
      · simp only [this, Option.map_some]
    | lst xs =>
      have := all xs hx (by unfold X.dep at hd; omega)
      unfold frzX
      split
      · rfl
      · simp only [this, Option.map_some]
    | ins c xs =>
      have := all xs hx (by unfold X.dep at hd; omega)
      unfold frzX
      split
      · rfl
      · simp only [this, Option.map_some]
    | ob l =>
      have hx : l < n := of_decide_eq_true hx
      unfold frzX
      simp [X.noOb, hx]
    | scr xs => cases hx
    | _ => rfl
theorem fz_noOb : ∀ {x : X} {n : Nat}, X.noOb x = true → X.fz n x = true
  | .non, _, _ => rfl
  | .bl _, _, _ => rfl
  | .int _, _, _ => rfl
  | .str _, _, _ => rfl
  | .fn _, _, _ => rfl
  | .lam _, _, _ => rfl
  | .ob _, _, h => nomatch h
  | .scr _, _, h => nomatch h
  | .tup xs, n, h => go h
  | .lst xs, n, h => go h
  | .ins _ xs, n, h => go h
where go {n : Nat} : ∀ {xs : List X}, X.noObs xs = true → X.fz.go n xs = true
  | [], _ => rfl
  | x :: xs, h => by
    have h := Bool.and_eq_true_iff.mp h
    exact Bool.and_eq_true_iff.mpr ⟨fz_noOb h.1, go h.2⟩
theorem Av.fz {h : Hq} {a v : X} (A : Av h a v) : X.fz h.length a = true ∧ X.dep a ≤ X.dep v := by
  cases A with
  | pl h1 h2 => exact ⟨fz_noOb h2, Nat.le_refl _⟩
  | ob h1 h2 => exact ⟨decide_eq_true (List.getElem?_eq_some_iff.mp h1).1, Nat.zero_le _⟩
/-! ### the classes of the program -/
theorem cc0 : CopC LP 0 ⟨some 10, [0], [], true, some 11, some 12⟩ 10 [(0, 1)] := ⟨rfl, rfl, ⟨_, rfl, rfl, rfl, rfl, rfl⟩, rfl, rfl, by decide, rfl, by decide⟩
theorem cc2 : CopC LP 2 ⟨some 15, [1], [], true, some 16, some 17⟩ 15 [(1, 1)] := ⟨rfl, rfl, ⟨_, rfl, rfl, rfl, rfl, rfl⟩, rfl, rfl, by decide, rfl, by decide⟩
theorem cc3 : CopC LP 3 ⟨some 18, [1], [], true, some 19, some 20⟩ 18 [(1, 1)] := ⟨rfl, rfl, ⟨_, rfl, rfl, rfl, rfl, rfl⟩, rfl, rfl, by decide, rfl, by decide⟩
theorem cc4 : CopC LP 4 ⟨some 21, [3, 2], [], true, some 22, some 23⟩ 21 [(3, 1), (2, 2)] := ⟨rfl, rfl, ⟨_, rfl, rfl, rfl, rfl, rfl⟩, rfl, rfl, by decide, rfl, by decide⟩
theorem cc7 : CopC LP 7 ⟨some 28, [4], [], true, some 29, some 30⟩ 28 [(4, 1)] := ⟨rfl, rfl, ⟨_, rfl, rfl, rfl, rfl, rfl⟩, rfl, rfl, by decide, rfl, by decide⟩
theorem cc8 : CopC LP 8 ⟨some 31, [1], [], true, some 32, some 33⟩ 31 [(1, 1)] := ⟨rfl, rfl, ⟨_, rfl, rfl, rfl, rfl, rfl⟩, rfl, rfl, by decide, rfl, by decide⟩
theorem cc9 : CopC LP 9 ⟨some 34, [1, 5], [], true, some 35, some 36⟩ 34 [(1, 1), (5, 2)] := ⟨rfl, rfl, ⟨_, rfl, rfl, rfl, rfl, rfl⟩, rfl, rfl, by decide, rfl, by decide⟩
theorem cc11 : CopC LP 11 ⟨some 39, [1], [], true, some 40, some 41⟩ 39 [(1, 1)] := ⟨rfl, rfl, ⟨_, rfl, rfl, rfl, rfl, rfl⟩, rfl, rfl, by decide, rfl, by decide⟩
theorem cc12 : CopC LP 12 ⟨some 42, [1], [], true, some 43, some 44⟩ 42 [(1, 1)] := ⟨rfl, rfl, ⟨_, rfl, rfl, rfl, rfl, rfl⟩, rfl, rfl, by decide, rfl, by decide⟩
theorem cc14 : CopC LP 14 ⟨some 47, [6], [], true, some 48, some 49⟩ 47 [(6, 1)] := ⟨rfl, rfl, ⟨_, rfl, rfl, rfl, rfl, rfl⟩, rfl, rfl, by decide, rfl, by decide⟩
theorem cc15 : CopC LP 15 ⟨some 50, [11, 5, 10, 9, 8, 7], [], true, some 51, some 52⟩ 50 [(11, 1), (5, 2), (10, 3), (9, 4), (8, 5), (7, 6)] := ⟨rfl, rfl, ⟨_, rfl, rfl, rfl, rfl, rfl⟩, rfl, rfl, by decide, rfl, by decide⟩
theorem cc16 : CopC LP 16 ⟨some 53, [12], [], true, some 54, some 55⟩ 53 [(12, 1)] := ⟨rfl, rfl, ⟨_, rfl, rfl, rfl, rfl, rfl⟩, rfl, rfl, by decide, rfl, by decide⟩
theorem eqcs (c : Nat) (hc : c < 17) : EqC LP c := by
  have : c = 0 ∨ c = 1 ∨ c = 2 ∨ c = 3 ∨ c = 4 ∨ c = 5 ∨ c = 6 ∨ c = 7 ∨ c = 8 ∨ c = 9 ∨ c = 10 ∨ c = 11 ∨ c = 12 ∨ c = 13 ∨ c = 14 ∨ c = 15 ∨ c = 16 := by omega
  rcases this with rfl | rfl | rfl | rfl | rfl | rfl | rfl | rfl | rfl | rfl | rfl | rfl | rfl | rfl | rfl | rfl | rfl <;> first | exact ⟨_, _, _, rfl, rfl, rfl, rfl, .inl rfl⟩ | exact ⟨_, _, _, rfl, rfl, rfl, rfl, .inr ⟨_, rfl⟩⟩
theorem cl17 (c : Nat) (hc : c < 17) : (LP.cl c).isSome = true := by
  obtain ⟨d, _, _, h, _⟩ := (eqcs c hc).ex
  rw [h]
  rfl
theorem mk1 {c : Nat} {d : ClD} {f g : Nat} (C : CopC LP c d f [(g, 1)]) (hx : dflX LP f 2 = []) {k : Nat} {h : Hq} {a v : X} (A : Av h a v) : mkX LP (CL (k + 2)) c [a] h = .ok (.ins c [v]) h := by
  refine mk_ok C rfl (by simp [hx]) fun j p w h1 h2 => ?_
  cases j with
  | zero => cases h1; cases h2; exact ⟨a, rfl, A⟩
  | succ j => cases h1
theorem mk2 {c : Nat} {d : ClD} {f g g2 : Nat} (C : CopC LP c d f [(g, 1), (g2, 2)]) (hx : dflX LP f 3 = []) {k : Nat} {h : Hq} {a b v w : X} (A : Av h a v) (B : Av h b w) : mkX LP (CL (k + 2)) c [a, b] h = .ok (.ins c [v, w]) h := by
  refine mk_ok C rfl (by simp [hx]) fun j p u h1 h2 => ?_
  rcases j with _ | _ | j
  · cases h1; cases h2; exact ⟨a, rfl, A⟩
  · cases h1; cases h2; exact ⟨b, rfl, B⟩
  · cases h1
theorem av_tup0 {h : Hq} : Av h (.tup []) (.tup []) := .pl (fun _ => rfl) rfl
theorem av_int {h : Hq} {i : Int} : Av h (.int i) (.int i) := .pl (fun _ => rfl) rfl
theorem mk5 {k : Nat} {h : Hq} {a1 a2 a3 a4 a5 v1 v2 v3 v4 v5 : X} (A1 : Av h a1 v1) (A2 : Av h a2 v2) (A3 : Av h a3 v3) (A4 : Av h a4 v4) (A5 : Av h a5 v5) : mkX LP (CL (k + 2)) 15 [a1, a2, a3, a4, a5] h = .ok (.ins 15 [v1, v2, v3, v4, v5, .tup []]) h := by
  refine mk_ok cc15 rfl rfl fun j p u h1 h2 => ?_
  rcases j with _ | _ | _ | _ | _ | _ | j
  · cases h1; cases h2; exact ⟨a1, rfl, A1⟩
  · cases h1; cases h2; exact ⟨a2, rfl, A2⟩
  · cases h1; cases h2; exact ⟨a3, rfl, A3⟩
  · cases h1; cases h2; exact ⟨a4, rfl, A4⟩
  · cases h1; cases h2; exact ⟨a5, rfl, A5⟩
  · cases h1; cases h2; exact ⟨.tup [], rfl, av_tup0⟩
  · cases h1
theorem mk6 {k : Nat} {h : Hq} {a1 a2 a3 a4 a5 a6 v1 v2 v3 v4 v5 v6 : X} (A1 : Av h a1 v1) (A2 : Av h a2 v2) (A3 : Av h a3 v3) (A4 : Av h a4 v4) (A5 : Av h a5 v5) (A6 : Av h a6 v6) : mkX LP (CL (k + 2)) 15 [a1, a2, a3, a4, a5, a6] h = .ok (.ins 15 [v1, v2, v3, v4, v5, v6]) h := by
  refine mk_ok cc15 rfl rfl fun j p u h1 h2 => ?_
  rcases j with _ | _ | _ | _ | _ | _ | j
  · cases h1; cases h2; exact ⟨a1, rfl, A1⟩
  · cases h1; cases h2; exact ⟨a2, rfl, A2⟩
  · cases h1; cases h2; exact ⟨a3, rfl, A3⟩
  · cases h1; cases h2; exact ⟨a4, rfl, A4⟩
  · cases h1; cases h2; exact ⟨a5, rfl, A5⟩
  · cases h1; cases h2; exact ⟨a6, rfl, A6⟩
  · cases h1
theorem mk0 {c : Nat} {d : ClD} (hd : LP.cl c = some d) (hi : d.init = none) (hf : d.frz = true) (hl : d.flds = []) {cl : Cll} {h : Hq} : mkX LP cl c [] h = .ok (.ins c []) h := by
  unfold mkX
  rw [hd]
  simp only [hi, hf, hl]
  rfl
/-! ### the def that makes the rows -/
/-- what the rows are -/
def rowsX (a b c d va vb vc vd : X) : List X := [
  .tup [.ins 0 [va], .ins 0 [va], .tup [a], .lam 15], .tup [.ins 2 [vb], .ins 2 [vb], .tup [b], .lam 14], .tup [.ins 3 [vb], .ins 3 [vb], .tup [b], .lam 13],
  .tup [.ins 4 [va, vc], .ins 4 [va, vc], .tup [a, c], .lam 12], .tup [.ins 7 [vc], .ins 7 [vc], .tup [c], .lam 11], .tup [.ins 8 [vd], .ins 8 [vd], .tup [d], .lam 10],
  .tup [.ins 9 [vd, va], .ins 9 [vd, va], .tup [d, a], .lam 9], .tup [.ins 16 [va], .ins 16 [va], .tup [a], .lam 8],
  .tup [.ins 15 [va, vb, vc, vd, .int 5, .tup []], .ins 15 [va, vb, vc, vd, .int 5, .tup []], .tup [a, b, c, d, .int 5], .fn 4],
  .tup [.ins 11 [vd], .ins 11 [vd], .tup [d], .lam 7], .tup [.ins 12 [vd], .ins 12 [vd], .tup [d], .lam 6], .tup [.ins 14 [vc], .ins 14 [vc], .tup [c], .lam 5],
  .tup [.ins 13 [], .ins 13 [], .tup [], .lam 4], .tup [.ins 1 [], .ins 1 [], .tup [], .lam 3], .tup [.ins 5 [], .ins 5 [], .tup [], .lam 2], .tup [.ins 6 [], .ins 6 [], .tup [], .lam 1], .tup [.ins 10 [], .ins 10 [], .tup [], .lam 0]]
theorem new_last {g : Hq} {xs : List X} (hs : xs.length ≤ 100) : newL true xs (.tbl :: g) = .ok (.ob (g.length + 1)) (.tbl :: (g ++ [.lst xs])) := by
  unfold newL
  rw [sz_ok (by omega)]
  rfl
theorem bmR_last {g : Hq} {xs : List X} : bmR .append (.ob (g.length + 1)) (.tbl :: (g ++ [.lst xs])) = true := by
  unfold bmR
  simp
theorem app_last {g : Hq} {xs : List X} {y : X} (hs : xs.length ≤ 100) : bmX false .append (.ob (g.length + 1)) [y] (.tbl :: (g ++ [.lst xs])) = .ok .non (.tbl :: (g ++ [.lst (xs ++ [y])])) := by
  unfold bmX
  have h1 : (O.tbl :: (g ++ [O.lst xs]))[g.length + 1]? = some (.lst xs) := by simp
  simp only [h1]
  rw [if_pos (sz_ok (by omega))]
  simp [set_last]
theorem sz3 {n : Nat} (h : n ≤ 100) : szSeq n = true := sz_ok (by omega)
end HP


set_option Elab.async false
set_option linter.all false
set_option maxRecDepth 100000
set_option maxHeartbeats 4000000
/-! k90: the rows, made. -/
namespace HP
open PySem
theorem pl1 {x : X} : permL [0] [x] = some [x] := rfl
theorem pl2 {x y : X} : permL [1, 0] [x, y] = some [y, x] := rfl
theorem pl5 {x y z u v : X} : permL [4, 3, 2, 1, 0] [x, y, z, u, v] = some [v, u, z, y, x] := rfl
abbrev d7 : FnD := ⟨4, 5, [], true, b7⟩
theorem p7 : LP.fn 7 = some d7 := rfl
theorem fin_lst {g : Hq} {xs : List X} (hx : ∀ y ∈ xs, X.fz (g.length + 1) y = true ∧ X.dep y ≤ 6) : finX LP true (.tbl :: g) (.ob (g.length + 1)) (.tbl :: (g ++ [.lst xs])) = .ok (.lst xs) (.tbl :: g) := by
  unfold finX
  rw [if_pos rfl]
  have e1 : frzX LP (O.tbl :: g).length (.tbl :: (g ++ [.lst xs])) 8 (.ob (g.length + 1)) = some (.lst xs) := by
    unfold frzX
    rw [if_neg (show ¬ X.noOb (.ob (g.length + 1)) = true from Bool.false_ne_true)]
    have h1 : (O.tbl :: (g ++ [O.lst xs]))[g.length + 1]? = some (.lst xs) := by simp
    have h2 : ¬ (g.length + 1 < (O.tbl :: g).length) := by simp
    simp only [h1, h2, if_false]
    have h3 : ∀ ys : List X, (∀ y ∈ ys, X.fz (O.tbl :: g).length y = true ∧ X.dep y ≤ 6) → mapO (frzX LP (O.tbl :: g).length (.tbl :: (g ++ [.lst xs])) 7) ys = some ys := fun ys => by
      induction ys with
      | nil => intro _; rfl
      | cons y ys ih =>
        intro hy
        unfold mapO
        rw [frz_fz 6 y (hy y List.mem_cons_self).1 (hy y List.mem_cons_self).2, ih fun z hz => hy z (List.mem_cons_of_mem _ hz)]
    rw [h3 xs hx]
    rfl
  rw [e1]
  have e2 : (O.tbl :: (g ++ [.lst xs])).take (O.tbl :: g).length = .tbl :: g := by simp
  simp only [e2, if_true]
theorem rows_fz {n : Nat} {a b c d va vb vc vd : X} (fa : X.fz n a = true ∧ X.dep a ≤ X.dep va) (fb : X.fz n b = true ∧ X.dep b ≤ X.dep vb) (fc : X.fz n c = true ∧ X.dep c ≤ X.dep vc) (fd : X.fz n d = true ∧ X.dep d ≤ X.dep vd)
    (na : X.fz n va = true) (nb : X.fz n vb = true) (nc : X.fz n vc = true) (nd : X.fz n vd = true) (ga : X.dep va ≤ 4) (gb : X.dep vb ≤ 4) (gc : X.dep vc ≤ 4) (gd : X.dep vd ≤ 4) : ∀ y ∈ rowsX a b c d va vb vc vd, X.fz n y = true ∧ X.dep y ≤ 6 := by
  intro y hy
  unfold rowsX at hy
  simp only [List.mem_cons, List.not_mem_nil, or_false] at hy
  rcases hy with rfl | rfl | rfl | rfl | rfl | rfl | rfl | rfl | rfl | rfl | rfl | rfl | rfl | rfl | rfl | rfl | rfl <;>
    (refine ⟨by simp [X.fz, X.fz.go, fa.1, fb.1, fc.1, fd.1, na, nb, nc, nd], by simp only [X.dep, X.deps]; omega⟩)
theorem rows_ok {k : Nat} {g : Hq} {a b c d va vb vc vd : X} (A : Av (.tbl :: g) a va) (B : Av (.tbl :: g) b vb) (C : Av (.tbl :: g) c vc) (D : Av (.tbl :: g) d vd) (ga : X.dep va ≤ 4) (gb : X.dep vb ≤ 4) (gc : X.dep vc ≤ 4) (gd : X.dep vd ≤ 4) :
    runF LP (CL (k + 2)) d7 [a, b, c, d] (.tbl :: g) = .ok (.lst (rowsX a b c d va vb vc vd)) (.tbl :: g) := by
  have up : ∀ {x v : X}, Av (.tbl :: g) x v → ∀ e, Av (.tbl :: (g ++ e)) x v := fun A e => A.app (e := e)
  have m0 : ∀ e, mkX LP (CL (k + 2)) 0 [a] (.tbl :: (g ++ e)) = .ok (.ins 0 [va]) (.tbl :: (g ++ e)) := fun e => mk1 cc0 rfl (up A e)
  have m0' : mkX LP (CL (k + 2)) 0 [a] (.tbl :: g) = .ok (.ins 0 [va]) (.tbl :: g) := mk1 cc0 rfl A
  have m2 : ∀ e, mkX LP (CL (k + 2)) 2 [b] (.tbl :: (g ++ e)) = .ok (.ins 2 [vb]) (.tbl :: (g ++ e)) := fun e => mk1 cc2 rfl (up B e)
  have m3 : ∀ e, mkX LP (CL (k + 2)) 3 [b] (.tbl :: (g ++ e)) = .ok (.ins 3 [vb]) (.tbl :: (g ++ e)) := fun e => mk1 cc3 rfl (up B e)
  have m4 : ∀ e, mkX LP (CL (k + 2)) 4 [a, c] (.tbl :: (g ++ e)) = .ok (.ins 4 [va, vc]) (.tbl :: (g ++ e)) := fun e => mk2 cc4 rfl (up A e) (up C e)
  have m7 : ∀ e, mkX LP (CL (k + 2)) 7 [c] (.tbl :: (g ++ e)) = .ok (.ins 7 [vc]) (.tbl :: (g ++ e)) := fun e => mk1 cc7 rfl (up C e)
  have m8 : ∀ e, mkX LP (CL (k + 2)) 8 [d] (.tbl :: (g ++ e)) = .ok (.ins 8 [vd]) (.tbl :: (g ++ e)) := fun e => mk1 cc8 rfl (up D e)
  have m9 : ∀ e, mkX LP (CL (k + 2)) 9 [d, a] (.tbl :: (g ++ e)) = .ok (.ins 9 [vd, va]) (.tbl :: (g ++ e)) := fun e => mk2 cc9 rfl (up D e) (up A e)
  have m16 : ∀ e, mkX LP (CL (k + 2)) 16 [a] (.tbl :: (g ++ e)) = .ok (.ins 16 [va]) (.tbl :: (g ++ e)) := fun e => mk1 cc16 rfl (up A e)
  have m15 : ∀ e, mkX LP (CL (k + 2)) 15 [a, b, c, d, .int 5] (.tbl :: (g ++ e)) = .ok (.ins 15 [va, vb, vc, vd, .int 5, .tup []]) (.tbl :: (g ++ e)) := fun e => mk5 (up A e) (up B e) (up C e) (up D e) av_int
  have m11 : ∀ e, mkX LP (CL (k + 2)) 11 [d] (.tbl :: (g ++ e)) = .ok (.ins 11 [vd]) (.tbl :: (g ++ e)) := fun e => mk1 cc11 rfl (up D e)
  have m12 : ∀ e, mkX LP (CL (k + 2)) 12 [d] (.tbl :: (g ++ e)) = .ok (.ins 12 [vd]) (.tbl :: (g ++ e)) := fun e => mk1 cc12 rfl (up D e)
  have m14 : ∀ e, mkX LP (CL (k + 2)) 14 [c] (.tbl :: (g ++ e)) = .ok (.ins 14 [vc]) (.tbl :: (g ++ e)) := fun e => mk1 cc14 rfl (up C e)
  have m13 : ∀ h, mkX LP (CL (k + 2)) 13 [] h = .ok (.ins 13 []) h := fun h => mk0 (d := ⟨none, [], [], true, some 45, some 46⟩) rfl rfl rfl rfl
  have m1 : ∀ h, mkX LP (CL (k + 2)) 1 [] h = .ok (.ins 1 []) h := fun h => mk0 (d := ⟨none, [], [], true, some 13, some 14⟩) rfl rfl rfl rfl
  have m5 : ∀ h, mkX LP (CL (k + 2)) 5 [] h = .ok (.ins 5 []) h := fun h => mk0 (d := ⟨none, [], [], true, some 24, some 25⟩) rfl rfl rfl rfl
  have m6 : ∀ h, mkX LP (CL (k + 2)) 6 [] h = .ok (.ins 6 []) h := fun h => mk0 (d := ⟨none, [], [], true, some 26, some 27⟩) rfl rfl rfl rfl
  have m10 : ∀ h, mkX LP (CL (k + 2)) 10 [] h = .ok (.ins 10 []) h := fun h => mk0 (d := ⟨none, [], [], true, some 37, some 38⟩) rfl rfl rfl rfl
  rw [s_run rfl]
  unfold d7 b7
  have s0 : szSeq 0 = true := sz3 (by decide)
  have s1 : szSeq 1 = true := sz3 (by decide)
  have s2 : szSeq 2 = true := sz3 (by decide)
  have s4 : szSeq 4 = true := sz3 (by decide)
  have s5 : szSeq 5 = true := sz3 (by decide)
  have nl : ∀ x : X, newL true [x] (.tbl :: g) = .ok (.ob (g.length + 1)) (.tbl :: (g ++ [.lst [x]])) := fun x => new_last (by simp)
  have ap : ∀ (xs : List X) (y : X), decide (xs.length ≤ 100) = true → bmX false .append (.ob (g.length + 1)) [y] (.tbl :: (g ++ [.lst xs])) = .ok .non (.tbl :: (g ++ [.lst (xs ++ [y])])) := fun xs y hx => app_last (of_decide_eq_true hx)
  simp -implicitDefEqProofs only [↓s_var, ↓s_non, ↓s_bl, ↓s_int, ↓s_str, ↓s_cst, ↓s_tup, ↓s_lst, ↓s_dct, ↓s_bin, ↓s_neg, ↓s_cmp, ↓s_chn, ↓s_and, ↓s_or, ↓s_not, ↓s_ite, ↓s_idx, ↓s_slc, ↓s_fld, ↓s_call, ↓s_mk, ↓s_mkk, ↓s_mth, ↓s_app, ↓s_bi, ↓s_bm, ↓s_isi, ↓s_comp, ↓s_rev, ↓s_lam, ↓s_fnv, ↓s_nil, ↓s_cons, ↓s_cnil, ↓s_ccons, ↓s_iseq, ↓s_irng, ↓s_izip, ↓s_ienm, ↓s_tnm, ↓s_tidx, ↓s_ttup, ↓s_tsnil, ↓s_tscons, ↓s_expr, ↓s_asg, ↓s_par, ↓s_aug, ↓s_ret, ↓s_retN, ↓s_ifs, ↓s_for, ↓s_whl, ↓s_brk, ↓s_cnt, ↓s_pass, ↓s_snil, ↓s_scons, t_bl, t_int, t_non, t_tup, t_lst, ↓R.bnd_m, M.bnd_ap, M.opt_some, getV, List.length_cons, List.length_nil, List.getElem?_cons_zero, List.getElem?_cons_succ, List.set_cons_zero, List.set_cons_succ, ↓reduceIte, Bool.false_eq_true, Nat.reduceAdd, Nat.reduceSub, List.map_cons, List.map_nil, List.cons_append, List.nil_append, List.replicate_succ, List.replicate_zero, pl1, pl2, pl5, m0, m0', m2, m3, m4, m7, m8, m9, m16, m15, m11, m12, m14, m13, m1, m5, m6, m10, s0, s1, s2, s4, s5, nl, bmR_last, ap, Nat.reduceLeDiff, decide_true]
  exact fin_lst (rows_fz A.fz B.fz C.fz D.fz (fz_noOb A.nob) (fz_noOb B.nob) (fz_noOb C.nob) (fz_noOb D.nob) ga gb gc gd)
end HP


set_option Elab.async false
set_option linter.all false
set_option maxRecDepth 100000
set_option maxHeartbeats 4000000
/-! k90: the rows, looked at. -/
namespace HP
open PySem
def appX (P : Pg) (cl : Cll) (g : X) (xs : List X) (h : Hq) : R X := match g with
  | .fn f => cl f (xs ++ dflX P f xs.length) h
  | .lam f => lamX P cl f xs h
  | _ => .bad
theorem s_app2 {P : Pg} {cl : Cll} {e : Env'} {h : Hq} {i : Nat} {es : Es} : evE P cl (.app i es) e h = (getV e i h).bnd fun g h => (evEs P cl es e h).bnd fun xs h => appX P cl g xs h := s_app
structure RowP (cl : Cll) (h : Hq) (c : Nat) (vs as ws : List X) (F : X) (s : Str) : Prop where
  app : appX LP cl F [.ins c vs] h = .ok (.tup ws) h
  len : as.length = ws.length
  av : ∀ (i : Nat) (a w : X), as[i]? = some a → ws[i]? = some w → Av h a w
  sz : ws.length ≤ 6
  rep : reprX (.tup ws) h = some s
  eq : eqM LP cl .eq (.ins c vs) (.ins c vs) h = .ok (.bl true) h
  ne : eqM LP cl .ne (.ins c vs) (.ins c vs) h = .ok (.bl false) h
theorem p6 : LP.fn 6 = some copD := rfl
theorem comp_ok {k : Nat} {h : Hq} {as ws : List X} (hl : as.length = ws.length) (hav : ∀ (i : Nat) (a w : X), as[i]? = some a → ws[i]? = some w → Av h a w) (hs : ws.length ≤ 6) {e0 e1 e2 e3 e4 e5 e6 e7 e8 e9 e10 e11 e13 e14 e15 e16 : Option X} :
    evE LP (CL (k + 1)) (.comp false [8] (.call 6 (.cons (.var 8) .nil)) (.nm 8) (.seq (.var 12)) .nil) [e0, e1, e2, e3, e4, e5, e6, e7, e8, e9, e10, e11, some (.tup as), e13, e14, e15, e16] h = .ok (.lst ws) h := by
  obtain ⟨ys, h', q, rfl, hys⟩ := cmpL_inv (turn := fun x => (evTg LP (CL (k + 1)) (.nm 8) x (wipX [e0, e1, e2, e3, e4, e5, e6, e7, e8, e9, e10, e11, some (.tup as), e13, e14, e15, e16] [8])).bnd fun e1 => (evC LP (CL (k + 1)) .nil e1).bnd fun k2 => if k2 then (evE LP (CL (k + 1)) (.call 6 (.cons (.var 8) .nil)) e1).bnd fun y => .ret (some y) else .ret none)
    (I := fun i ys h' => h' = h ∧ ys = ws.take i) as 0 [] (fun i a ha ys h' ⟨h1, h2⟩ => by
      subst h1 h2
      have hi : i < ws.length := by rw [← hl]; exact (List.getElem?_eq_some_iff.mp ha).1
      have hc : calls LP (k + 1) 6 [a] h' = .ok ws[i] h' := by
        rw [s_calls p6]
        exact cop_ok (hav i a ws[i] ha (List.getElem?_eq_getElem hi))
      refine ⟨ws[i], h', ?_, rfl, ?_⟩
      · show R.bnd (.ok (List.set [e0, e1, e2, e3, e4, e5, e6, e7, none, e9, e10, e11, some (.tup as), e13, e14, e15, e16] 8 (some a)) h') _ = _
        rw [R.bnd_ok]
        show R.bnd (.ok true h') _ = _
        rw [R.bnd_ok]
        show R.bnd (evE LP (CL (k + 1)) (.call 6 (.cons (.var 8) .nil)) _ h') _ = _
        have : evE LP (CL (k + 1)) (.call 6 (.cons (.var 8) .nil)) [e0, e1, e2, e3, e4, e5, e6, e7, some a, e9, e10, e11, some (.tup as), e13, e14, e15, e16] h' = .ok ws[i] h' := hc
        rw [show (List.set [e0, e1, e2, e3, e4, e5, e6, e7, none, e9, e10, e11, some (.tup as), e13, e14, e15, e16] 8 (some a)) = [e0, e1, e2, e3, e4, e5, e6, e7, some a, e9, e10, e11, some (.tup as), e13, e14, e15, e16] from rfl, this]
        rfl
      · rw [show 0 + i + 1 = i + 1 by omega, show 0 + i = i by omega, List.take_succ, List.getElem?_eq_getElem hi]
        rfl) h ⟨rfl, by simp⟩
  have hys : ys = ws := by
    have : [] ++ ys = ws.take (0 + as.length) := hys
    rw [List.nil_append, Nat.zero_add, hl, List.take_length] at this
    exact this
  subst hys
  rw [s_comp]
  show R.bnd (R.bnd (.ok (as, []) h') _) _ = _
  rw [R.bnd_ok]
  show R.bnd (cmpL [] _ as h') _ = _
  rw [q, R.bnd_ok]
  unfold newL
  rw [sz_ok (by omega)]
  rfl
theorem bi_tup {m : Bool} {xs : List X} {h : Hq} : biX m .tuple [.lst xs] h = .ok (.tup xs) h := rfl
theorem bi_rep {m : Bool} {x : X} {s : Str} {h : Hq} (e : reprX x h = some s) : biX m .repr [x] h = .ok (.str s) h := by
  show (match reprX x h with | some s => HP.R.ok (X.str s) h | none => .bad) = _
  rw [e]
theorem ne_str {P : Pg} {cl : Cll} {s : Str} {h : Hq} : eqM P cl .ne (.str s) (.str s) h = .ok (.bl false) h := by
  have : eqM P cl .ne (.str s) (.str s) h = .ok (.bl (!(s == s))) h := rfl
  rw [this, beq_self_eq_true]
  rfl
theorem eq_str {P : Pg} {cl : Cll} {s : Str} {h : Hq} : eqM P cl .eq (.str s) (.str s) h = .ok (.bl true) h := by
  have : eqM P cl .eq (.str s) (.str s) h = .ok (.bl (s == s)) h := rfl
  rw [this, beq_self_eq_true]
theorem unp {n : Nat} {xs : List X} {h : Hq} (hl : xs.length = n) : unpX n (.tup xs) h = some xs := by
  unfold unpX
  show (if xs.length = n then some xs else none) = _
  rw [if_pos hl]
def rowT : Tg := .tup (.cons (.nm 10) (.cons (.nm 11) (.cons (.nm 12) (.cons (.nm 13) .nil))))
def rowB : Ss := .cons (.asg (.nm 14) (.bi false .repr (.cons (.bi false .tuple (.cons (.comp false [8] (.call 6 (.cons (.var 8) .nil)) (.nm 8) (.seq (.var 12)) .nil) .nil)) .nil))) (.cons (.ifs (.or (.cmp .ne (.bi false .repr (.cons (.app 13 (.cons (.var 10) .nil)) .nil)) (.var 14)) (.or (.cmp .ne (.bi false .repr (.cons (.app 13 (.cons (.var 11) .nil)) .nil)) (.var 14)) (.or (.cmp .ne (.var 10) (.var 11)) (.not (.cmp .eq (.var 10) (.var 11)))))) (.cons (.ret (.bl false)) .nil) .nil) .nil)
theorem row_turn {k : Nat} {h : Hq} {c : Nat} {vs as ws : List X} {F : X} {s : Str} (Rw : RowP (CL (k + 1)) h c vs as ws F s) {e0 e1 e2 e3 e4 e5 e6 e7 e8 e9 e10 e11 e12 e13 e14 e15 e16 : Option X} :
    (evTg LP (CL (k + 1)) rowT (.tup [.ins c vs, .ins c vs, .tup as, F]) [e0, e1, e2, e3, e4, e5, e6, e7, e8, e9, e10, e11, e12, e13, e14, e15, e16] h).bnd (fun e1 => evSs LP (CL (k + 1)) rowB e1) = .ok (.nx [e0, e1, e2, e3, e4, e5, e6, e7, e8, e9, some (.ins c vs), some (.ins c vs), some (.tup as), some F, some (.str s), e15, e16]) h := by
  unfold rowT rowB
  have cq := fun {e0 e1 e2 e3 e4 e5 e6 e7 e8 e9 e10 e11 e13 e14 e15 e16 : Option X} => comp_ok (k := k) Rw.len Rw.av Rw.sz (e0 := e0) (e1 := e1) (e2 := e2) (e3 := e3) (e4 := e4) (e5 := e5) (e6 := e6) (e7 := e7) (e8 := e8) (e9 := e9) (e10 := e10) (e11 := e11) (e13 := e13) (e14 := e14) (e15 := e15) (e16 := e16)
  have un : unpX (Tgs.len (.cons (.nm 10) (.cons (.nm 11) (.cons (.nm 12) (.cons (.nm 13) .nil))))) (.tup [.ins c vs, .ins c vs, .tup as, F]) h = some [.ins c vs, .ins c vs, .tup as, F] := unp rfl
  simp -implicitDefEqProofs only [↓cq, ↓s_var, ↓s_non, ↓s_bl, ↓s_int, ↓s_str, ↓s_cst, ↓s_tup, ↓s_lst, ↓s_dct, ↓s_bin, ↓s_neg, ↓s_cmp, ↓s_chn, ↓s_and, ↓s_or, ↓s_not, ↓s_ite, ↓s_idx, ↓s_slc, ↓s_fld, ↓s_call, ↓s_mk, ↓s_mkk, ↓s_mth, ↓s_bi, ↓s_bm, ↓s_isi, ↓s_rev, ↓s_lam, ↓s_fnv, ↓s_nil, ↓s_cons, ↓s_cnil, ↓s_ccons, ↓s_iseq, ↓s_irng, ↓s_izip, ↓s_ienm, ↓s_tnm, ↓s_tidx, ↓s_ttup, ↓s_tsnil, ↓s_tscons, ↓s_expr, ↓s_asg, ↓s_par, ↓s_aug, ↓s_ret, ↓s_retN, ↓s_ifs, ↓s_for, ↓s_whl, ↓s_brk, ↓s_cnt, ↓s_pass, ↓s_snil, ↓s_scons, t_bl, t_int, t_non, t_tup, t_lst, ↓R.bnd_m, M.bnd_ap, M.opt_some, getV, List.length_cons, List.length_nil, List.getElem?_cons_zero, List.getElem?_cons_succ, List.set_cons_zero, List.set_cons_succ, ↓reduceIte, Bool.false_eq_true, Nat.reduceAdd, Nat.reduceSub, List.map_cons, List.map_nil, List.cons_append, List.nil_append, List.replicate_succ, List.replicate_zero, s_app2, un, bi_tup, bi_rep Rw.rep, Rw.app, Rw.eq, Rw.ne, ne_str, Bool.not_true]
end HP


set_option Elab.async false
set_option linter.all false
set_option maxRecDepth 100000
set_option maxHeartbeats 4000000
/-! k90: objects alike, the rows' promise. -/
namespace HP
open PySem
section
variable {k : Nat} {h : Hq} {c : Nat} {d : ClD} {e n f g : Nat} {b : Bool}
theorem sameA (hd : LP.cl c = some d) (he : d.eq = some e) (hn : d.ne = some n) (hfn : LP.fn n = some neD) (hfe : LP.fn e = some (eqA c)) {vs ws : List X} : eqM LP (CL (k + 3)) .eq (.ins c vs) (.ins c ws) h = .ok (.bl true) h ∧ eqM LP (CL (k + 3)) .ne (.ins c vs) (.ins c ws) h = .ok (.bl false) h :=
  same hd he hn hfn true fun k => by rw [s_calls hfe]; exact eqA_run (beq_self_eq_true c)
def eqE1 (f : Nat) : E := .cmp .eq (.fld (.var 0) f) (.fld (.var 1) f)
def eqE2 (f g : Nat) : E := .cmp .eq (.tup (.cons (.fld (.var 0) f) (.cons (.fld (.var 0) g) .nil))) (.tup (.cons (.fld (.var 1) f) (.cons (.fld (.var 1) g) .nil)))
theorem same1 (hd : LP.cl c = some d) (he : d.eq = some e) (hn : d.ne = some n) (hfn : LP.fn n = some neD) (hfe : LP.fn e = some (eqAnd c (eqE1 f))) (hfl : d.flds = [f]) {x y : X} (hx : clsX x h = none) (hb : cmpX .eq x y h = some b) :
    eqM LP (CL (k + 3)) .eq (.ins c [x]) (.ins c [y]) h = .ok (.bl b) h ∧ eqM LP (CL (k + 3)) .ne (.ins c [x]) (.ins c [y]) h = .ok (.bl (!b)) h :=
  same hd he hn hfn b fun k => by
    rw [s_calls hfe]
    refine eqAnd_yes ?_
    have f1 : ∀ z : X, fldX LP (.ins c [z]) f h = some z := fun z => by
      unfold fldX
      simp only [hd, hfl]
      unfold getI
      rw [if_pos rfl]
    unfold eqE1
    simp -implicitDefEqProofs only [↓s_var, ↓s_non, ↓s_bl, ↓s_int, ↓s_str, ↓s_cst, ↓s_tup, ↓s_lst, ↓s_dct, ↓s_bin, ↓s_neg, ↓s_cmp, ↓s_chn, ↓s_and, ↓s_or, ↓s_not, ↓s_ite, ↓s_idx, ↓s_slc, ↓s_fld, ↓s_call, ↓s_mk, ↓s_mkk, ↓s_mth, ↓s_app, ↓s_bi, ↓s_bm, ↓s_isi, ↓s_comp, ↓s_rev, ↓s_lam, ↓s_fnv, ↓s_nil, ↓s_cons, ↓s_cnil, ↓s_ccons, ↓s_iseq, ↓s_irng, ↓s_izip, ↓s_ienm, ↓s_tnm, ↓s_tidx, ↓s_ttup, ↓s_tsnil, ↓s_tscons, ↓s_expr, ↓s_asg, ↓s_par, ↓s_aug, ↓s_ret, ↓s_retN, ↓s_ifs, ↓s_for, ↓s_whl, ↓s_brk, ↓s_cnt, ↓s_pass, ↓s_snil, ↓s_scons, t_bl, t_int, t_non, t_tup, t_lst, ↓R.bnd_m, M.bnd_ap, M.opt_some, getV, List.length_cons, List.length_nil, List.getElem?_cons_zero, List.getElem?_cons_succ, List.set_cons_zero, List.set_cons_succ, ↓reduceIte, Bool.false_eq_true, Nat.reduceAdd, Nat.reduceSub, List.map_cons, List.map_nil, List.cons_append, List.nil_append, List.replicate_succ, List.replicate_zero, f1, cmpM_of hx hb]
theorem same2 (hd : LP.cl c = some d) (he : d.eq = some e) (hn : d.ne = some n) (hfn : LP.fn n = some neD) (hfe : LP.fn e = some (eqAnd c (eqE2 f g))) (hfl : d.flds = [f, g]) (hfg : f ≠ g) {x y u v : X} (hb : cmpX .eq (.tup [x, y]) (.tup [u, v]) h = some b) :
    eqM LP (CL (k + 3)) .eq (.ins c [x, y]) (.ins c [u, v]) h = .ok (.bl b) h ∧ eqM LP (CL (k + 3)) .ne (.ins c [x, y]) (.ins c [u, v]) h = .ok (.bl (!b)) h :=
  same hd he hn hfn b fun k => by
    rw [s_calls hfe]
    refine eqAnd_yes ?_
    have f1 : ∀ z w : X, fldX LP (.ins c [z, w]) f h = some z := fun z w => by
      unfold fldX
      simp only [hd, hfl]
      unfold getI
      rw [if_pos rfl]
    have f2 : ∀ z w : X, fldX LP (.ins c [z, w]) g h = some w := fun z w => by
      unfold fldX
      simp only [hd, hfl]
      unfold getI
      rw [if_neg hfg]
      unfold getI
      rw [if_pos rfl]
    have s2 : szSeq 2 = true := sz3 (by decide)
    unfold eqE2
    simp -implicitDefEqProofs only [↓s_var, ↓s_non, ↓s_bl, ↓s_int, ↓s_str, ↓s_cst, ↓s_tup, ↓s_lst, ↓s_dct, ↓s_bin, ↓s_neg, ↓s_cmp, ↓s_chn, ↓s_and, ↓s_or, ↓s_not, ↓s_ite, ↓s_idx, ↓s_slc, ↓s_fld, ↓s_call, ↓s_mk, ↓s_mkk, ↓s_mth, ↓s_app, ↓s_bi, ↓s_bm, ↓s_isi, ↓s_comp, ↓s_rev, ↓s_lam, ↓s_fnv, ↓s_nil, ↓s_cons, ↓s_cnil, ↓s_ccons, ↓s_iseq, ↓s_irng, ↓s_izip, ↓s_ienm, ↓s_tnm, ↓s_tidx, ↓s_ttup, ↓s_tsnil, ↓s_tscons, ↓s_expr, ↓s_asg, ↓s_par, ↓s_aug, ↓s_ret, ↓s_retN, ↓s_ifs, ↓s_for, ↓s_whl, ↓s_brk, ↓s_cnt, ↓s_pass, ↓s_snil, ↓s_scons, t_bl, t_int, t_non, t_tup, t_lst, ↓R.bnd_m, M.bnd_ap, M.opt_some, getV, List.length_cons, List.length_nil, List.getElem?_cons_zero, List.getElem?_cons_succ, List.set_cons_zero, List.set_cons_succ, ↓reduceIte, Bool.false_eq_true, Nat.reduceAdd, Nat.reduceSub, List.map_cons, List.map_nil, List.cons_append, List.nil_append, List.replicate_succ, List.replicate_zero, f1, f2, s2, cmpM_of (show clsX (.tup [x, y]) h = none from rfl) hb]
theorem key_ok {x1 x2 x3 x4 x5 x6 : X} (hx : X.noObs [x1, x2, x3, x4, x5, x6] = true) : CL (k + 1) 1 [.ins 15 [x1, x2, x3, x4, x5, x6]] h = .ok (.tup [x1, x2, x3, x4, x5, x6]) h := by
  show calls LP (k + 1) 1 _ h = _
  rw [s_calls (d := ⟨1, 1, [], true, b1⟩) rfl, s_run rfl]
  unfold b1
  have f1 : fldX LP (.ins 15 [x1, x2, x3, x4, x5, x6]) 11 h = some x1 := rfl
  have f2 : fldX LP (.ins 15 [x1, x2, x3, x4, x5, x6]) 5 h = some x2 := rfl
  have f3 : fldX LP (.ins 15 [x1, x2, x3, x4, x5, x6]) 10 h = some x3 := rfl
  have f4 : fldX LP (.ins 15 [x1, x2, x3, x4, x5, x6]) 9 h = some x4 := rfl
  have f5 : fldX LP (.ins 15 [x1, x2, x3, x4, x5, x6]) 8 h = some x5 := rfl
  have f6 : fldX LP (.ins 15 [x1, x2, x3, x4, x5, x6]) 7 h = some x6 := rfl
  have s6 : szSeq 6 = true := sz3 (by decide)
  simp -implicitDefEqProofs only [↓s_var, ↓s_non, ↓s_bl, ↓s_int, ↓s_str, ↓s_cst, ↓s_tup, ↓s_lst, ↓s_dct, ↓s_bin, ↓s_neg, ↓s_cmp, ↓s_chn, ↓s_and, ↓s_or, ↓s_not, ↓s_ite, ↓s_idx, ↓s_slc, ↓s_fld, ↓s_call, ↓s_mk, ↓s_mkk, ↓s_mth, ↓s_app, ↓s_bi, ↓s_bm, ↓s_isi, ↓s_comp, ↓s_rev, ↓s_lam, ↓s_fnv, ↓s_nil, ↓s_cons, ↓s_cnil, ↓s_ccons, ↓s_iseq, ↓s_irng, ↓s_izip, ↓s_ienm, ↓s_tnm, ↓s_tidx, ↓s_ttup, ↓s_tsnil, ↓s_tscons, ↓s_expr, ↓s_asg, ↓s_par, ↓s_aug, ↓s_ret, ↓s_retN, ↓s_ifs, ↓s_for, ↓s_whl, ↓s_brk, ↓s_cnt, ↓s_pass, ↓s_snil, ↓s_scons, t_bl, t_int, t_non, t_tup, t_lst, ↓R.bnd_m, M.bnd_ap, M.opt_some, getV, List.length_cons, List.length_nil, List.getElem?_cons_zero, List.getElem?_cons_succ, List.set_cons_zero, List.set_cons_succ, ↓reduceIte, Bool.false_eq_true, Nat.reduceAdd, Nat.reduceSub, List.map_cons, List.map_nil, List.cons_append, List.nil_append, List.replicate_succ, List.replicate_zero, f1, f2, f3, f4, f5, f6, s6]
  exact fin_keep hx rfl
theorem sameM {x1 x2 x3 x4 x5 x6 y1 y2 y3 y4 y5 y6 : X} (hx : X.noObs [x1, x2, x3, x4, x5, x6] = true) (hy : X.noObs [y1, y2, y3, y4, y5, y6] = true) (hb : cmpX .eq (.tup [x1, x2, x3, x4, x5, x6]) (.tup [y1, y2, y3, y4, y5, y6]) h = some b) :
    eqM LP (CL (k + 3)) .eq (.ins 15 [x1, x2, x3, x4, x5, x6]) (.ins 15 [y1, y2, y3, y4, y5, y6]) h = .ok (.bl b) h ∧ eqM LP (CL (k + 3)) .ne (.ins 15 [x1, x2, x3, x4, x5, x6]) (.ins 15 [y1, y2, y3, y4, y5, y6]) h = .ok (.bl (!b)) h :=
  same (d := ⟨some 50, [11, 5, 10, 9, 8, 7], [], true, some 51, some 52⟩) rfl rfl rfl rfl b fun k => by
    rw [s_calls (d := eqAnd 15 (.cmp .eq (.call 1 (.cons (.var 0) .nil)) (.call 1 (.cons (.var 1) .nil)))) rfl]
    refine eqAnd_yes ?_
    have kx := key_ok (k := k) (h := h) hx
    have ky := key_ok (k := k) (h := h) hy
    have d1 : dflX LP 1 1 = [] := rfl
    simp -implicitDefEqProofs only [↓s_var, ↓s_non, ↓s_bl, ↓s_int, ↓s_str, ↓s_cst, ↓s_tup, ↓s_lst, ↓s_dct, ↓s_bin, ↓s_neg, ↓s_cmp, ↓s_chn, ↓s_and, ↓s_or, ↓s_not, ↓s_ite, ↓s_idx, ↓s_slc, ↓s_fld, ↓s_call, ↓s_mk, ↓s_mkk, ↓s_mth, ↓s_app, ↓s_bi, ↓s_bm, ↓s_isi, ↓s_comp, ↓s_rev, ↓s_lam, ↓s_fnv, ↓s_nil, ↓s_cons, ↓s_cnil, ↓s_ccons, ↓s_iseq, ↓s_irng, ↓s_izip, ↓s_ienm, ↓s_tnm, ↓s_tidx, ↓s_ttup, ↓s_tsnil, ↓s_tscons, ↓s_expr, ↓s_asg, ↓s_par, ↓s_aug, ↓s_ret, ↓s_retN, ↓s_ifs, ↓s_for, ↓s_whl, ↓s_brk, ↓s_cnt, ↓s_pass, ↓s_snil, ↓s_scons, t_bl, t_int, t_non, t_tup, t_lst, ↓R.bnd_m, M.bnd_ap, M.opt_some, getV, List.length_cons, List.length_nil, List.getElem?_cons_zero, List.getElem?_cons_succ, List.set_cons_zero, List.set_cons_succ, ↓reduceIte, Bool.false_eq_true, Nat.reduceAdd, Nat.reduceSub, List.map_cons, List.map_nil, List.cons_append, List.nil_append, List.replicate_succ, List.replicate_zero, d1, List.append_nil, Nat.zero_add, kx, ky, cmpM_of (show clsX (.tup [x1, x2, x3, x4, x5, x6]) h = none from rfl) hb]
theorem lam_ok {fl : List Nat} {vs ws : List X} (hl : LP.lm f = some fl) (hw : fldsX LP (.ins c vs) h fl = some ws) (hs : ws.length ≤ 100) : appX LP (CL (k + 1)) (.lam f) [.ins c vs] h = .ok (.tup ws) h := by
  show lamX LP (CL (k + 1)) f [.ins c vs] h = _
  have hp : CL (k + 1) LP.probe [.int 0] h = .ok (.int 0) h := by
    show calls LP (k + 1) 0 [.int 0] h = _
    rw [s_calls (d := copD) rfl]
    exact cop_ok av_int
  unfold lamX
  rw [hp, hl]
  simp only [hw, sz3 hs, if_true]
theorem fn4_ok {x1 x2 x3 x4 x5 x6 : X} (hx : X.noObs [x1, x2, x3, x4, x5] = true) : appX LP (CL (k + 1)) (.fn 4) [.ins 15 [x1, x2, x3, x4, x5, x6]] h = .ok (.tup [x1, x2, x3, x4, x5]) h := by
  show calls LP (k + 1) 4 ([.ins 15 [x1, x2, x3, x4, x5, x6]] ++ dflX LP 4 1) h = _
  rw [show dflX LP 4 1 = [] from rfl, List.append_nil, s_calls (d := ⟨1, 1, [], true, b4⟩) rfl, s_run rfl]
  unfold b4
  have f1 : fldX LP (.ins 15 [x1, x2, x3, x4, x5, x6]) 11 h = some x1 := rfl
  have f2 : fldX LP (.ins 15 [x1, x2, x3, x4, x5, x6]) 5 h = some x2 := rfl
  have f3 : fldX LP (.ins 15 [x1, x2, x3, x4, x5, x6]) 10 h = some x3 := rfl
  have f4 : fldX LP (.ins 15 [x1, x2, x3, x4, x5, x6]) 9 h = some x4 := rfl
  have f5 : fldX LP (.ins 15 [x1, x2, x3, x4, x5, x6]) 8 h = some x5 := rfl
  have s5 : szSeq 5 = true := sz3 (by decide)
  simp -implicitDefEqProofs only [↓s_var, ↓s_non, ↓s_bl, ↓s_int, ↓s_str, ↓s_cst, ↓s_tup, ↓s_lst, ↓s_dct, ↓s_bin, ↓s_neg, ↓s_cmp, ↓s_chn, ↓s_and, ↓s_or, ↓s_not, ↓s_ite, ↓s_idx, ↓s_slc, ↓s_fld, ↓s_call, ↓s_mk, ↓s_mkk, ↓s_mth, ↓s_app, ↓s_bi, ↓s_bm, ↓s_isi, ↓s_comp, ↓s_rev, ↓s_lam, ↓s_fnv, ↓s_nil, ↓s_cons, ↓s_cnil, ↓s_ccons, ↓s_iseq, ↓s_irng, ↓s_izip, ↓s_ienm, ↓s_tnm, ↓s_tidx, ↓s_ttup, ↓s_tsnil, ↓s_tscons, ↓s_expr, ↓s_asg, ↓s_par, ↓s_aug, ↓s_ret, ↓s_retN, ↓s_ifs, ↓s_for, ↓s_whl, ↓s_brk, ↓s_cnt, ↓s_pass, ↓s_snil, ↓s_scons, t_bl, t_int, t_non, t_tup, t_lst, ↓R.bnd_m, M.bnd_ap, M.opt_some, getV, List.length_cons, List.length_nil, List.getElem?_cons_zero, List.getElem?_cons_succ, List.set_cons_zero, List.set_cons_succ, ↓reduceIte, Bool.false_eq_true, Nat.reduceAdd, Nat.reduceSub, List.map_cons, List.map_nil, List.cons_append, List.nil_append, List.replicate_succ, List.replicate_zero, f1, f2, f3, f4, f5, s5]
  exact fin_keep hx rfl
end
theorem gv_int {i : Int} (hs : (PyData.int i).showable = true) (hl : (PyData.int i).shown.length ≤ 100) : GV (.int i) := ⟨rfl, rfl, Nat.zero_le _, by show (i == i) = true; simp, hs, hl, fun _ => rfl, fun _ => rfl, fun _ => rfl⟩
theorem gv_t0 : GV (.tup []) := ⟨rfl, rfl, by decide, by decide +kernel, by decide +kernel, by decide +kernel, fun _ => rfl, fun _ => rfl, fun _ => rfl⟩
theorem rp {cl : Cll} {h : Hq} {c : Nat} {vs as ws : List X} {F : X} (ha : appX LP cl F [.ins c vs] h = .ok (.tup ws) h) (hl : as.length = ws.length) (hv : ∀ (i : Nat) (a w : X), as[i]? = some a → ws[i]? = some w → Av h a w) (hs : ws.length ≤ 6) (hg : ∀ w ∈ ws, GV w)
    (he : eqM LP cl .eq (.ins c vs) (.ins c vs) h = .ok (.bl true) h ∧ eqM LP cl .ne (.ins c vs) (.ins c vs) h = .ok (.bl false) h) : RowP cl h c vs as ws F (X.tup ws).toD.shown := ⟨ha, hl, hv, hs, GV.reprs hg hs h, he.1, he.2⟩
/-- each row keeps its promise -/
theorem rows_p {k : Nat} {h : Hq} {a b c d va vb vc vd : X} (A : Av h a va) (B : Av h b vb) (C : Av h c vc) (D : Av h d vd) (ga : GV va) (gb : GV vb) (gc : GV vc) (gd : GV vd) :
    ∀ x ∈ rowsX a b c d va vb vc vd, ∃ c vs as ws F s, x = .tup [.ins c vs, .ins c vs, .tup as, F] ∧ RowP (CL (k + 3)) h c vs as ws F s := by
  have a0 : ∀ (i : Nat) (a w : X), ([] : List X)[i]? = some a → ([] : List X)[i]? = some w → Av h a w := fun i a w h1 _ => by cases h1
  have a1 : ∀ {x v : X}, Av h x v → ∀ (i : Nat) (a w : X), [x][i]? = some a → [v][i]? = some w → Av h a w := fun A i a w h1 h2 => by
    rcases i with _ | i
    · cases h1; cases h2; exact A
    · cases h1
  have a2 : ∀ {x y v u : X}, Av h x v → Av h y u → ∀ (i : Nat) (a w : X), [x, y][i]? = some a → [v, u][i]? = some w → Av h a w := fun A B i a w h1 h2 => by
    rcases i with _ | _ | i
    · cases h1; cases h2; exact A
    · cases h1; cases h2; exact B
    · cases h1
  have g0 : ∀ w ∈ ([] : List X), GV w := fun w hw => by cases hw
  have g1 : ∀ {v : X}, GV v → ∀ w ∈ [v], GV w := fun g w hw => by rw [List.mem_singleton.mp hw]; exact g
  have g2 : ∀ {v u : X}, GV v → GV u → ∀ w ∈ [v, u], GV w := fun g g' w hw => by
    rcases List.mem_cons.mp hw with rfl | hw
    · exact g
    · rw [List.mem_singleton.mp hw]; exact g'
  have g5i : GV (.int 5) := gv_int (by decide +kernel) (by decide +kernel)
  have g5 : ∀ w ∈ [va, vb, vc, vd, .int 5], GV w := fun w hw => by
    simp only [List.mem_cons, List.not_mem_nil, or_false] at hw
    rcases hw with rfl | rfl | rfl | rfl | rfl <;> assumption
  have g6 : ∀ w ∈ [va, vb, vc, vd, .int 5, .tup []], GV w := fun w hw => by
    simp only [List.mem_cons, List.not_mem_nil, or_false] at hw
    rcases hw with rfl | rfl | rfl | rfl | rfl | rfl <;> first | assumption | exact gv_t0
  intro x hx
  unfold rowsX at hx
  simp only [List.mem_cons, List.not_mem_nil, or_false] at hx
  rcases hx with rfl | rfl | rfl | rfl | rfl | rfl | rfl | rfl | rfl | rfl | rfl | rfl | rfl | rfl | rfl | rfl | rfl
  · exact ⟨_, _, _, [va], _, _, rfl, rp (lam_ok (fl := [0]) rfl rfl (by simp)) rfl (a1 A) (by simp) (g1 ga) (same1 (f := 0) (d := ⟨some 10, [0], [], true, some 11, some 12⟩) rfl rfl rfl rfl rfl rfl (ga.cls h) (ga.eq h))⟩
  · exact ⟨_, _, _, [vb], _, _, rfl, rp (lam_ok (fl := [1]) rfl rfl (by simp)) rfl (a1 B) (by simp) (g1 gb) (same1 (f := 1) (d := ⟨some 15, [1], [], true, some 16, some 17⟩) rfl rfl rfl rfl rfl rfl (gb.cls h) (gb.eq h))⟩
  · exact ⟨_, _, _, [vb], _, _, rfl, rp (lam_ok (fl := [1]) rfl rfl (by simp)) rfl (a1 B) (by simp) (g1 gb) (same1 (f := 1) (d := ⟨some 18, [1], [], true, some 19, some 20⟩) rfl rfl rfl rfl rfl rfl (gb.cls h) (gb.eq h))⟩
  · exact ⟨_, _, _, [va, vc], _, _, rfl, rp (lam_ok (fl := [3, 2]) rfl rfl (by simp)) rfl (a2 A C) (by simp) (g2 ga gc) (same2 (f := 3) (g := 2) (d := ⟨some 21, [3, 2], [], true, some 22, some 23⟩) rfl rfl rfl rfl rfl rfl (by decide) (GV.eqs (g2 ga gc) h))⟩
  · exact ⟨_, _, _, [vc], _, _, rfl, rp (lam_ok (fl := [4]) rfl rfl (by simp)) rfl (a1 C) (by simp) (g1 gc) (same1 (f := 4) (d := ⟨some 28, [4], [], true, some 29, some 30⟩) rfl rfl rfl rfl rfl rfl (gc.cls h) (gc.eq h))⟩
  · exact ⟨_, _, _, [vd], _, _, rfl, rp (lam_ok (fl := [1]) rfl rfl (by simp)) rfl (a1 D) (by simp) (g1 gd) (same1 (f := 1) (d := ⟨some 31, [1], [], true, some 32, some 33⟩) rfl rfl rfl rfl rfl rfl (gd.cls h) (gd.eq h))⟩
  · exact ⟨_, _, _, [vd, va], _, _, rfl, rp (lam_ok (fl := [1, 5]) rfl rfl (by simp)) rfl (a2 D A) (by simp) (g2 gd ga) (same2 (f := 1) (g := 5) (d := ⟨some 34, [1, 5], [], true, some 35, some 36⟩) rfl rfl rfl rfl rfl rfl (by decide) (GV.eqs (g2 gd ga) h))⟩
  · exact ⟨_, _, _, [va], _, _, rfl, rp (lam_ok (fl := [12]) rfl rfl (by simp)) rfl (a1 A) (by simp) (g1 ga) (same1 (f := 12) (d := ⟨some 53, [12], [], true, some 54, some 55⟩) rfl rfl rfl rfl rfl rfl (ga.cls h) (ga.eq h))⟩
  · refine ⟨_, _, _, [va, vb, vc, vd, .int 5], _, _, rfl, rp (fn4_ok (GV.all g5).1) rfl (fun i a w h1 h2 => ?_) (by simp) g5 (sameM (GV.all g6).1 (GV.all g6).1 (GV.eqs g6 h))⟩
    rcases i with _ | _ | _ | _ | _ | i
    · cases h1; cases h2; exact A
    · cases h1; cases h2; exact B
    · cases h1; cases h2; exact C
    · cases h1; cases h2; exact D
    · cases h1; cases h2; exact av_int
    · cases h1
  · exact ⟨_, _, _, [vd], _, _, rfl, rp (lam_ok (fl := [1]) rfl rfl (by simp)) rfl (a1 D) (by simp) (g1 gd) (same1 (f := 1) (d := ⟨some 39, [1], [], true, some 40, some 41⟩) rfl rfl rfl rfl rfl rfl (gd.cls h) (gd.eq h))⟩
  · exact ⟨_, _, _, [vd], _, _, rfl, rp (lam_ok (fl := [1]) rfl rfl (by simp)) rfl (a1 D) (by simp) (g1 gd) (same1 (f := 1) (d := ⟨some 42, [1], [], true, some 43, some 44⟩) rfl rfl rfl rfl rfl rfl (gd.cls h) (gd.eq h))⟩
  · exact ⟨_, _, _, [vc], _, _, rfl, rp (lam_ok (fl := [6]) rfl rfl (by simp)) rfl (a1 C) (by simp) (g1 gc) (same1 (f := 6) (d := ⟨some 47, [6], [], true, some 48, some 49⟩) rfl rfl rfl rfl rfl rfl (gc.cls h) (gc.eq h))⟩
  · exact ⟨_, _, _, [], _, _, rfl, rp (lam_ok (fl := []) rfl rfl (by simp)) rfl a0 (by simp) g0 (sameA (d := ⟨none, [], [], true, some 45, some 46⟩) rfl rfl rfl rfl rfl)⟩
  · exact ⟨_, _, _, [], _, _, rfl, rp (lam_ok (fl := []) rfl rfl (by simp)) rfl a0 (by simp) g0 (sameA (d := ⟨none, [], [], true, some 13, some 14⟩) rfl rfl rfl rfl rfl)⟩
  · exact ⟨_, _, _, [], _, _, rfl, rp (lam_ok (fl := []) rfl rfl (by simp)) rfl a0 (by simp) g0 (sameA (d := ⟨none, [], [], true, some 24, some 25⟩) rfl rfl rfl rfl rfl)⟩
  · exact ⟨_, _, _, [], _, _, rfl, rp (lam_ok (fl := []) rfl rfl (by simp)) rfl a0 (by simp) g0 (sameA (d := ⟨none, [], [], true, some 26, some 27⟩) rfl rfl rfl rfl rfl)⟩
  · exact ⟨_, _, _, [], _, _, rfl, rp (lam_ok (fl := []) rfl rfl (by simp)) rfl a0 (by simp) g0 (sameA (d := ⟨none, [], [], true, some 37, some 38⟩) rfl rfl rfl rfl rfl)⟩
end HP


set_option Elab.async false
set_option linter.all false
set_option maxRecDepth 100000
set_option maxHeartbeats 4000000
/-! k90: the drawn values. -/
namespace HP
open PySem
abbrev d3 : FnD := ⟨2, 2, [], true, b3⟩
abbrev d8 : FnD := ⟨1, 1, [], true, b8⟩
theorem noObs_mem {xs : List X} (h : X.noObs xs = true) : ∀ x ∈ xs, X.noOb x = true := by
  induction xs with
  | nil => intro x hx; cases hx
  | cons y ys ih =>
    intro x hx
    have h := Bool.and_eq_true_iff.mp h
    rcases List.mem_cons.mp hx with rfl | hx
    · exact h.1
    · exact ih h.2 x hx
theorem idx_lst {xs : List X} {i : Int} {h : Hq} (h1 : 0 ≤ i) (h2 : i < xs.length) : ∃ x, x ∈ xs ∧ xs[i.toNat]? = some x ∧ idxX (.lst xs) (.int i) h = some x := by
  have hl : i.toNat < xs.length := by omega
  refine ⟨xs[i.toNat], List.getElem_mem hl, List.getElem?_eq_getElem hl, ?_⟩
  show (atX xs.length i).bind (fun k => xs[k]?) = _
  unfold atX
  rw [if_pos h1, if_pos h2]
  exact List.getElem?_eq_getElem hl
theorem pick_ok {k : Nat} {o : O} {s : Pen} {r : Hq} {xs : List X} (I : s.Ok) (hc : s.count < 100000) (hl : 0 < xs.length) (hl2 : xs.length < 1000) (hn : X.noObs xs = true) : ∃ x s', x ∈ xs ∧ Pen.Ok s' ∧ s'.count = s.count + 1 ∧ runF LP (CL (k + 1)) d3 [.ob 1, .lst xs] (o :: .dct (pd s) :: r) = .ok x (o :: .dct (pd s') :: r) := by
  obtain ⟨i, s', i1, i2, I', c', q⟩ := draw_ok (P := LP) (cl := CL k) (o := o) (r := r) (m := xs.length) I hc (by omega) (by omega)
  obtain ⟨x, hx, _, e⟩ := idx_lst (h := o :: .dct (pd s') :: r) i1 i2
  refine ⟨x, s', hx, I', c', ?_⟩
  have hcall : calls LP (k + 1) 2 [.ob 1, .int xs.length] (o :: .dct (pd s) :: r) = .ok (.int i) (o :: .dct (pd s') :: r) := by
    rw [s_calls (d := drawD) rfl]
    exact q
  rw [s_run rfl]
  unfold d3 b3
  have d2 : dflX LP 2 2 = [] := rfl
  simp -implicitDefEqProofs only [↓s_var, ↓s_non, ↓s_bl, ↓s_int, ↓s_str, ↓s_cst, ↓s_tup, ↓s_lst, ↓s_dct, ↓s_bin, ↓s_neg, ↓s_cmp, ↓s_chn, ↓s_and, ↓s_or, ↓s_not, ↓s_ite, ↓s_idx, ↓s_slc, ↓s_fld, ↓s_call, ↓s_mk, ↓s_mkk, ↓s_mth, ↓s_app, ↓s_bi, ↓s_bm, ↓s_isi, ↓s_comp, ↓s_rev, ↓s_lam, ↓s_fnv, ↓s_nil, ↓s_cons, ↓s_cnil, ↓s_ccons, ↓s_iseq, ↓s_irng, ↓s_izip, ↓s_ienm, ↓s_tnm, ↓s_tidx, ↓s_ttup, ↓s_tsnil, ↓s_tscons, ↓s_expr, ↓s_asg, ↓s_par, ↓s_aug, ↓s_ret, ↓s_retN, ↓s_ifs, ↓s_for, ↓s_whl, ↓s_brk, ↓s_cnt, ↓s_pass, ↓s_snil, ↓s_scons, t_bl, t_int, t_non, t_tup, t_lst, ↓R.bnd_m, M.bnd_ap, M.opt_some, getV, List.length_cons, List.length_nil, List.getElem?_cons_zero, List.getElem?_cons_succ, List.set_cons_zero, List.set_cons_succ, ↓reduceIte, Bool.false_eq_true, Nat.reduceAdd, Nat.reduceSub, List.map_cons, List.map_nil, List.cons_append, List.nil_append, List.replicate_succ, List.replicate_zero, bi_len, d2, List.append_nil, Nat.zero_add, hcall, e]
  exact fin_keep (noObs_mem hn x hx) rfl
def vals : List X := [.tup [.int 1, .int 2], .lst [.int 3, .tup [.int 4]], .tup [], .lst [], .str "abc", .int 0, .non, .tup [.tup [.str "a", .int 1]], .lst [.lst [.int 1]], .int 7]
theorem value_ok {k : Nat} {o : O} {s : Pen} {r : Hq} (I : s.Ok) (hc : s.count < 100000) : ∃ x s', x ∈ vals ∧ Pen.Ok s' ∧ s'.count = s.count + 1 ∧ calls LP (k + 3) 8 [.ob 1] (o :: .dct (pd s) :: r) = .ok x (o :: .dct (pd s') :: r) := by
  obtain ⟨x, s', hx, I', c', q⟩ := pick_ok (k := k) (o := o) (r := r) (xs := vals) I hc (by decide) (by decide) rfl
  refine ⟨x, s', hx, I', c', ?_⟩
  have hcall : calls LP (k + 2) 3 [.ob 1, .lst vals] (o :: .dct (pd s) :: r) = .ok x (o :: .dct (pd s') :: r) := by
    rw [s_calls (d := d3) rfl]
    exact q
  rw [s_calls (d := d8) rfl, s_run rfl]
  unfold d8 b8
  have dd : dflX LP 3 2 = [] := rfl
  have nl : evE LP (CL (k + 2)) (.lst false (.cons (.tup (.cons (.int 1) (.cons (.int 2) .nil))) (.cons (.lst false (.cons (.int 3) (.cons (.tup (.cons (.int 4) .nil)) .nil))) (.cons (.tup .nil) (.cons (.lst false .nil) (.cons (.str "abc") (.cons (.int 0) (.cons .non (.cons (.tup (.cons (.tup (.cons (.str "a") (.cons (.int 1) .nil))) .nil)) (.cons (.lst false (.cons (.lst false (.cons (.int 1) .nil)) .nil)) (.cons (.int 7) .nil))))))))))) [some (.ob 1)] (o :: .dct (pd s) :: r) = .ok (.lst vals) (o :: .dct (pd s) :: r) := by
    have z : ∀ n : Nat, decide (n ≤ 100) = true → szSeq n = true := fun n h => sz3 (of_decide_eq_true h)
    have nf : ∀ xs : List X, decide (xs.length ≤ 100) = true → newL false xs (o :: .dct (pd s) :: r) = .ok (.lst xs) (o :: .dct (pd s) :: r) := fun xs h => by
      unfold newL
      rw [sz3 (of_decide_eq_true h)]
      rfl
    simp -implicitDefEqProofs only [↓s_var, ↓s_non, ↓s_bl, ↓s_int, ↓s_str, ↓s_cst, ↓s_tup, ↓s_lst, ↓s_dct, ↓s_bin, ↓s_neg, ↓s_cmp, ↓s_chn, ↓s_and, ↓s_or, ↓s_not, ↓s_ite, ↓s_idx, ↓s_slc, ↓s_fld, ↓s_call, ↓s_mk, ↓s_mkk, ↓s_mth, ↓s_app, ↓s_bi, ↓s_bm, ↓s_isi, ↓s_comp, ↓s_rev, ↓s_lam, ↓s_fnv, ↓s_nil, ↓s_cons, ↓s_cnil, ↓s_ccons, ↓s_iseq, ↓s_irng, ↓s_izip, ↓s_ienm, ↓s_tnm, ↓s_tidx, ↓s_ttup, ↓s_tsnil, ↓s_tscons, ↓s_expr, ↓s_asg, ↓s_par, ↓s_aug, ↓s_ret, ↓s_retN, ↓s_ifs, ↓s_for, ↓s_whl, ↓s_brk, ↓s_cnt, ↓s_pass, ↓s_snil, ↓s_scons, t_bl, t_int, t_non, t_tup, t_lst, ↓R.bnd_m, M.bnd_ap, M.opt_some, getV, List.length_cons, List.length_nil, List.getElem?_cons_zero, List.getElem?_cons_succ, List.set_cons_zero, List.set_cons_succ, ↓reduceIte, Bool.false_eq_true, Nat.reduceAdd, Nat.reduceSub, List.map_cons, List.map_nil, List.cons_append, List.nil_append, List.replicate_succ, List.replicate_zero, z, nf, Nat.reduceLeDiff, decide_true]
    rfl
  simp -implicitDefEqProofs only [↓nl, ↓s_var, ↓s_non, ↓s_bl, ↓s_int, ↓s_str, ↓s_cst, ↓s_tup, ↓s_lst, ↓s_dct, ↓s_bin, ↓s_neg, ↓s_cmp, ↓s_chn, ↓s_and, ↓s_or, ↓s_not, ↓s_ite, ↓s_idx, ↓s_slc, ↓s_fld, ↓s_call, ↓s_mk, ↓s_mkk, ↓s_mth, ↓s_app, ↓s_bi, ↓s_bm, ↓s_isi, ↓s_comp, ↓s_rev, ↓s_lam, ↓s_fnv, ↓s_nil, ↓s_cons, ↓s_cnil, ↓s_ccons, ↓s_iseq, ↓s_irng, ↓s_izip, ↓s_ienm, ↓s_tnm, ↓s_tidx, ↓s_ttup, ↓s_tsnil, ↓s_tscons, ↓s_expr, ↓s_asg, ↓s_par, ↓s_aug, ↓s_ret, ↓s_retN, ↓s_ifs, ↓s_for, ↓s_whl, ↓s_brk, ↓s_cnt, ↓s_pass, ↓s_snil, ↓s_scons, t_bl, t_int, t_non, t_tup, t_lst, ↓R.bnd_m, M.bnd_ap, M.opt_some, getV, List.length_cons, List.length_nil, List.getElem?_cons_zero, List.getElem?_cons_succ, List.set_cons_zero, List.set_cons_succ, ↓reduceIte, Bool.false_eq_true, Nat.reduceAdd, Nat.reduceSub, List.map_cons, List.map_nil, List.cons_append, List.nil_append, List.replicate_succ, List.replicate_zero, dd, List.append_nil, Nat.zero_add, hcall]
  exact fin_keep (noObs_mem (xs := vals) rfl x hx) rfl
theorem gv1 : GV (.tup [.int 1, .int 2]) := ⟨rfl, by decide +kernel, by decide +kernel, by decide +kernel, by decide +kernel, by decide +kernel, fun _ => rfl, fun _ => rfl, fun _ => rfl⟩
theorem gv2 : GV (.tup [.int 3, .tup [.int 4]]) := ⟨rfl, by decide +kernel, by decide +kernel, by decide +kernel, by decide +kernel, by decide +kernel, fun _ => rfl, fun _ => rfl, fun _ => rfl⟩
theorem gv3 : GV (.str "abc") := ⟨rfl, by decide +kernel, by decide +kernel, by decide +kernel, by decide +kernel, by decide +kernel, fun _ => rfl, fun _ => rfl, fun _ => rfl⟩
theorem gv4 : GV (.int 0) := ⟨rfl, by decide +kernel, by decide +kernel, by decide +kernel, by decide +kernel, by decide +kernel, fun _ => rfl, fun _ => rfl, fun _ => rfl⟩
theorem gv5 : GV .non := ⟨rfl, by decide +kernel, by decide +kernel, by decide +kernel, by decide +kernel, by decide +kernel, fun _ => rfl, fun _ => rfl, fun _ => rfl⟩
theorem gv6 : GV (.tup [.tup [.str "a", .int 1]]) := ⟨rfl, by decide +kernel, by decide +kernel, by decide +kernel, by decide +kernel, by decide +kernel, fun _ => rfl, fun _ => rfl, fun _ => rfl⟩
theorem gv7 : GV (.tup [.lst [.int 1]]) := ⟨rfl, by decide +kernel, by decide +kernel, by decide +kernel, by decide +kernel, by decide +kernel, fun _ => rfl, fun _ => rfl, fun _ => rfl⟩
theorem gv8 : GV (.int 7) := ⟨rfl, by decide +kernel, by decide +kernel, by decide +kernel, by decide +kernel, by decide +kernel, fun _ => rfl, fun _ => rfl, fun _ => rfl⟩
theorem vals_split : ∀ x ∈ vals, (∃ xs, x = .lst xs ∧ xs.length ≤ 100 ∧ X.noObs xs = true ∧ GV (.tup xs)) ∨ GV x := by
  intro x hx
  unfold vals at hx
  simp only [List.mem_cons, List.not_mem_nil, or_false] at hx
  rcases hx with rfl | rfl | rfl | rfl | rfl | rfl | rfl | rfl | rfl | rfl
  · exact .inr gv1
  · exact .inl ⟨_, rfl, by decide, rfl, gv2⟩
  · exact .inr gv_t0
  · exact .inl ⟨_, rfl, by decide, rfl, gv_t0⟩
  · exact .inr gv3
  · exact .inr gv4
  · exact .inr gv5
  · exact .inr gv6
  · exact .inl ⟨_, rfl, by decide, rfl, gv7⟩
  · exact .inr gv8
/-- four values -/
theorem comp2_ok {k : Nat} {s : Pen} (I : s.Ok) (hc : s.count = 0) {e0 e2 e3 e4 e5 e6 e7 e8 e9 e10 e11 e12 e13 e14 e15 e16 : Option X} :
    ∃ ys s', ys.length = 4 ∧ (∀ y ∈ ys, y ∈ vals) ∧ Pen.Ok s' ∧ s'.count = 4 ∧ evE LP (CL (k + 3)) (.comp false [3] (.call 8 (.cons (.var 1) .nil)) (.nm 3) (.rng (.cons (.int 4) .nil)) .nil) [e0, some (.ob 1), e2, e3, e4, e5, e6, e7, e8, e9, e10, e11, e12, e13, e14, e15, e16] [.tbl, .dct (pd s)] = .ok (.lst ys) [.tbl, .dct (pd s')] := by
  obtain ⟨ys, h', q, s', rfl, I', hc', hl, hm⟩ := cmpL_inv (turn := fun x => (evTg LP (CL (k + 3)) (.nm 3) x (wipX [e0, some (.ob 1), e2, e3, e4, e5, e6, e7, e8, e9, e10, e11, e12, e13, e14, e15, e16] [3])).bnd fun e1 => (evC LP (CL (k + 3)) .nil e1).bnd fun k2 => if k2 then (evE LP (CL (k + 3)) (.call 8 (.cons (.var 1) .nil)) e1).bnd fun y => .ret (some y) else .ret none)
    (I := fun i ys h => ∃ s, h = [.tbl, .dct (pd s)] ∧ Pen.Ok s ∧ s.count = i ∧ ys.length = i ∧ ∀ y ∈ ys, y ∈ vals) [.int 0, .int 1, .int 2, .int 3] 0 [] (fun i a ha ys h' ⟨s1, h1, I1, c1, l1, m1⟩ => by
      subst h1
      have hi : i < 4 := (List.getElem?_eq_some_iff.mp ha).1
      obtain ⟨x, s2, hx, I2, c2, q2⟩ := value_ok (k := k) (o := .tbl) (r := []) I1 (by omega)
      refine ⟨x, _, ?_, s2, rfl, I2, by rw [c2, c1]; simp, by rw [List.length_append, l1]; rfl, fun y hy => ?_⟩
      · have : evE LP (CL (k + 3)) (.call 8 (.cons (.var 1) .nil)) [e0, some (.ob 1), e2, some a, e4, e5, e6, e7, e8, e9, e10, e11, e12, e13, e14, e15, e16] [.tbl, .dct (pd s1)] = .ok x [.tbl, .dct (pd s2)] := by
          have dd : dflX LP 8 1 = [] := rfl
          simp -implicitDefEqProofs only [↓s_var, ↓s_non, ↓s_bl, ↓s_int, ↓s_str, ↓s_cst, ↓s_tup, ↓s_lst, ↓s_dct, ↓s_bin, ↓s_neg, ↓s_cmp, ↓s_chn, ↓s_and, ↓s_or, ↓s_not, ↓s_ite, ↓s_idx, ↓s_slc, ↓s_fld, ↓s_call, ↓s_mk, ↓s_mkk, ↓s_mth, ↓s_app, ↓s_bi, ↓s_bm, ↓s_isi, ↓s_comp, ↓s_rev, ↓s_lam, ↓s_fnv, ↓s_nil, ↓s_cons, ↓s_cnil, ↓s_ccons, ↓s_iseq, ↓s_irng, ↓s_izip, ↓s_ienm, ↓s_tnm, ↓s_tidx, ↓s_ttup, ↓s_tsnil, ↓s_tscons, ↓s_expr, ↓s_asg, ↓s_par, ↓s_aug, ↓s_ret, ↓s_retN, ↓s_ifs, ↓s_for, ↓s_whl, ↓s_brk, ↓s_cnt, ↓s_pass, ↓s_snil, ↓s_scons, t_bl, t_int, t_non, t_tup, t_lst, ↓R.bnd_m, M.bnd_ap, M.opt_some, getV, List.length_cons, List.length_nil, List.getElem?_cons_zero, List.getElem?_cons_succ, List.set_cons_zero, List.set_cons_succ, ↓reduceIte, Bool.false_eq_true, Nat.reduceAdd, Nat.reduceSub, List.map_cons, List.map_nil, List.cons_append, List.nil_append, List.replicate_succ, List.replicate_zero, dd, List.append_nil, Nat.zero_add, q2]
        show R.bnd (evE LP (CL (k + 3)) (.call 8 (.cons (.var 1) .nil)) [e0, some (.ob 1), e2, some a, e4, e5, e6, e7, e8, e9, e10, e11, e12, e13, e14, e15, e16] [.tbl, .dct (pd s1)]) _ = _
        rw [this]
        rfl
      · rcases List.mem_append.mp hy with hy | hy
        · exact m1 y hy
        · rw [List.mem_singleton.mp hy]; exact hx) [.tbl, .dct (pd s)] ⟨s, rfl, I, hc, rfl, fun y hy => by cases hy⟩
  have hl : ys.length = 4 := by simpa using hl
  refine ⟨ys, s', hl, fun y hy => hm y (by simpa using hy), I', by rw [hc']; rfl, ?_⟩
  rw [s_comp]
  show R.bnd (R.bnd (.ok (([.int 0, .int 1, .int 2, .int 3] : List X), ([] : Grd)) [.tbl, .dct (pd s)]) _) _ = _
  rw [R.bnd_ok]
  show R.bnd (cmpL [] _ ([.int 0, .int 1, .int 2, .int 3] : List X) [.tbl, .dct (pd s)]) _ = _
  rw [q, R.bnd_ok]
  unfold newL
  rw [sz3 (by omega)]
  rfl
theorem GV.av {v : X} (g : GV v) {h : Hq} : Av h v v := .pl g.nl g.nob
/-- lists as places -/
theorem ob_app {h e : Hq} {m : Nat} (q : 2 ≤ m ∧ ∃ us : List X, h[m]? = some (.lst us) ∧ us.length ≤ 100) : 2 ≤ m ∧ ∃ us : List X, (h ++ e)[m]? = some (.lst us) ∧ us.length ≤ 100 := by
  obtain ⟨a, us, b, c⟩ := q
  have hl := (List.getElem?_eq_some_iff.mp b).1
  exact ⟨a, us, by rw [List.getElem?_append_left hl]; exact b, c⟩
theorem comp3_ok {k : Nat} {s : Pen} {xs : List X} (hx : xs.length = 4) (hv : ∀ y ∈ xs, y ∈ vals) {e0 e1 e3 e4 e5 e6 e7 e8 e9 e10 e11 e12 e13 e14 e15 e16 : Option X} :
    ∃ l r ys, ys.length = 4 ∧ (∀ y ∈ ys, ∃ v, Av (.tbl :: .dct (pd s) :: r) y v ∧ GV v) ∧ unpX 4 (.ob l) (.tbl :: .dct (pd s) :: r) = some ys ∧ (∀ y ∈ ys, ∀ m, y = .ob m → 2 ≤ m ∧ ∃ us : List X, (O.tbl :: O.dct (pd s) :: r)[m]? = some (.lst us) ∧ us.length ≤ 100) ∧
      evE LP (CL (k + 3)) (.comp true [8] (.ite (.isi (.var 8) [.tlist]) (.bi true .list (.cons (.var 8) .nil)) (.var 8)) (.nm 8) (.seq (.var 2)) .nil) [e0, e1, some (.lst xs), e3, e4, e5, e6, e7, e8, e9, e10, e11, e12, e13, e14, e15, e16] [.tbl, .dct (pd s)] = .ok (.ob l) (.tbl :: .dct (pd s) :: r) := by
  obtain ⟨ys, h', q, r, rfl, hl, hm⟩ := cmpL_inv (turn := fun x => (evTg LP (CL (k + 3)) (.nm 8) x (wipX [e0, e1, some (.lst xs), e3, e4, e5, e6, e7, e8, e9, e10, e11, e12, e13, e14, e15, e16] [8])).bnd fun e1 => (evC LP (CL (k + 3)) .nil e1).bnd fun k2 => if k2 then (evE LP (CL (k + 3)) (.ite (.isi (.var 8) [.tlist]) (.bi true .list (.cons (.var 8) .nil)) (.var 8)) e1).bnd fun y => .ret (some y) else .ret none)
    (I := fun i ys h => ∃ r, h = .tbl :: .dct (pd s) :: r ∧ ys.length = i ∧ ∀ y ∈ ys, (∃ v, Av h y v ∧ GV v) ∧ ∀ m, y = .ob m → 2 ≤ m ∧ ∃ us : List X, h[m]? = some (.lst us) ∧ us.length ≤ 100) xs 0 [] (fun i a ha ys h' ⟨r, h1, l1, m1⟩ => by
      subst h1
      have hi : i < xs.length := (List.getElem?_eq_some_iff.mp ha).1
      rcases vals_split a (hv a (List.mem_of_getElem? ha)) with ⟨zs, rfl, hz, hn, gz⟩ | ga
      · have i1 : isiX (.lst zs) (.tbl :: .dct (pd s) :: r) .tlist = some true := rfl
        have i2 : biX true .list [.lst zs] (.tbl :: .dct (pd s) :: r) = .ok (.ob (r.length + 2)) (.tbl :: .dct (pd s) :: (r ++ [.lst zs])) := by
          show newL true zs _ = _
          unfold newL
          rw [sz3 hz]
          rfl
        refine ⟨.ob (r.length + 2), _, ?_, r ++ [.lst zs], rfl, by rw [List.length_append, l1]; rfl, fun y hy => ?_⟩
        · have : evE LP (CL (k + 3)) (.ite (.isi (.var 8) [.tlist]) (.bi true .list (.cons (.var 8) .nil)) (.var 8)) [e0, e1, some (.lst xs), e3, e4, e5, e6, e7, some (.lst zs), e9, e10, e11, e12, e13, e14, e15, e16] (.tbl :: .dct (pd s) :: r) = .ok (.ob (r.length + 2)) (.tbl :: .dct (pd s) :: (r ++ [.lst zs])) := by
            simp -implicitDefEqProofs only [↓s_var, ↓s_non, ↓s_bl, ↓s_int, ↓s_str, ↓s_cst, ↓s_tup, ↓s_lst, ↓s_dct, ↓s_bin, ↓s_neg, ↓s_cmp, ↓s_chn, ↓s_and, ↓s_or, ↓s_not, ↓s_ite, ↓s_idx, ↓s_slc, ↓s_fld, ↓s_call, ↓s_mk, ↓s_mkk, ↓s_mth, ↓s_app, ↓s_bi, ↓s_bm, ↓s_isi, ↓s_comp, ↓s_rev, ↓s_lam, ↓s_fnv, ↓s_nil, ↓s_cons, ↓s_cnil, ↓s_ccons, ↓s_iseq, ↓s_irng, ↓s_izip, ↓s_ienm, ↓s_tnm, ↓s_tidx, ↓s_ttup, ↓s_tsnil, ↓s_tscons, ↓s_expr, ↓s_asg, ↓s_par, ↓s_aug, ↓s_ret, ↓s_retN, ↓s_ifs, ↓s_for, ↓s_whl, ↓s_brk, ↓s_cnt, ↓s_pass, ↓s_snil, ↓s_scons, t_bl, t_int, t_non, t_tup, t_lst, ↓R.bnd_m, M.bnd_ap, M.opt_some, getV, List.length_cons, List.length_nil, List.getElem?_cons_zero, List.getElem?_cons_succ, List.set_cons_zero, List.set_cons_succ, ↓reduceIte, Bool.false_eq_true, Nat.reduceAdd, Nat.reduceSub, List.map_cons, List.map_nil, List.cons_append, List.nil_append, List.replicate_succ, List.replicate_zero, isi_true i1, i2]
          show R.bnd (evE LP (CL (k + 3)) _ [e0, e1, some (.lst xs), e3, e4, e5, e6, e7, some (.lst zs), e9, e10, e11, e12, e13, e14, e15, e16] (.tbl :: .dct (pd s) :: r)) _ = _
          rw [this]
          rfl
        · rcases List.mem_append.mp hy with hy | hy
          · obtain ⟨⟨v, A, g⟩, hm⟩ := m1 y hy
            exact ⟨⟨v, A.app (e := [.lst zs]), g⟩, fun m e => ob_app (e := [.lst zs]) (hm m e)⟩
          · rw [List.mem_singleton.mp hy]
            exact ⟨⟨.tup zs, .ob (by simp) hn, gz⟩, fun m e => by
              cases e
              exact ⟨by omega, zs, by simp, hz⟩⟩
      · refine ⟨a, _, ?_, r, rfl, by rw [List.length_append, l1]; rfl, fun y hy => ?_⟩
        · have : evE LP (CL (k + 3)) (.ite (.isi (.var 8) [.tlist]) (.bi true .list (.cons (.var 8) .nil)) (.var 8)) [e0, e1, some (.lst xs), e3, e4, e5, e6, e7, some a, e9, e10, e11, e12, e13, e14, e15, e16] (.tbl :: .dct (pd s) :: r) = .ok a (.tbl :: .dct (pd s) :: r) := by
            simp -implicitDefEqProofs only [↓s_var, ↓s_non, ↓s_bl, ↓s_int, ↓s_str, ↓s_cst, ↓s_tup, ↓s_lst, ↓s_dct, ↓s_bin, ↓s_neg, ↓s_cmp, ↓s_chn, ↓s_and, ↓s_or, ↓s_not, ↓s_ite, ↓s_idx, ↓s_slc, ↓s_fld, ↓s_call, ↓s_mk, ↓s_mkk, ↓s_mth, ↓s_app, ↓s_bi, ↓s_bm, ↓s_isi, ↓s_comp, ↓s_rev, ↓s_lam, ↓s_fnv, ↓s_nil, ↓s_cons, ↓s_cnil, ↓s_ccons, ↓s_iseq, ↓s_irng, ↓s_izip, ↓s_ienm, ↓s_tnm, ↓s_tidx, ↓s_ttup, ↓s_tsnil, ↓s_tscons, ↓s_expr, ↓s_asg, ↓s_par, ↓s_aug, ↓s_ret, ↓s_retN, ↓s_ifs, ↓s_for, ↓s_whl, ↓s_brk, ↓s_cnt, ↓s_pass, ↓s_snil, ↓s_scons, t_bl, t_int, t_non, t_tup, t_lst, ↓R.bnd_m, M.bnd_ap, M.opt_some, getV, List.length_cons, List.length_nil, List.getElem?_cons_zero, List.getElem?_cons_succ, List.set_cons_zero, List.set_cons_succ, ↓reduceIte, Bool.false_eq_true, Nat.reduceAdd, Nat.reduceSub, List.map_cons, List.map_nil, List.cons_append, List.nil_append, List.replicate_succ, List.replicate_zero, isi_false (ga.nl _)]
          show R.bnd (evE LP (CL (k + 3)) _ [e0, e1, some (.lst xs), e3, e4, e5, e6, e7, some a, e9, e10, e11, e12, e13, e14, e15, e16] (.tbl :: .dct (pd s) :: r)) _ = _
          rw [this]
          rfl
        · rcases List.mem_append.mp hy with hy | hy
          · exact m1 y hy
          · rw [List.mem_singleton.mp hy]
            refine ⟨⟨a, ga.av, ga⟩, fun m e => ?_⟩
            have := ga.nob
            rw [e] at this
            cases this) [.tbl, .dct (pd s)] ⟨[], rfl, rfl, fun y hy => by cases hy⟩
  have hl : ys.length = 4 := by
    have : ([] ++ ys).length = 0 + xs.length := hl
    rw [List.nil_append, hx] at this
    simpa using this
  have hm : ∀ y ∈ ys, (∃ v, Av (.tbl :: .dct (pd s) :: r) y v ∧ GV v) ∧ ∀ m, y = .ob m → 2 ≤ m ∧ ∃ us : List X, (O.tbl :: O.dct (pd s) :: r)[m]? = some (.lst us) ∧ us.length ≤ 100 := fun y hy => hm y (by simpa using hy)
  refine ⟨r.length + 2, r ++ [O.lst ys], ys, hl, fun y hy => ?_, ?_, fun y hy m e => ob_app (e := [.lst ys]) ((hm y hy).2 m e), ?_⟩
  · obtain ⟨⟨v, A, g⟩, _⟩ := hm y hy
    exact ⟨v, A.app (e := [.lst ys]), g⟩
  · unfold unpX
    have : seqX (.ob (r.length + 2)) (.tbl :: .dct (pd s) :: (r ++ [.lst ys])) = some ys := by
      unfold seqX
      have : (O.tbl :: O.dct (pd s) :: (r ++ [O.lst ys]))[r.length + 2]? = some (.lst ys) := by simp
      simp only [this]
    rw [this]
    show (if ys.length = 4 then some ys else none) = _
    rw [if_pos hl]
  · rw [s_comp]
    show R.bnd (R.bnd (.ok (xs, ([] : Grd)) [.tbl, .dct (pd s)]) _) _ = _
    rw [R.bnd_ok]
    show R.bnd (cmpL [] _ xs [.tbl, .dct (pd s)]) _ = _
    rw [q, R.bnd_ok]
    unfold newL
    rw [sz3 (show ys.length ≤ 100 by omega)]
    rfl
end HP


set_option Elab.async false
set_option linter.all false
set_option maxRecDepth 100000
set_option maxHeartbeats 4000000
/-! k90: other objects, unlike objects. -/
namespace HP
open PySem
def cls17 : List Nat := [0, 2, 3, 4, 7, 8, 9, 16, 15, 11, 12, 14, 13, 1, 5, 6, 10]
theorem rows_cls {a b c d va vb vc vd : X} (i : Nat) (hi : i < 17) : ∃ c' vs rest, (rowsX a b c d va vb vc vd)[i]? = some (.tup (.ins c' vs :: rest)) ∧ cls17[i]? = some c' ∧ c' < 17 := by
  have : i = 0 ∨ i = 1 ∨ i = 2 ∨ i = 3 ∨ i = 4 ∨ i = 5 ∨ i = 6 ∨ i = 7 ∨ i = 8 ∨ i = 9 ∨ i = 10 ∨ i = 11 ∨ i = 12 ∨ i = 13 ∨ i = 14 ∨ i = 15 ∨ i = 16 := by omega
  rcases this with rfl | rfl | rfl | rfl | rfl | rfl | rfl | rfl | rfl | rfl | rfl | rfl | rfl | rfl | rfl | rfl | rfl <;> exact ⟨_, _, _, rfl, rfl, by decide⟩
theorem idx_at {xs : List X} {i : Nat} {x : X} {h : Hq} (hx : xs[i]? = some x) : idxX (.lst xs) (.int i) h = some x := by
  have hl := (List.getElem?_eq_some_iff.mp hx).1
  show (atX xs.length i).bind (fun k => xs[k]?) = _
  unfold atX
  rw [if_pos (by omega), if_pos (by omega)]
  simpa using hx
theorem idx_0 {x : X} {xs : List X} {h : Hq} : idxX (.tup (x :: xs)) (.int 0) h = some x := by
  show (atX (x :: xs).length 0).bind (fun k => (x :: xs)[k]?) = _
  unfold atX
  rw [if_pos (by omega), if_pos (by simp)]
  rfl
def othB : Ss := .cons (.asg (.nm 15) (.idx (.idx (.var 9) (.bin false .mod (.bi false .int (.cons (.bin false .add (.bin false .add (.var 3) (.int 1)) (.call 2 (.cons (.var 1) (.cons (.bin false .sub (.bi false .len (.cons (.var 9) .nil)) (.int 1)) .nil)))) .nil)) (.bi false .len (.cons (.var 9) .nil)))) (.int 0))) (.cons (.ifs (.or (.cmp .eq (.idx (.idx (.var 9) (.var 3)) (.int 0)) (.var 15)) (.not (.cmp .ne (.idx (.idx (.var 9) (.var 3)) (.int 0)) (.var 15)))) (.cons (.ret (.bl false)) .nil) .nil) .nil)
theorem oth_turn {k i : Nat} (hi : i < 17) {s : Pen} (I : s.Ok) (hc : s.count < 1000) {r : Hq} {Rr : List X} (hR : Rr.length = 17) (hcl : ∀ i, i < 17 → ∃ c' vs rest, Rr[i]? = some (.tup (.ins c' vs :: rest)) ∧ cls17[i]? = some c' ∧ c' < 17) {e0 e2 e3 e4 e5 e6 e7 e8 e10 e11 e12 e13 e14 e15 e16 : Option X} :
    ∃ (s' : Pen) (x15 : X), s'.Ok ∧ s'.count = s.count + 1 ∧ (evTg LP (CL (k + 3)) (.nm 3) (.int i) [e0, some (.ob 1), e2, e3, e4, e5, e6, e7, e8, some (.lst Rr), e10, e11, e12, e13, e14, e15, e16] (.tbl :: .dct (pd s) :: r)).bnd (fun e1 => evSs LP (CL (k + 3)) othB e1) =
      .ok (.nx [e0, some (.ob 1), e2, some (.int i), e4, e5, e6, e7, e8, some (.lst Rr), e10, e11, e12, e13, e14, some x15, e16]) (.tbl :: .dct (pd s') :: r) := by
  obtain ⟨j, s', j1, j2, I', c', q⟩ := draw_ok (P := LP) (cl := CL (k + 2)) (o := .tbl) (r := r) (m := 16) I (by omega) (by decide) (by decide)
  have hcall : calls LP (k + 3) 2 [.ob 1, .int 16] (.tbl :: .dct (pd s) :: r) = .ok (.int j) (.tbl :: .dct (pd s') :: r) := by
    rw [s_calls (d := drawD) rfl]
    exact q
  obtain ⟨t, ht⟩ : ∃ t : Nat, ((i : Int) + 1 + j).fmod 17 = t := ⟨(((i : Int) + 1 + j).fmod 17).toNat, by have := mod_in (m := 17) ((i : Int) + 1 + j) (by decide); omega⟩
  have ht17 : t < 17 := by have := mod_in (m := 17) ((i : Int) + 1 + j) (by decide); omega
  have hne : t ≠ i := by
    intro z
    rw [z, Int.fmod_eq_emod_of_nonneg _ (by decide)] at ht
    omega
  obtain ⟨c1, v1, r1, g1, h1, l1⟩ := hcl i hi
  obtain ⟨c2, v2, r2, g2, h2, l2⟩ := hcl t ht17
  have hcc : c2 ≠ c1 := by
    intro z
    subst z
    obtain ⟨b1, e1⟩ := List.getElem?_eq_some_iff.mp h1
    obtain ⟨b2, e2⟩ := List.getElem?_eq_some_iff.mp h2
    exact hne ((List.getElem_inj (by decide : cls17.Nodup)).mp (e2.trans e1.symm))
  obtain ⟨o1, o2⟩ := other (k := k + 1) (vs := v1) (ws := v2) (h := .tbl :: .dct (pd s') :: r) (eqcs c1 l1) (cl17 c2 l2) hcc
  have d2 : dflX LP 2 2 = [] := rfl
  have x1 := fun h : Hq => idx_at (h := h) g1
  have x2 := fun h : Hq => idx_at (h := h) g2
  have n1 : ((17 : Nat) : Int) - 1 = 16 := rfl
  refine ⟨s', .ins c2 v2, I', c', ?_⟩
  unfold othB
  simp -implicitDefEqProofs only [↓s_var, ↓s_non, ↓s_bl, ↓s_int, ↓s_str, ↓s_cst, ↓s_tup, ↓s_lst, ↓s_dct, ↓s_bin, ↓s_neg, ↓s_cmp, ↓s_chn, ↓s_and, ↓s_or, ↓s_not, ↓s_ite, ↓s_idx, ↓s_slc, ↓s_fld, ↓s_call, ↓s_mk, ↓s_mkk, ↓s_mth, ↓s_app, ↓s_bi, ↓s_bm, ↓s_isi, ↓s_comp, ↓s_rev, ↓s_lam, ↓s_fnv, ↓s_nil, ↓s_cons, ↓s_cnil, ↓s_ccons, ↓s_iseq, ↓s_irng, ↓s_izip, ↓s_ienm, ↓s_tnm, ↓s_tidx, ↓s_ttup, ↓s_tsnil, ↓s_tscons, ↓s_expr, ↓s_asg, ↓s_par, ↓s_aug, ↓s_ret, ↓s_retN, ↓s_ifs, ↓s_for, ↓s_whl, ↓s_brk, ↓s_cnt, ↓s_pass, ↓s_snil, ↓s_scons, t_bl, t_int, t_non, t_tup, t_lst, ↓R.bnd_m, M.bnd_ap, M.opt_some, getV, List.length_cons, List.length_nil, List.getElem?_cons_zero, List.getElem?_cons_succ, List.set_cons_zero, List.set_cons_succ, ↓reduceIte, Bool.false_eq_true, Nat.reduceAdd, Nat.reduceSub, List.map_cons, List.map_nil, List.cons_append, List.nil_append, List.replicate_succ, List.replicate_zero, bi_len, bi_int, bx_add, bx_sub, hR, n1, d2, List.append_nil, Nat.zero_add, hcall, bx_mod (show (((17 : Nat) : Int)) ≠ 0 by decide), ht, x1, x2, idx_0, o1, o2, Bool.not_true]
  have ht' : ((i : Int) + 1 + j).fmod ((17 : Nat) : Int) = t := ht
  simp -implicitDefEqProofs only [↓s_var, ↓s_non, ↓s_bl, ↓s_int, ↓s_str, ↓s_cst, ↓s_tup, ↓s_lst, ↓s_dct, ↓s_bin, ↓s_neg, ↓s_cmp, ↓s_chn, ↓s_and, ↓s_or, ↓s_not, ↓s_ite, ↓s_idx, ↓s_slc, ↓s_fld, ↓s_call, ↓s_mk, ↓s_mkk, ↓s_mth, ↓s_app, ↓s_bi, ↓s_bm, ↓s_isi, ↓s_comp, ↓s_rev, ↓s_lam, ↓s_fnv, ↓s_nil, ↓s_cons, ↓s_cnil, ↓s_ccons, ↓s_iseq, ↓s_irng, ↓s_izip, ↓s_ienm, ↓s_tnm, ↓s_tidx, ↓s_ttup, ↓s_tsnil, ↓s_tscons, ↓s_expr, ↓s_asg, ↓s_par, ↓s_aug, ↓s_ret, ↓s_retN, ↓s_ifs, ↓s_for, ↓s_whl, ↓s_brk, ↓s_cnt, ↓s_pass, ↓s_snil, ↓s_scons, t_bl, t_int, t_non, t_tup, t_lst, ↓R.bnd_m, M.bnd_ap, M.opt_some, getV, List.length_cons, List.length_nil, List.getElem?_cons_zero, List.getElem?_cons_succ, List.set_cons_zero, List.set_cons_succ, ↓reduceIte, Bool.false_eq_true, Nat.reduceAdd, Nat.reduceSub, List.map_cons, List.map_nil, List.cons_append, List.nil_append, List.replicate_succ, List.replicate_zero, ht', x1, x2, idx_0, o1, o2, Bool.not_true]
/-! ### unlike ones -/
theorem bx_cat {a b : List X} {h : Hq} (hl : decide ((a ++ b).length ≤ 100) = true) : binX false .add (.lst a) (.lst b) h = .ok (.lst (a ++ b)) h := by
  show newL false (a ++ b) h = _
  unfold newL
  rw [sz3 (of_decide_eq_true hl)]
  rfl
def pr1 (c : Nat) : X := .tup [.ins c [.int 1], .ins c [.int 0]]
def mm (a b c d e f : X) : X := .ins 15 [a, b, c, d, e, f]
def pairsX : List X := [pr1 0, pr1 2, pr1 3, .tup [.ins 4 [.int 1, .int 2], .ins 4 [.int 0, .int 2]], .tup [.ins 4 [.int 1, .int 2], .ins 4 [.int 1, .int 0]], pr1 7, pr1 8, .tup [.ins 9 [.int 1, .int 2], .ins 9 [.int 0, .int 2]], .tup [.ins 9 [.int 1, .int 2], .ins 9 [.int 1, .int 0]], pr1 16,
  .tup [mm (.int 1) (.int 2) (.int 3) (.int 4) (.int 5) (.tup []), mm (.int 0) (.int 2) (.int 3) (.int 4) (.int 5) (.tup [])], .tup [mm (.int 1) (.int 2) (.int 3) (.int 4) (.int 5) (.tup []), mm (.int 1) (.int 0) (.int 3) (.int 4) (.int 5) (.tup [])], .tup [mm (.int 1) (.int 2) (.int 3) (.int 4) (.int 5) (.tup []), mm (.int 1) (.int 2) (.int 0) (.int 4) (.int 5) (.tup [])],
  pr1 11, pr1 12, pr1 14, .tup [.ins 11 [.int 1], .ins 12 [.int 1]], .tup [mm (.int 1) (.int 2) (.int 3) (.int 4) (.int 5) (.tup []), mm (.int 1) (.int 2) (.int 3) (.int 4) (.int 5) (.tup [.int 1])],
  .tup [mm (.int 1) (.int 2) (.int 3) (.int 4) (.int 5) (.tup []), mm (.int 1) (.int 2) (.int 3) (.int 0) (.int 5) (.tup [])], .tup [mm (.int 1) (.int 2) (.int 3) (.int 4) (.int 5) (.tup []), mm (.int 1) (.int 2) (.int 3) (.int 4) (.int 0) (.tup [])]]
abbrev d5 : FnD := ⟨0, 1, [], true, b5⟩
theorem unl_ok {k : Nat} {h : Hq} : calls LP (k + 3) 5 [] h = .ok (.lst pairsX) h := by
  rw [s_calls (d := d5) rfl, s_run rfl]
  unfold d5 b5
  have m0 : ∀ (i : Int) h, mkX LP (CL (k + 2)) 0 [.int i] h = .ok (.ins 0 [.int i]) h := fun i h => mk1 cc0 rfl av_int
  have m2 : ∀ (i : Int) h, mkX LP (CL (k + 2)) 2 [.int i] h = .ok (.ins 2 [.int i]) h := fun i h => mk1 cc2 rfl av_int
  have m3 : ∀ (i : Int) h, mkX LP (CL (k + 2)) 3 [.int i] h = .ok (.ins 3 [.int i]) h := fun i h => mk1 cc3 rfl av_int
  have m7 : ∀ (i : Int) h, mkX LP (CL (k + 2)) 7 [.int i] h = .ok (.ins 7 [.int i]) h := fun i h => mk1 cc7 rfl av_int
  have m8 : ∀ (i : Int) h, mkX LP (CL (k + 2)) 8 [.int i] h = .ok (.ins 8 [.int i]) h := fun i h => mk1 cc8 rfl av_int
  have m11 : ∀ (i : Int) h, mkX LP (CL (k + 2)) 11 [.int i] h = .ok (.ins 11 [.int i]) h := fun i h => mk1 cc11 rfl av_int
  have m12 : ∀ (i : Int) h, mkX LP (CL (k + 2)) 12 [.int i] h = .ok (.ins 12 [.int i]) h := fun i h => mk1 cc12 rfl av_int
  have m14 : ∀ (i : Int) h, mkX LP (CL (k + 2)) 14 [.int i] h = .ok (.ins 14 [.int i]) h := fun i h => mk1 cc14 rfl av_int
  have m16 : ∀ (i : Int) h, mkX LP (CL (k + 2)) 16 [.int i] h = .ok (.ins 16 [.int i]) h := fun i h => mk1 cc16 rfl av_int
  have m4 : ∀ (i j : Int) h, mkX LP (CL (k + 2)) 4 [.int i, .int j] h = .ok (.ins 4 [.int i, .int j]) h := fun i j h => mk2 cc4 rfl av_int av_int
  have m9 : ∀ (i j : Int) h, mkX LP (CL (k + 2)) 9 [.int i, .int j] h = .ok (.ins 9 [.int i, .int j]) h := fun i j h => mk2 cc9 rfl av_int av_int
  have m15 : ∀ (i j u v w : Int) h, mkX LP (CL (k + 2)) 15 [.int i, .int j, .int u, .int v, .int w] h = .ok (.ins 15 [.int i, .int j, .int u, .int v, .int w, .tup []]) h := fun i j u v w h => mk5 av_int av_int av_int av_int av_int
  have m15b : ∀ (i j u v w z : Int) h, mkX LP (CL (k + 2)) 15 [.int i, .int j, .int u, .int v, .int w, .tup [.int z]] h = .ok (.ins 15 [.int i, .int j, .int u, .int v, .int w, .tup [.int z]]) h := fun i j u v w z h => mk6 av_int av_int av_int av_int av_int (.pl (fun _ => rfl) rfl)
  have z : ∀ n : Nat, decide (n ≤ 100) = true → szSeq n = true := fun n h => sz3 (of_decide_eq_true h)
  have nf : ∀ (xs : List X) (h : Hq), decide (xs.length ≤ 100) = true → newL false xs h = .ok (.lst xs) h := fun xs h hx => by
    unfold newL
    rw [sz3 (of_decide_eq_true hx)]
    rfl
  simp -implicitDefEqProofs only [↓s_var, ↓s_non, ↓s_bl, ↓s_int, ↓s_str, ↓s_cst, ↓s_tup, ↓s_lst, ↓s_dct, ↓s_bin, ↓s_neg, ↓s_cmp, ↓s_chn, ↓s_and, ↓s_or, ↓s_not, ↓s_ite, ↓s_idx, ↓s_slc, ↓s_fld, ↓s_call, ↓s_mk, ↓s_mkk, ↓s_mth, ↓s_app, ↓s_bi, ↓s_bm, ↓s_isi, ↓s_comp, ↓s_rev, ↓s_lam, ↓s_fnv, ↓s_nil, ↓s_cons, ↓s_cnil, ↓s_ccons, ↓s_iseq, ↓s_irng, ↓s_izip, ↓s_ienm, ↓s_tnm, ↓s_tidx, ↓s_ttup, ↓s_tsnil, ↓s_tscons, ↓s_expr, ↓s_asg, ↓s_par, ↓s_aug, ↓s_ret, ↓s_retN, ↓s_ifs, ↓s_for, ↓s_whl, ↓s_brk, ↓s_cnt, ↓s_pass, ↓s_snil, ↓s_scons, t_bl, t_int, t_non, t_tup, t_lst, ↓R.bnd_m, M.bnd_ap, M.opt_some, getV, List.length_cons, List.length_nil, List.getElem?_cons_zero, List.getElem?_cons_succ, List.set_cons_zero, List.set_cons_succ, ↓reduceIte, Bool.false_eq_true, Nat.reduceAdd, Nat.reduceSub, List.map_cons, List.map_nil, List.cons_append, List.nil_append, List.replicate_succ, List.replicate_zero, m0, m2, m3, m7, m8, m11, m12, m14, m16, m4, m9, m15, m15b, z, nf, bx_cat, Nat.reduceLeDiff, decide_true]
  exact fin_keep (x := .lst pairsX) (by decide +kernel) rfl
theorem pairs_ok {k : Nat} : ∀ x ∈ pairsX, ∃ u v, x = .tup [u, v] ∧ ∀ h, eqM LP (CL (k + 3)) .eq u v h = .ok (.bl false) h ∧ eqM LP (CL (k + 3)) .ne u v h = .ok (.bl true) h := by
  intro x hx
  unfold pairsX at hx
  simp only [List.mem_cons, List.not_mem_nil, or_false] at hx
  rcases hx with rfl | rfl | rfl | rfl | rfl | rfl | rfl | rfl | rfl | rfl | rfl | rfl | rfl | rfl | rfl | rfl | rfl | rfl | rfl | rfl
  · exact ⟨_, _, rfl, fun h => same1 (b := false) (f := 0) (d := ⟨some 10, [0], [], true, some 11, some 12⟩) rfl rfl rfl rfl rfl rfl rfl rfl⟩
  · exact ⟨_, _, rfl, fun h => same1 (b := false) (f := 1) (d := ⟨some 15, [1], [], true, some 16, some 17⟩) rfl rfl rfl rfl rfl rfl rfl rfl⟩
  · exact ⟨_, _, rfl, fun h => same1 (b := false) (f := 1) (d := ⟨some 18, [1], [], true, some 19, some 20⟩) rfl rfl rfl rfl rfl rfl rfl rfl⟩
  · exact ⟨_, _, rfl, fun h => same2 (b := false) (f := 3) (g := 2) (d := ⟨some 21, [3, 2], [], true, some 22, some 23⟩) rfl rfl rfl rfl rfl rfl (by decide) rfl⟩
  · exact ⟨_, _, rfl, fun h => same2 (b := false) (f := 3) (g := 2) (d := ⟨some 21, [3, 2], [], true, some 22, some 23⟩) rfl rfl rfl rfl rfl rfl (by decide) rfl⟩
  · exact ⟨_, _, rfl, fun h => same1 (b := false) (f := 4) (d := ⟨some 28, [4], [], true, some 29, some 30⟩) rfl rfl rfl rfl rfl rfl rfl rfl⟩
  · exact ⟨_, _, rfl, fun h => same1 (b := false) (f := 1) (d := ⟨some 31, [1], [], true, some 32, some 33⟩) rfl rfl rfl rfl rfl rfl rfl rfl⟩
  · exact ⟨_, _, rfl, fun h => same2 (b := false) (f := 1) (g := 5) (d := ⟨some 34, [1, 5], [], true, some 35, some 36⟩) rfl rfl rfl rfl rfl rfl (by decide) rfl⟩
  · exact ⟨_, _, rfl, fun h => same2 (b := false) (f := 1) (g := 5) (d := ⟨some 34, [1, 5], [], true, some 35, some 36⟩) rfl rfl rfl rfl rfl rfl (by decide) rfl⟩
  · exact ⟨_, _, rfl, fun h => same1 (b := false) (f := 12) (d := ⟨some 53, [12], [], true, some 54, some 55⟩) rfl rfl rfl rfl rfl rfl rfl rfl⟩
  · exact ⟨_, _, rfl, fun h => sameM (b := false) rfl rfl rfl⟩
  · exact ⟨_, _, rfl, fun h => sameM (b := false) rfl rfl rfl⟩
  · exact ⟨_, _, rfl, fun h => sameM (b := false) rfl rfl rfl⟩
  · exact ⟨_, _, rfl, fun h => same1 (b := false) (f := 1) (d := ⟨some 39, [1], [], true, some 40, some 41⟩) rfl rfl rfl rfl rfl rfl rfl rfl⟩
  · exact ⟨_, _, rfl, fun h => same1 (b := false) (f := 1) (d := ⟨some 42, [1], [], true, some 43, some 44⟩) rfl rfl rfl rfl rfl rfl rfl rfl⟩
  · exact ⟨_, _, rfl, fun h => same1 (b := false) (f := 6) (d := ⟨some 47, [6], [], true, some 48, some 49⟩) rfl rfl rfl rfl rfl rfl rfl rfl⟩
  · exact ⟨_, _, rfl, fun h => other (k := k + 1) (eqcs 11 (by decide)) (cl17 12 (by decide)) (by decide)⟩
  · exact ⟨_, _, rfl, fun h => sameM (b := false) rfl rfl rfl⟩
  · exact ⟨_, _, rfl, fun h => sameM (b := false) rfl rfl rfl⟩
  · exact ⟨_, _, rfl, fun h => sameM (b := false) rfl rfl rfl⟩
def unlE : E := .comp false [10, 11] (.or (.cmp .eq (.var 10) (.var 11)) (.not (.cmp .ne (.var 10) (.var 11)))) (.tup (.cons (.nm 10) (.cons (.nm 11) .nil))) (.seq (.call 5 .nil)) .nil
theorem unl_comp {k : Nat} {h : Hq} {e0 e1 e2 e3 e4 e5 e6 e7 e8 e9 e10 e11 e12 e13 e14 e15 e16 : Option X} :
    evE LP (CL (k + 3)) unlE [e0, e1, e2, e3, e4, e5, e6, e7, e8, e9, e10, e11, e12, e13, e14, e15, e16] h = .ok (.lst (List.replicate 20 (.bl false))) h := by
  obtain ⟨ys, h', q, rfl, hys⟩ := cmpL_inv (turn := fun x => (evTg LP (CL (k + 3)) (.tup (.cons (.nm 10) (.cons (.nm 11) .nil))) x (wipX [e0, e1, e2, e3, e4, e5, e6, e7, e8, e9, e10, e11, e12, e13, e14, e15, e16] [10, 11])).bnd fun e1 => (evC LP (CL (k + 3)) .nil e1).bnd fun k2 => if k2 then (evE LP (CL (k + 3)) (.or (.cmp .eq (.var 10) (.var 11)) (.not (.cmp .ne (.var 10) (.var 11)))) e1).bnd fun y => .ret (some y) else .ret none)
    (I := fun i ys h' => h' = h ∧ ys = List.replicate i (.bl false)) pairsX 0 [] (fun i a ha ys h' ⟨h1, h2⟩ => by
      subst h1 h2
      obtain ⟨u, v, rfl, hq⟩ := pairs_ok (k := k) a (List.mem_of_getElem? ha)
      obtain ⟨q1, q2⟩ := hq h'
      refine ⟨.bl false, h', ?_, rfl, by rw [List.replicate_succ']⟩
      have un : unpX (Tgs.len (.cons (.nm 10) (.cons (.nm 11) .nil))) (.tup [u, v]) h' = some [u, v] := unp rfl
      have t1 : evTg LP (CL (k + 3)) (.tup (.cons (.nm 10) (.cons (.nm 11) .nil))) (.tup [u, v]) (wipX [e0, e1, e2, e3, e4, e5, e6, e7, e8, e9, e10, e11, e12, e13, e14, e15, e16] [10, 11]) h' = .ok [e0, e1, e2, e3, e4, e5, e6, e7, e8, e9, some u, some v, e12, e13, e14, e15, e16] h' := by
        rw [s_ttup, un]
        rfl
      have t2 : evE LP (CL (k + 3)) (.or (.cmp .eq (.var 10) (.var 11)) (.not (.cmp .ne (.var 10) (.var 11)))) [e0, e1, e2, e3, e4, e5, e6, e7, e8, e9, some u, some v, e12, e13, e14, e15, e16] h' = .ok (.bl false) h' := by
        simp -implicitDefEqProofs only [↓s_var, ↓s_non, ↓s_bl, ↓s_int, ↓s_str, ↓s_cst, ↓s_tup, ↓s_lst, ↓s_dct, ↓s_bin, ↓s_neg, ↓s_cmp, ↓s_chn, ↓s_and, ↓s_or, ↓s_not, ↓s_ite, ↓s_idx, ↓s_slc, ↓s_fld, ↓s_call, ↓s_mk, ↓s_mkk, ↓s_mth, ↓s_app, ↓s_bi, ↓s_bm, ↓s_isi, ↓s_comp, ↓s_rev, ↓s_lam, ↓s_fnv, ↓s_nil, ↓s_cons, ↓s_cnil, ↓s_ccons, ↓s_iseq, ↓s_irng, ↓s_izip, ↓s_ienm, ↓s_tnm, ↓s_tidx, ↓s_ttup, ↓s_tsnil, ↓s_tscons, ↓s_expr, ↓s_asg, ↓s_par, ↓s_aug, ↓s_ret, ↓s_retN, ↓s_ifs, ↓s_for, ↓s_whl, ↓s_brk, ↓s_cnt, ↓s_pass, ↓s_snil, ↓s_scons, t_bl, t_int, t_non, t_tup, t_lst, ↓R.bnd_m, M.bnd_ap, M.opt_some, getV, List.length_cons, List.length_nil, List.getElem?_cons_zero, List.getElem?_cons_succ, List.set_cons_zero, List.set_cons_succ, ↓reduceIte, Bool.false_eq_true, Nat.reduceAdd, Nat.reduceSub, List.map_cons, List.map_nil, List.cons_append, List.nil_append, List.replicate_succ, List.replicate_zero, q1, q2, Bool.not_true]
      show R.bnd (evTg LP (CL (k + 3)) _ (.tup [u, v]) _ h') _ = _
      rw [t1, R.bnd_ok]
      show R.bnd (.ok true h') _ = _
      rw [R.bnd_ok]
      show R.bnd (evE LP (CL (k + 3)) _ _ h') _ = _
      rw [t2]
      rfl) h ⟨rfl, rfl⟩
  have hys : ys = List.replicate 20 (.bl false) := hys
  subst hys
  have d5 : dflX LP 5 0 = [] := rfl
  have un : calls LP (k + 3) 5 [] h' = .ok (.lst pairsX) h' := unl_ok
  have ix : itX (.lst pairsX) h' = some (pairsX, []) := rfl
  have hit : evIt LP (CL (k + 3)) (.seq (.call 5 .nil)) [e0, e1, e2, e3, e4, e5, e6, e7, e8, e9, e10, e11, e12, e13, e14, e15, e16] h' = .ok (pairsX, []) h' := by
    simp -implicitDefEqProofs only [↓s_var, ↓s_non, ↓s_bl, ↓s_int, ↓s_str, ↓s_cst, ↓s_tup, ↓s_lst, ↓s_dct, ↓s_bin, ↓s_neg, ↓s_cmp, ↓s_chn, ↓s_and, ↓s_or, ↓s_not, ↓s_ite, ↓s_idx, ↓s_slc, ↓s_fld, ↓s_call, ↓s_mk, ↓s_mkk, ↓s_mth, ↓s_app, ↓s_bi, ↓s_bm, ↓s_isi, ↓s_comp, ↓s_rev, ↓s_lam, ↓s_fnv, ↓s_nil, ↓s_cons, ↓s_cnil, ↓s_ccons, ↓s_iseq, ↓s_irng, ↓s_izip, ↓s_ienm, ↓s_tnm, ↓s_tidx, ↓s_ttup, ↓s_tsnil, ↓s_tscons, ↓s_expr, ↓s_asg, ↓s_par, ↓s_aug, ↓s_ret, ↓s_retN, ↓s_ifs, ↓s_for, ↓s_whl, ↓s_brk, ↓s_cnt, ↓s_pass, ↓s_snil, ↓s_scons, t_bl, t_int, t_non, t_tup, t_lst, ↓R.bnd_m, M.bnd_ap, M.opt_some, getV, List.length_cons, List.length_nil, List.getElem?_cons_zero, List.getElem?_cons_succ, List.set_cons_zero, List.set_cons_succ, ↓reduceIte, Bool.false_eq_true, Nat.reduceAdd, Nat.reduceSub, List.map_cons, List.map_nil, List.cons_append, List.nil_append, List.replicate_succ, List.replicate_zero, d5, List.append_nil, un, ix]
  unfold unlE
  rw [s_comp, hit, R.bnd_ok]
  show R.bnd (cmpL [] _ pairsX h') _ = _
  rw [q, R.bnd_ok]
  rfl
end HP


set_option Elab.async false
set_option linter.all false
set_option maxRecDepth 100000
set_option maxHeartbeats 4000000
/-! k90: the law. -/
namespace HP
open PySem
theorem seq_nx {P : Pg} {cl : Cll} {s : S} {ss : Ss} {e e1 : Env'} {h h1 : Hq} (q : evS P cl s e h = .ok (.nx e1) h1) : evSs P cl (.cons s ss) e h = evSs P cl ss e1 h1 := by
  rw [s_scons, q, R.bnd_ok]
theorem fin_any {P : Pg} {x : X} {h0 h : Hq} (hx : X.noOb x = true) : ∃ h', finX P true h0 x h = .ok x h' := by
  have e : frzX P h0.length h 8 x = some x := frz_noOb hx
  unfold finX
  rw [if_pos rfl, e]
  show ∃ h', (if h.take h0.length = h0 then HP.R.ok x h0 else if (h.take h0.length).all (O.bel h0.length) then .ok x (h.take h0.length) else .ok x h) = _
  split
  · exact ⟨_, rfl⟩
  · split <;> exact ⟨_, rfl⟩
theorem stpE {P : Pg} {cl : Cll} {s : S} {ss : Ss} {e e1 : Env'} {h h1 : Hq} {F : Fl → M X} {v : X} (q : evS P cl s e h = .ok (.nx e1) h1) (g : ∃ h', (evSs P cl ss e1 h1).bnd F = .ok v h') : ∃ h', (evSs P cl (.cons s ss) e h).bnd F = .ok v h' := by
  rw [seq_nx q]
  exact g
abbrev d56 : FnD := ⟨1, 17, [], true, b56⟩
theorem rng17 : rngX [.int ((17 : Nat) : Int)] = some ((List.range 17).map fun (k : Nat) => .int k) := rfl
theorem law_ok {zs : List Int} (hz : zs.length ≤ 63) : ∃ h', calls LP 12 56 [.scr (zs.map .int)] [.tbl] = .ok (.bl true) h' := by
  rw [s_calls (d := d56) rfl, s_run rfl]
  unfold d56 b56
  obtain ⟨s, I, c0, qp⟩ := pen_ok (P := LP) (cl := CL 10) (o := .tbl) hz
  have hpen : calls LP 11 9 [.scr (zs.map .int)] [.tbl] = .ok (.ob 1) [.tbl, .dct (pd s)] := by
    rw [s_calls (d := penD) rfl]
    exact qp
  obtain ⟨ys, s2, hl, hv, I2, c2, q2⟩ := comp2_ok (k := 8) I c0 (e0 := some (.scr (zs.map .int))) (e2 := none) (e3 := none) (e4 := none) (e5 := none) (e6 := none) (e7 := none) (e8 := none) (e9 := none) (e10 := none) (e11 := none) (e12 := none) (e13 := none) (e14 := none) (e15 := none) (e16 := none)
  obtain ⟨l, r, xs, hl4, hav, hun, hge, q3⟩ := comp3_ok (k := 8) (s := s2) hl hv (e0 := some (.scr (zs.map .int))) (e1 := some (.ob 1)) (e3 := none) (e4 := none) (e5 := none) (e6 := none) (e7 := none) (e8 := none) (e9 := none) (e10 := none) (e11 := none) (e12 := none) (e13 := none) (e14 := none) (e15 := none) (e16 := none)
  obtain ⟨a, b, c, d, rfl⟩ : ∃ a b c d, xs = [a, b, c, d] := by
    rcases xs with _ | ⟨a, _ | ⟨b, _ | ⟨c, _ | ⟨d, _ | _⟩⟩⟩⟩
    · cases hl4
    · cases hl4
    · cases hl4
    · cases hl4
    · exact ⟨a, b, c, d, rfl⟩
    · simp at hl4
  obtain ⟨va, A, ga⟩ := hav a (by simp)
  obtain ⟨vb, B, gb⟩ := hav b (by simp)
  obtain ⟨vc, C, gc⟩ := hav c (by simp)
  obtain ⟨vd, D, gd⟩ := hav d (by simp)
  have hrows := rows_ok (k := 8) A B C D ga.dep gb.dep gc.dep gd.dep
  have hcall7 : calls LP 11 7 [a, b, c, d] (.tbl :: .dct (pd s2) :: r) = .ok (.lst (rowsX a b c d va vb vc vd)) (.tbl :: .dct (pd s2) :: r) := by
    rw [s_calls (d := d7) rfl]
    exact hrows
  have n9 : dflX LP 9 1 = [] := rfl
  have n7 : dflX LP 7 4 = [] := rfl
  show ∃ h', (evSs LP (CL 11) _ [some (.scr (zs.map .int)), none, none, none, none, none, none, none, none, none, none, none, none, none, none, none, none] [.tbl]).bnd _ = _
  refine stpE (e1 := [some (.scr (zs.map .int)), some (.ob 1), none, none, none, none, none, none, none, none, none, none, none, none, none, none, none]) (h1 := [.tbl, .dct (pd s)]) ?_ ?_
  · simp -implicitDefEqProofs only [↓s_var, ↓s_non, ↓s_bl, ↓s_int, ↓s_str, ↓s_cst, ↓s_tup, ↓s_lst, ↓s_dct, ↓s_bin, ↓s_neg, ↓s_cmp, ↓s_chn, ↓s_and, ↓s_or, ↓s_not, ↓s_ite, ↓s_idx, ↓s_slc, ↓s_fld, ↓s_call, ↓s_mk, ↓s_mkk, ↓s_mth, ↓s_app, ↓s_bi, ↓s_bm, ↓s_isi, ↓s_comp, ↓s_rev, ↓s_lam, ↓s_fnv, ↓s_nil, ↓s_cons, ↓s_cnil, ↓s_ccons, ↓s_iseq, ↓s_irng, ↓s_izip, ↓s_ienm, ↓s_tnm, ↓s_tidx, ↓s_ttup, ↓s_tsnil, ↓s_tscons, ↓s_expr, ↓s_asg, ↓s_par, ↓s_aug, ↓s_ret, ↓s_retN, ↓s_ifs, ↓s_for, ↓s_whl, ↓s_brk, ↓s_cnt, ↓s_pass, ↓s_snil, ↓s_scons, t_bl, t_int, t_non, t_tup, t_lst, ↓R.bnd_m, M.bnd_ap, M.opt_some, getV, List.length_cons, List.length_nil, List.getElem?_cons_zero, List.getElem?_cons_succ, List.set_cons_zero, List.set_cons_succ, ↓reduceIte, Bool.false_eq_true, Nat.reduceAdd, Nat.reduceSub, List.map_cons, List.map_nil, List.cons_append, List.nil_append, List.replicate_succ, List.replicate_zero, n9, List.append_nil, Nat.zero_add, hpen]
  refine stpE (e1 := [some (.scr (zs.map .int)), some (.ob 1), some (.lst ys), none, none, none, none, none, none, none, none, none, none, none, none, none, none]) (h1 := [.tbl, .dct (pd s2)]) ?_ ?_
  · rw [s_asg, q2, R.bnd_ok]
    rfl
  refine stpE (e1 := [some (.scr (zs.map .int)), some (.ob 1), some (.lst ys), none, some a, some b, some c, some d, none, none, none, none, none, none, none, none, none]) (h1 := .tbl :: .dct (pd s2) :: r) ?_ ?_
  · rw [s_asg, q3, R.bnd_ok, s_ttup]
    show R.bnd (match unpX 4 (.ob l) (.tbl :: .dct (pd s2) :: r) with | some xs => _ | none => _) _ = _
    rw [hun]
    rfl
  refine stpE (e1 := [some (.scr (zs.map .int)), some (.ob 1), some (.lst ys), none, some a, some b, some c, some d, none, some (.lst (rowsX a b c d va vb vc vd)), none, none, none, none, none, none, none]) (h1 := .tbl :: .dct (pd s2) :: r) ?_ ?_
  · simp -implicitDefEqProofs only [↓s_var, ↓s_non, ↓s_bl, ↓s_int, ↓s_str, ↓s_cst, ↓s_tup, ↓s_lst, ↓s_dct, ↓s_bin, ↓s_neg, ↓s_cmp, ↓s_chn, ↓s_and, ↓s_or, ↓s_not, ↓s_ite, ↓s_idx, ↓s_slc, ↓s_fld, ↓s_call, ↓s_mk, ↓s_mkk, ↓s_mth, ↓s_app, ↓s_bi, ↓s_bm, ↓s_isi, ↓s_comp, ↓s_rev, ↓s_lam, ↓s_fnv, ↓s_nil, ↓s_cons, ↓s_cnil, ↓s_ccons, ↓s_iseq, ↓s_irng, ↓s_izip, ↓s_ienm, ↓s_tnm, ↓s_tidx, ↓s_ttup, ↓s_tsnil, ↓s_tscons, ↓s_expr, ↓s_asg, ↓s_par, ↓s_aug, ↓s_ret, ↓s_retN, ↓s_ifs, ↓s_for, ↓s_whl, ↓s_brk, ↓s_cnt, ↓s_pass, ↓s_snil, ↓s_scons, t_bl, t_int, t_non, t_tup, t_lst, ↓R.bnd_m, M.bnd_ap, M.opt_some, getV, List.length_cons, List.length_nil, List.getElem?_cons_zero, List.getElem?_cons_succ, List.set_cons_zero, List.set_cons_succ, ↓reduceIte, Bool.false_eq_true, Nat.reduceAdd, Nat.reduceSub, List.map_cons, List.map_nil, List.cons_append, List.nil_append, List.replicate_succ, List.replicate_zero, n7, List.append_nil, Nat.zero_add, hcall7]
  -- the rows
  have hp := rows_p (k := 8) A B C D ga gb gc gd
  obtain ⟨e5, h5, f5, rfl, y10, y11, y12, y13, y14, rfl⟩ := forL_inv (turn := fun x e0 => (evTg LP (CL 11) rowT x e0).bnd fun e1 => evSs LP (CL 11) rowB e1)
    (I := fun _ e h => h = .tbl :: .dct (pd s2) :: r ∧ ∃ y10 y11 y12 y13 y14, e = [some (.scr (zs.map .int)), some (.ob 1), some (.lst ys), none, some a, some b, some c, some d, none, some (.lst (rowsX a b c d va vb vc vd)), y10, y11, y12, y13, y14, none, none]) (rowsX a b c d va vb vc vd) 0 (fun i x hx e h ⟨h1, y10, y11, y12, y13, y14, h2⟩ => by
      subst h1 h2
      obtain ⟨c', vs, as, ws, F, st, rfl, Rw⟩ := hp x (List.mem_of_getElem? hx)
      exact ⟨_, _, row_turn (k := 10) Rw, rfl, _, _, _, _, _, rfl⟩) [some (.scr (zs.map .int)), some (.ob 1), some (.lst ys), none, some a, some b, some c, some d, none, some (.lst (rowsX a b c d va vb vc vd)), none, none, none, none, none, none, none] (.tbl :: .dct (pd s2) :: r) ⟨rfl, _, _, _, _, _, rfl⟩
  refine stpE (e1 := [some (.scr (zs.map .int)), some (.ob 1), some (.lst ys), none, some a, some b, some c, some d, none, some (.lst (rowsX a b c d va vb vc vd)), y10, y11, y12, y13, y14, none, none]) (h1 := .tbl :: .dct (pd s2) :: r) ?_ ?_
  · rw [s_for]
    exact f5
  -- other objects
  have hn : (rowsX a b c d va vb vc vd).length = 17 := rfl
  obtain ⟨e6, h6, f6, s6, I6, c6, y3, y15, rfl, rfl⟩ := forL_inv (turn := fun x e0 => (evTg LP (CL 11) (.nm 3) x e0).bnd fun e1 => evSs LP (CL 11) othB e1)
    (I := fun i e h => ∃ s6, Pen.Ok s6 ∧ s6.count = 4 + i ∧ ∃ y3 y15, h = .tbl :: .dct (pd s6) :: r ∧ e = [some (.scr (zs.map .int)), some (.ob 1), some (.lst ys), y3, some a, some b, some c, some d, none, some (.lst (rowsX a b c d va vb vc vd)), y10, y11, y12, y13, y14, y15, none]) ((List.range 17).map fun (k : Nat) => X.int k) 0 (fun i x hx e h ⟨s6, I6, c6, y3, y15, h1, h2⟩ => by
      subst h1 h2
      rw [List.getElem?_map] at hx
      obtain ⟨j, hj, rfl⟩ := Option.map_eq_some_iff.mp hx
      obtain ⟨hj1, hj2⟩ := List.getElem?_eq_some_iff.mp hj
      have hi : i < 17 := by simpa using hj1
      have hji : j = i := by simpa using hj2.symm
      subst hji
      obtain ⟨s7, x15, I7, c7, q7⟩ := oth_turn (k := 8) (i := j) hi I6 (by omega) (r := r) (Rr := rowsX a b c d va vb vc vd) hn (fun i hi => rows_cls i hi) (e0 := some (.scr (zs.map .int))) (e2 := some (.lst ys)) (e3 := y3) (e4 := some a) (e5 := some b) (e6 := some c) (e7 := some d) (e8 := none) (e10 := y10) (e11 := y11) (e12 := y12) (e13 := y13) (e14 := y14) (e15 := y15) (e16 := none)
      exact ⟨_, _, q7, s7, I7, by rw [c7, c6]; omega, _, _, rfl, rfl⟩) [some (.scr (zs.map .int)), some (.ob 1), some (.lst ys), none, some a, some b, some c, some d, none, some (.lst (rowsX a b c d va vb vc vd)), y10, y11, y12, y13, y14, none, none] (.tbl :: .dct (pd s2) :: r) ⟨s2, I2, by rw [c2]; rfl, _, _, rfl, rfl⟩
  refine stpE (e1 := [some (.scr (zs.map .int)), some (.ob 1), some (.lst ys), y3, some a, some b, some c, some d, none, some (.lst (rowsX a b c d va vb vc vd)), y10, y11, y12, y13, y14, y15, none]) (h1 := .tbl :: .dct (pd s6) :: r) ?_ ?_
  · have hit : evIt LP (CL 11) (.rng (.cons (.bi false .len (.cons (.var 9) .nil)) .nil)) [some (.scr (zs.map .int)), some (.ob 1), some (.lst ys), none, some a, some b, some c, some d, none, some (.lst (rowsX a b c d va vb vc vd)), y10, y11, y12, y13, y14, none, none] (.tbl :: .dct (pd s2) :: r) = .ok ((List.range 17).map fun (k : Nat) => X.int k, []) (.tbl :: .dct (pd s2) :: r) := by
      simp -implicitDefEqProofs only [↓s_var, ↓s_non, ↓s_bl, ↓s_int, ↓s_str, ↓s_cst, ↓s_tup, ↓s_lst, ↓s_dct, ↓s_bin, ↓s_neg, ↓s_cmp, ↓s_chn, ↓s_and, ↓s_or, ↓s_not, ↓s_ite, ↓s_idx, ↓s_slc, ↓s_fld, ↓s_call, ↓s_mk, ↓s_mkk, ↓s_mth, ↓s_app, ↓s_bi, ↓s_bm, ↓s_isi, ↓s_comp, ↓s_rev, ↓s_lam, ↓s_fnv, ↓s_nil, ↓s_cons, ↓s_cnil, ↓s_ccons, ↓s_iseq, ↓s_irng, ↓s_izip, ↓s_ienm, ↓s_tnm, ↓s_tidx, ↓s_ttup, ↓s_tsnil, ↓s_tscons, ↓s_expr, ↓s_asg, ↓s_par, ↓s_aug, ↓s_ret, ↓s_retN, ↓s_ifs, ↓s_for, ↓s_whl, ↓s_brk, ↓s_cnt, ↓s_pass, ↓s_snil, ↓s_scons, t_bl, t_int, t_non, t_tup, t_lst, ↓R.bnd_m, M.bnd_ap, M.opt_some, getV, List.length_cons, List.length_nil, List.getElem?_cons_zero, List.getElem?_cons_succ, List.set_cons_zero, List.set_cons_succ, ↓reduceIte, Bool.false_eq_true, Nat.reduceAdd, Nat.reduceSub, List.map_cons, List.map_nil, List.cons_append, List.nil_append, List.replicate_succ, List.replicate_zero, bi_len, hn, rng17]
    rw [s_for, hit, R.bnd_ok]
    exact f6
  -- unlike ones
  have hany : biX false .any [.lst (List.replicate 20 (.bl false))] (.tbl :: .dct (pd s6) :: r) = .ok (.bl false) (.tbl :: .dct (pd s6) :: r) := rfl
  refine stpE (e1 := [some (.scr (zs.map .int)), some (.ob 1), some (.lst ys), y3, some a, some b, some c, some d, none, some (.lst (rowsX a b c d va vb vc vd)), y10, y11, y12, y13, y14, y15, none]) (h1 := .tbl :: .dct (pd s6) :: r) ?_ ?_
  · have hu := unl_comp (k := 8) (h := .tbl :: .dct (pd s6) :: r) (e0 := some (.scr (zs.map .int))) (e1 := some (.ob 1)) (e2 := some (.lst ys)) (e3 := y3) (e4 := some a) (e5 := some b) (e6 := some c) (e7 := some d) (e8 := none) (e9 := some (.lst (rowsX a b c d va vb vc vd))) (e10 := y10) (e11 := y11) (e12 := y12) (e13 := y13) (e14 := y14) (e15 := y15) (e16 := none)
    unfold unlE at hu
    generalize List.replicate 20 (X.bl false) = B at hu hany
    simp -implicitDefEqProofs only [↓hu, ↓s_var, ↓s_non, ↓s_bl, ↓s_int, ↓s_str, ↓s_cst, ↓s_tup, ↓s_lst, ↓s_dct, ↓s_bin, ↓s_neg, ↓s_cmp, ↓s_chn, ↓s_and, ↓s_or, ↓s_not, ↓s_ite, ↓s_idx, ↓s_slc, ↓s_fld, ↓s_call, ↓s_mk, ↓s_mkk, ↓s_mth, ↓s_bi, ↓s_bm, ↓s_isi, ↓s_rev, ↓s_lam, ↓s_fnv, ↓s_nil, ↓s_cons, ↓s_cnil, ↓s_ccons, ↓s_iseq, ↓s_irng, ↓s_izip, ↓s_ienm, ↓s_tnm, ↓s_tidx, ↓s_ttup, ↓s_tsnil, ↓s_tscons, ↓s_expr, ↓s_asg, ↓s_par, ↓s_aug, ↓s_ret, ↓s_retN, ↓s_ifs, ↓s_for, ↓s_whl, ↓s_brk, ↓s_cnt, ↓s_pass, ↓s_snil, ↓s_scons, t_bl, t_int, t_non, t_tup, t_lst, ↓R.bnd_m, M.bnd_ap, M.opt_some, getV, List.length_cons, List.length_nil, List.getElem?_cons_zero, List.getElem?_cons_succ, List.set_cons_zero, List.set_cons_succ, ↓reduceIte, Bool.false_eq_true, Nat.reduceAdd, Nat.reduceSub, List.map_cons, List.map_nil, List.cons_append, List.nil_append, List.replicate_succ, List.replicate_zero, hany]
  have ix0 : ∀ h : Hq, idxX (.lst (rowsX a b c d va vb vc vd)) (.int 0) h = some (.tup [.ins 0 [va], .ins 0 [va], .tup [a], .lam 15]) := fun h => rfl
  have ix1 : ∀ h : Hq, idxX (.tup [.ins 0 [va], .ins 0 [va], .tup [a], .lam 15]) (.int 0) h = some (.ins 0 [va]) := fun h => rfl
  have fl0 : ∀ h : Hq, fldX LP (.ins 0 [va]) 0 h = some va := fun h => rfl
  have br : ∀ h : Hq, biX false .repr [va] h = .ok (.str va.toD.shown) h := fun h => bi_rep (ga.repr h)
  refine stpE (e1 := [some (.scr (zs.map .int)), some (.ob 1), some (.lst ys), y3, some a, some b, some c, some d, none, some (.lst (rowsX a b c d va vb vc vd)), y10, y11, y12, y13, y14, y15, some (.str va.toD.shown)]) (h1 := .tbl :: .dct (pd s6) :: r) ?_ ?_
  · simp -implicitDefEqProofs only [↓s_var, ↓s_non, ↓s_bl, ↓s_int, ↓s_str, ↓s_cst, ↓s_tup, ↓s_lst, ↓s_dct, ↓s_bin, ↓s_neg, ↓s_cmp, ↓s_chn, ↓s_and, ↓s_or, ↓s_not, ↓s_ite, ↓s_idx, ↓s_slc, ↓s_fld, ↓s_call, ↓s_mk, ↓s_mkk, ↓s_mth, ↓s_app, ↓s_bi, ↓s_bm, ↓s_isi, ↓s_comp, ↓s_rev, ↓s_lam, ↓s_fnv, ↓s_nil, ↓s_cons, ↓s_cnil, ↓s_ccons, ↓s_iseq, ↓s_irng, ↓s_izip, ↓s_ienm, ↓s_tnm, ↓s_tidx, ↓s_ttup, ↓s_tsnil, ↓s_tscons, ↓s_expr, ↓s_asg, ↓s_par, ↓s_aug, ↓s_ret, ↓s_retN, ↓s_ifs, ↓s_for, ↓s_whl, ↓s_brk, ↓s_cnt, ↓s_pass, ↓s_snil, ↓s_scons, t_bl, t_int, t_non, t_tup, t_lst, ↓R.bnd_m, M.bnd_ap, M.opt_some, getV, List.length_cons, List.length_nil, List.getElem?_cons_zero, List.getElem?_cons_succ, List.set_cons_zero, List.set_cons_succ, ↓reduceIte, Bool.false_eq_true, Nat.reduceAdd, Nat.reduceSub, List.map_cons, List.map_nil, List.cons_append, List.nil_append, List.replicate_succ, List.replicate_zero, ix0, ix1, fl0, br]
  obtain ⟨h9, q9⟩ : ∃ h9, evS LP (CL 11) (.ifs (.isi (.var 4) [.tlist]) (.cons (.expr (.bm false .append (.var 4) (.cons (.int 7) .nil))) .nil) .nil) [some (.scr (zs.map .int)), some (.ob 1), some (.lst ys), y3, some a, some b, some c, some d, none, some (.lst (rowsX a b c d va vb vc vd)), y10, y11, y12, y13, y14, y15, some (.str va.toD.shown)] (.tbl :: .dct (pd s6) :: r) = .ok (.nx [some (.scr (zs.map .int)), some (.ob 1), some (.lst ys), y3, some a, some b, some c, some d, none, some (.lst (rowsX a b c d va vb vc vd)), y10, y11, y12, y13, y14, y15, some (.str va.toD.shown)]) h9 := by
    cases A with
    | pl g1 g2 =>
      refine ⟨.tbl :: .dct (pd s6) :: r, ?_⟩
      simp -implicitDefEqProofs only [↓s_var, ↓s_non, ↓s_bl, ↓s_int, ↓s_str, ↓s_cst, ↓s_tup, ↓s_lst, ↓s_dct, ↓s_bin, ↓s_neg, ↓s_cmp, ↓s_chn, ↓s_and, ↓s_or, ↓s_not, ↓s_ite, ↓s_idx, ↓s_slc, ↓s_fld, ↓s_call, ↓s_mk, ↓s_mkk, ↓s_mth, ↓s_app, ↓s_bi, ↓s_bm, ↓s_isi, ↓s_comp, ↓s_rev, ↓s_lam, ↓s_fnv, ↓s_nil, ↓s_cons, ↓s_cnil, ↓s_ccons, ↓s_iseq, ↓s_irng, ↓s_izip, ↓s_ienm, ↓s_tnm, ↓s_tidx, ↓s_ttup, ↓s_tsnil, ↓s_tscons, ↓s_expr, ↓s_asg, ↓s_par, ↓s_aug, ↓s_ret, ↓s_retN, ↓s_ifs, ↓s_for, ↓s_whl, ↓s_brk, ↓s_cnt, ↓s_pass, ↓s_snil, ↓s_scons, t_bl, t_int, t_non, t_tup, t_lst, ↓R.bnd_m, M.bnd_ap, M.opt_some, getV, List.length_cons, List.length_nil, List.getElem?_cons_zero, List.getElem?_cons_succ, List.set_cons_zero, List.set_cons_succ, ↓reduceIte, Bool.false_eq_true, Nat.reduceAdd, Nat.reduceSub, List.map_cons, List.map_nil, List.cons_append, List.nil_append, List.replicate_succ, List.replicate_zero, isi_false (g1 _)]
    | ob g1 g2 =>
      rename_i m us
      obtain ⟨hm, us', hu1, hu2⟩ := hge (.ob m) (by simp) m rfl
      obtain ⟨j, rfl⟩ : ∃ j, m = j + 2 := ⟨m - 2, by omega⟩
      have g1 : r[j]? = some (.lst us) := g1
      have g3 : (O.tbl :: O.dct (pd s6) :: r)[j + 2]? = some (.lst us) := g1
      have e1 : isiX (.ob (j + 2)) (.tbl :: .dct (pd s6) :: r) .tlist = some true := by
        unfold isiX isTb isiY
        simp only [g3]
        rfl
      have e2 : bmR .append (.ob (j + 2)) (.tbl :: .dct (pd s6) :: r) = true := by
        unfold bmR
        simp only [g3]
      have hus : us.length ≤ 100 := by
        have z : some (O.lst us) = some (O.lst us') := g1.symm.trans hu1
        cases z
        exact hu2
      have e3 : bmX false .append (.ob (j + 2)) [.int 7] (.tbl :: .dct (pd s6) :: r) = .ok .non ((O.tbl :: O.dct (pd s6) :: r).set (j + 2) (.lst (us ++ [.int 7]))) := by
        unfold bmX
        simp only [g3]
        rw [if_pos (sz_ok (by omega))]
      refine ⟨(O.tbl :: O.dct (pd s6) :: r).set (j + 2) (.lst (us ++ [.int 7])), ?_⟩
      simp -implicitDefEqProofs only [↓s_var, ↓s_non, ↓s_bl, ↓s_int, ↓s_str, ↓s_cst, ↓s_tup, ↓s_lst, ↓s_dct, ↓s_bin, ↓s_neg, ↓s_cmp, ↓s_chn, ↓s_and, ↓s_or, ↓s_not, ↓s_ite, ↓s_idx, ↓s_slc, ↓s_fld, ↓s_call, ↓s_mk, ↓s_mkk, ↓s_mth, ↓s_app, ↓s_bi, ↓s_bm, ↓s_isi, ↓s_comp, ↓s_rev, ↓s_lam, ↓s_fnv, ↓s_nil, ↓s_cons, ↓s_cnil, ↓s_ccons, ↓s_iseq, ↓s_irng, ↓s_izip, ↓s_ienm, ↓s_tnm, ↓s_tidx, ↓s_ttup, ↓s_tsnil, ↓s_tscons, ↓s_expr, ↓s_asg, ↓s_par, ↓s_aug, ↓s_ret, ↓s_retN, ↓s_ifs, ↓s_for, ↓s_whl, ↓s_brk, ↓s_cnt, ↓s_pass, ↓s_snil, ↓s_scons, t_bl, t_int, t_non, t_tup, t_lst, ↓R.bnd_m, M.bnd_ap, M.opt_some, getV, List.length_cons, List.length_nil, List.getElem?_cons_zero, List.getElem?_cons_succ, List.set_cons_zero, List.set_cons_succ, ↓reduceIte, Bool.false_eq_true, Nat.reduceAdd, Nat.reduceSub, List.map_cons, List.map_nil, List.cons_append, List.nil_append, List.replicate_succ, List.replicate_zero, isi_true e1, e2, e3]
  refine stpE q9 ?_
  have last : evSs LP (CL 11) (.cons (.ret (.cmp .eq (.bi false .repr (.cons (.fld (.idx (.idx (.var 9) (.int 0)) (.int 0)) 0) .nil)) (.var 16))) .nil) [some (.scr (zs.map .int)), some (.ob 1), some (.lst ys), y3, some a, some b, some c, some d, none, some (.lst (rowsX a b c d va vb vc vd)), y10, y11, y12, y13, y14, y15, some (.str va.toD.shown)] h9 = .ok (.rt (.bl true)) h9 := by
    simp -implicitDefEqProofs only [↓s_var, ↓s_non, ↓s_bl, ↓s_int, ↓s_str, ↓s_cst, ↓s_tup, ↓s_lst, ↓s_dct, ↓s_bin, ↓s_neg, ↓s_cmp, ↓s_chn, ↓s_and, ↓s_or, ↓s_not, ↓s_ite, ↓s_idx, ↓s_slc, ↓s_fld, ↓s_call, ↓s_mk, ↓s_mkk, ↓s_mth, ↓s_app, ↓s_bi, ↓s_bm, ↓s_isi, ↓s_comp, ↓s_rev, ↓s_lam, ↓s_fnv, ↓s_nil, ↓s_cons, ↓s_cnil, ↓s_ccons, ↓s_iseq, ↓s_irng, ↓s_izip, ↓s_ienm, ↓s_tnm, ↓s_tidx, ↓s_ttup, ↓s_tsnil, ↓s_tscons, ↓s_expr, ↓s_asg, ↓s_par, ↓s_aug, ↓s_ret, ↓s_retN, ↓s_ifs, ↓s_for, ↓s_whl, ↓s_brk, ↓s_cnt, ↓s_pass, ↓s_snil, ↓s_scons, t_bl, t_int, t_non, t_tup, t_lst, ↓R.bnd_m, M.bnd_ap, M.opt_some, getV, List.length_cons, List.length_nil, List.getElem?_cons_zero, List.getElem?_cons_succ, List.set_cons_zero, List.set_cons_succ, ↓reduceIte, Bool.false_eq_true, Nat.reduceAdd, Nat.reduceSub, List.map_cons, List.map_nil, List.cons_append, List.nil_append, List.replicate_succ, List.replicate_zero, ix0, ix1, fl0, br, eq_str]
  rw [last, R.bnd_ok]
  exact fin_any rfl
end HP


set_option Elab.async false
set_option linter.all false
set_option maxRecDepth 100000
set_option maxHeartbeats 4000000
/-! k90: how arguments come to parameters; the end. -/
namespace HP
open PySem PySem.Spec PyProof.Rows L2
def deOf (i : Nat) : DE := (lkD i LW.fns).getD ⟨0, ⟨0, 0, [], true, .nil⟩, [], [], ⟨("", none), "", "", L2.defArgs (top 0), [], L2.defScope (top 0), [], []⟩⟩
theorem de_of {i : Nat} {e : DE} (h : lkD i LW.fns = some e) : e = deOf i := by
  unfold deOf
  rw [h]
  rfl
def noDfl (e : DE) : Bool := e.dd.dfl.isEmpty
theorem pick_at {α : Type} {p : α → Bool} {l : List α} {e : α} (k : Nat) (h : e ∈ l) (hd : p e = false) (h1 : (l.take k).all p = true) (h2 : (l.drop (k + 1)).all p = true) : l[k]? = some e := by
  obtain ⟨i, hi⟩ := List.mem_iff_getElem?.mp h
  rcases Nat.lt_trichotomy i k with z | z | z
  · have : e ∈ l.take k := List.mem_iff_getElem?.mpr ⟨i, by rw [List.getElem?_take_of_lt z]; exact hi⟩
    rw [List.all_eq_true.mp h1 e this] at hd
    cases hd
  · rw [← z]
    exact hi
  · have : e ∈ l.drop (k + 1) := List.mem_iff_getElem?.mpr ⟨i - (k + 1), by rw [List.getElem?_drop, show k + 1 + (i - (k + 1)) = i by omega]; exact hi⟩
    rw [List.all_eq_true.mp h2 e this] at hd
    cases hd
theorem dfl_only {e : DE} (h : e ∈ LW.fns) (hd : e.dd.dfl ≠ []) : e = deOf 50 := by
  have hd : noDfl e = false := by
    unfold noDfl
    cases hl : e.dd.dfl with
    | nil => exact absurd hl hd
    | cons _ _ => rfl
  have := pick_at 41 h hd (by decide +kernel) (by decide +kernel)
  exact de_of (show lkD 50 LW.fns = some e from this)
theorem ref_of {a : Addr} {u : Value} (h : RelV (.ref a) u) : u = .ref a := h
theorem of_ref {v : V} {a : Addr} (h : RelV v (.ref a)) : v = .ref a := by
  cases v with
  | ref b =>
    have : Value.ref a = Value.ref b := h
    cases this
    rfl
  | non => cases h
  | bl b => cases h
  | int i => obtain ⟨t, z⟩ := h; cases z
  | str i => obtain ⟨t, z⟩ := h; cases z
  | byt i => obtain ⟨t, z⟩ := h; cases z
  | flt i => obtain ⟨t, z⟩ := h; cases z
  | ty i => cases h
/-- the default of Model.__init__ -/
theorem model_dfl {K : PySem.W.Frag} {it : Value} (h : RelV (.ref (He.dflAt ("Model", some "__init__") 0 K)) it) (hx : LW.ex K = true) : ∃ v, RelV v it ∧ ∀ W : Wd, W.K = K → ∀ φ H, Rep W φ H (.tup []) v := by
  obtain rfl := ref_of h
  have hx : valB K (.tup []) (.ref (He.dflAt ("Model", some "__init__") 0 K)) = true := hx
  refine ⟨.ref (He.dflAt ("Model", some "__init__") 0 K), h, fun W hW φ H => ?_⟩
  obtain ⟨v, h3, h4⟩ := valB_ok (W := W) (x := .tup []) (u := .ref (He.dflAt ("Model", some "__init__") 0 K)) (by rw [hW]; exact hx)
  obtain rfl := of_ref h3
  exact h4 W.Z φ H
theorem dfl50_6 : dflX LW.P 50 6 = [.tup []] := rfl
theorem dfl50_7 : dflX LW.P 50 7 = [] := rfl
theorem dfl50 {n : Nat} (h : n + (dflX LW.P 50 n).length = 7) : n = 6 ∨ n = 7 := by
  have e : dflX LW.P 50 n = List.drop (1 - (7 - n)) [.tup []] := rfl
  rw [e, List.length_drop, List.length_singleton] at h
  omega
theorem dflG : ∀ K e, e ∈ LW.fns → e.dd.dfl ≠ [] → LW.ex K = true → e.dd.ok K = true → BindD LW K e := by
  intro K e he hd hx hok fd F s us n X hl hn
  obtain rfl := dfl_only he hd
  obtain ⟨oc, od, dV, kV, doc, pm, an, cdv, ct, osl, rfl, lk, hcd, hD, hK⟩ := F.ex
  rcases hD with ⟨e, _⟩ | ⟨_, T, o, its, m, rfl, lT, oT, rT⟩
  · cases e
  · cases rT with
    | cons r1 r2 =>
      cases r2
      rename_i it
      rcases dfl50 hn with rfl | rfl
      · match us, hl with
        | [u0, u1, u2, u3, u4, u5], _ =>
          obtain ⟨v, q1, q2⟩ := model_dfl r1 hx
          refine ⟨[it], [v], BindsTo.of_looks fun M => ?_, .cons q1 .nil, fun W hW φ H => ⟨v, [], rfl, q2 W hW φ H, rfl⟩⟩
          obtain ⟨k, e1, e2⟩ : ∃ k, bindArgs (PySem.W.fnOf (deOf 50).dd.name (deOf 50).dd.qual (deOf 50).dd.params (deOf 50).dd.body (deOf 50).dd.scope (.ref T) kV doc pm an cdv ct) ⟨[u0, u1, u2, u3, u4, u5], []⟩ = seqItems? (.ref T) >>= k ∧ k (some [it].toArray) = pure ((deOf 50).ps.zip ([u0, u1, u2, u3, u4, u5] ++ [it])) := ⟨_, rfl, rfl⟩
          rw [e1]
          exact looks_items X lT oT (.of_pure e2)
      · match us, hl with
        | [u0, u1, u2, u3, u4, u5, u6], _ =>
          refine ⟨[], [], BindsTo.of_looks fun M => ?_, .nil, fun W hW φ H => rfl⟩
          obtain ⟨k, e1, e2⟩ : ∃ k, bindArgs (PySem.W.fnOf (deOf 50).dd.name (deOf 50).dd.qual (deOf 50).dd.params (deOf 50).dd.body (deOf 50).dd.scope (.ref T) kV doc pm an cdv ct) ⟨[u0, u1, u2, u3, u4, u5, u6], []⟩ = seqItems? (.ref T) >>= k ∧ k (some [it].toArray) = pure ((deOf 50).ps.zip ([u0, u1, u2, u3, u4, u5, u6] ++ [])) := ⟨_, rfl, rfl⟩
          rw [e1]
          exact looks_items X lT oT (.of_pure e2)
theorem kw_plain {K : PySem.W.Frag} {e : DE} {ks : List Str} {pm : List Nat} (hd : e.dd.dfl = []) (hp : ∀ n, n = e.d.np → dflX LW.P e.id n = []) (hl2 : ∀ n, n + (dflX LW.P e.id n).length = e.d.np → n = e.d.np)
    (h : ∀ (kV doc pm' : Value) (an : Option Addr) (cdv ct : Value) (u : Value) (ws ws' : List Value), ws.length = ks.length → permL pm ws = some ws' → bindArgs (PySem.W.fnOf e.dd.name e.dd.qual e.dd.params e.dd.body e.dd.scope .none kV doc pm' an cdv ct) ⟨[u], ks.zip ws⟩ = pure (e.ps.zip (u :: ws'))) : BindK LW K e ks pm := by
  intro fd F s u ws ws' X hl hpm hn
  obtain ⟨oc, od, dV, kV, doc, pm', an, cdv, ct, osl, rfl, lk, hcd, hD, hK⟩ := F.ex
  have hds : e.dd.dvs K = [] := by
    unfold He.DefD.dvs
    rw [hd]
    rfl
  rw [hds] at hD
  rcases hD with ⟨_, rfl⟩ | ⟨z, _⟩
  · have e1 := hp _ (hl2 _ hn)
    refine ⟨[], [], ?_, .nil, fun W hW φ H => ?_⟩
    · rw [List.append_nil]
      exact BindsTo.of_eq (h kV doc pm' an cdv ct u ws ws' hl hpm)
    · rw [e1]
      rfl
  · exact absurd rfl z
theorem kw1 {K : PySem.W.Frag} {e : DE} {ks : Str} (hd : e.dd.dfl = []) (hnp : e.d.np = 2) (hx : ∀ n, dflX LW.P e.id n = List.drop (0 - (2 - n)) [])
    (h : ∀ (kV doc pm' : Value) (an : Option Addr) (cdv ct : Value) (u w : Value), bindArgs (PySem.W.fnOf e.dd.name e.dd.qual e.dd.params e.dd.body e.dd.scope .none kV doc pm' an cdv ct) ⟨[u], [(ks, w)]⟩ = pure (e.ps.zip [u, w])) : BindK LW K e [ks] [0] := by
  refine kw_plain hd (fun n _ => by rw [hx]; exact List.drop_nil) (fun n z => by rw [hx, List.drop_nil] at z; exact z) fun kV doc pm' an cdv ct u ws ws' hl hpm => ?_
  match ws, hl with
  | [w], _ =>
    have hpm : some [w] = some ws' := hpm
    cases hpm
    exact h kV doc pm' an cdv ct u w
theorem kw2 {K : PySem.W.Frag} {e : DE} {k1 k2 : Str} (hd : e.dd.dfl = []) (hnp : e.d.np = 3) (hx : ∀ n, dflX LW.P e.id n = List.drop (0 - (3 - n)) [])
    (h : ∀ (kV doc pm' : Value) (an : Option Addr) (cdv ct : Value) (u w1 w2 : Value), bindArgs (PySem.W.fnOf e.dd.name e.dd.qual e.dd.params e.dd.body e.dd.scope .none kV doc pm' an cdv ct) ⟨[u], [(k1, w1), (k2, w2)]⟩ = pure (e.ps.zip [u, w2, w1])) : BindK LW K e [k1, k2] [1, 0] := by
  refine kw_plain hd (fun n _ => by rw [hx]; exact List.drop_nil) (fun n z => by rw [hx, List.drop_nil] at z; exact z) fun kV doc pm' an cdv ct u ws ws' hl hpm => ?_
  match ws, hl with
  | [w1, w2], _ =>
    have hpm : some [w2, w1] = some ws' := hpm
    cases hpm
    exact h kV doc pm' an cdv ct u w1 w2
theorem kwM {K : PySem.W.Frag} (hx : LW.ex K = true) : BindK LW K (deOf 50) ["asks", "claims", "limits", "nodes", "things"] [4, 3, 2, 1, 0] := by
  intro fd F s u ws ws' X hl hpm hn
  obtain ⟨oc, od, dV, kV, doc, pm', an, cdv, ct, osl, rfl, lk, hcd, hD, hK⟩ := F.ex
  rcases hD with ⟨e, _⟩ | ⟨_, T, o, its, m, rfl, lT, oT, rT⟩
  · cases e
  · cases rT with
    | cons r1 r2 =>
      cases r2
      rename_i it
      match ws, hl with
      | [w0, w1, w2, w3, w4], _ =>
        have hpm : some [w4, w3, w2, w1, w0] = some ws' := hpm
        cases hpm
        obtain ⟨v, q1, q2⟩ := model_dfl r1 hx
        refine ⟨[it], [v], BindsTo.of_looks fun M => ?_, .cons q1 .nil, fun W hW φ H => ⟨v, [], rfl, q2 W hW φ H, rfl⟩⟩
        obtain ⟨k, e1, e2⟩ : ∃ k, bindArgs (PySem.W.fnOf (deOf 50).dd.name (deOf 50).dd.qual (deOf 50).dd.params (deOf 50).dd.body (deOf 50).dd.scope (.ref T) kV doc pm' an cdv ct) ⟨[u], List.zip ["asks", "claims", "limits", "nodes", "things"] [w0, w1, w2, w3, w4]⟩ = seqItems? (.ref T) >>= k ∧ k (some [it].toArray) = pure ((deOf 50).ps.zip (u :: [w4, w3, w2, w1, w0] ++ [it])) := ⟨_, rfl, rfl⟩
        rw [e1]
        exact looks_items X lT oT (.of_pure e2)
theorem kw_of {P : DE → Prop} {i : Nat} {cd cd0 : ClD} {e : DE} {c : Nat} (h0 : lkN c LW.cls = some cd0) (hi0 : cd0.init = some i) (hc : lkN c LW.cls = some cd) (hi : cd.init = some e.id) (he : lkD e.id LW.fns = some e) (h : P (deOf i)) : P e := by
  rw [h0] at hc
  cases hc
  rw [hi0] at hi
  cases hi
  rw [de_of he]
  exact h
theorem kwsG : ∀ K c ks pm cd e, (c, ks, pm) ∈ LW.kws → lkN c LW.cls = some cd → cd.init = some e.id → lkD e.id LW.fns = some e → LW.ex K = true → e.dd.ok K = true → BindK LW K e ks pm := by
  intro K c ks pm cd e hm hc hi he hx hok
  unfold LW at hm
  simp only [List.mem_cons, List.not_mem_nil, or_false, Prod.mk.injEq] at hm
  rcases hm with ⟨rfl, rfl, rfl⟩ | ⟨rfl, rfl, rfl⟩ | ⟨rfl, rfl, rfl⟩ | ⟨rfl, rfl, rfl⟩ | ⟨rfl, rfl, rfl⟩ | ⟨rfl, rfl, rfl⟩ | ⟨rfl, rfl, rfl⟩ | ⟨rfl, rfl, rfl⟩ | ⟨rfl, rfl, rfl⟩ | ⟨rfl, rfl, rfl⟩ | ⟨rfl, rfl, rfl⟩ | ⟨rfl, rfl, rfl⟩
  · exact kw_of (P := fun e => BindK LW K e _ _) rfl rfl hc hi he (kw1 rfl rfl (fun n => rfl) fun _ _ _ _ _ _ _ _ => rfl)
  · exact kw_of (P := fun e => BindK LW K e _ _) rfl rfl hc hi he (kw1 rfl rfl (fun n => rfl) fun _ _ _ _ _ _ _ _ => rfl)
  · exact kw_of (P := fun e => BindK LW K e _ _) rfl rfl hc hi he (kw1 rfl rfl (fun n => rfl) fun _ _ _ _ _ _ _ _ => rfl)
  · exact kw_of (P := fun e => BindK LW K e _ _) rfl rfl hc hi he (kwM hx)
  · exact kw_of (P := fun e => BindK LW K e _ _) rfl rfl hc hi he (kw1 rfl rfl (fun n => rfl) fun _ _ _ _ _ _ _ _ => rfl)
  · exact kw_of (P := fun e => BindK LW K e _ _) rfl rfl hc hi he (kw2 rfl rfl (fun n => rfl) fun _ _ _ _ _ _ _ _ _ => rfl)
  · exact kw_of (P := fun e => BindK LW K e _ _) rfl rfl hc hi he (kw1 rfl rfl (fun n => rfl) fun _ _ _ _ _ _ _ _ => rfl)
  · exact kw_of (P := fun e => BindK LW K e _ _) rfl rfl hc hi he (kw1 rfl rfl (fun n => rfl) fun _ _ _ _ _ _ _ _ => rfl)
  · exact kw_of (P := fun e => BindK LW K e _ _) rfl rfl hc hi he (kw2 rfl rfl (fun n => rfl) fun _ _ _ _ _ _ _ _ _ => rfl)
  · exact kw_of (P := fun e => BindK LW K e _ _) rfl rfl hc hi he (kw1 rfl rfl (fun n => rfl) fun _ _ _ _ _ _ _ _ => rfl)
  · exact kw_of (P := fun e => BindK LW K e _ _) rfl rfl hc hi he (kw1 rfl rfl (fun n => rfl) fun _ _ _ _ _ _ _ _ => rfl)
  · exact kw_of (P := fun e => BindK LW K e _ _) rfl rfl hc hi he (kw1 rfl rfl (fun n => rfl) fun _ _ _ _ _ _ _ _ => rfl)
theorem good : Lw.Good LW := ⟨statL, dflG, kwsG, by decide⟩
end HP

set_option Elab.async false
set_option linter.all false
set_option maxRecDepth 100000
set_option maxHeartbeats 0
open PySem PySem.W PySem.Calls PyProof.Rows
theorem PySem.Challenge.cw_hedgepapers_k90_classes_made_by_hand_holds : PySem.Challenge.rw_hedgepapers_k90_classes_made_by_hand.Holds := by
  w_on; o_law
  refine HandSHeadRun.head_any (r := HP.Rw) (q := view HP.Rw.prog [32]) (H := HP.LW.hook HP.ndF HP.lfL) (ob := HP.LW.ob HP.ndF HP.lfL) (M := 20000) (loose := HP.looseL) (d := HandSHeadRun.topDef HP.Rw.prog 32) (kwd := []) (HP.LW.ob_eq HP.ndF HP.lfL)
    (by kernel_rfl) (fun s => by kernel_rfl) HP.runH (by kernel_rfl) (by kernel_rfl) (by kernel_rfl) (by rfl) (by first | assumption | decide +kernel) (by decide +kernel) ⟨rfl, rfl, rfl, rfl, rfl, by decide +kernel⟩ ?hw ?hc
  case hw => w_witness2
  case hc =>
    exact HP.Lw.walk (hn := HP.ndF) HP.good (lf := HP.lfL) (lawf := 56) (ld := HP.d56) (l := PySem.Challenge.rw_hedgepapers_k90_classes_made_by_hand) rfl (by kernel_rfl) (by kernel_rfl) (by decide +kernel) rfl rfl fun zs hz _ => by
      obtain ⟨h', q⟩ := HP.law_ok hz
      exact ⟨12, h', by decide, q⟩


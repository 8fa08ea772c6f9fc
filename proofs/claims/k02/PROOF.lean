import PyProof.Rows.All
import Wide.All
import OpenK.AllK
import Wide.FinOn
import HandS.ForMost
import HandS.ForExc
import HandS.Lambda
import HandS.TupAny
import HandS.TupMul
import HandS.TupLen
import HandS.SortInts
import HandS.Deep
import HandS.Text
import HandS.Style
import HandS.IsInst
import HandS.Conv
import HandS.Steps
import HandS.Flow
import HandS.Comp
import HandS.Iter
import HandS.Zip
import HandS.ExcField
import HandS.ExcIs
import HandS.ExcSuper
import HandS.EndTab
import PyProof.ReprRoads
import KE.KExcSuper
import PySem.Challenge.RW_netsled_k02_whole_tokens_of_texts
set_option Elab.async false
set_option linter.all false
set_option maxRecDepth 100000
namespace PyI
open PySem

inductive D where
  | non | bl (b : Bool) | int (i : Int) | str (cs : List Nat)
  | tup (xs : List D) | lst (xs : List D) | dct (ks : List D) (vs : List D)
  | exc (c : Nat) (fs : List D)
  /-- the law's argument -/
  | scr (is : List Int)
  deriving Inhabited

mutual
def eqD : D → D → Bool
  | .non, .non => true
  | .bl a, .bl b => decide (a = b)
  | .int a, .int b => decide (a = b)
  | .str a, .str b => decide (a = b)
  | .tup a, .tup b => eqDs a b
  | .lst a, .lst b => eqDs a b
  | .dct a c, .dct b d => eqDs a b && eqDs c d
  | .exc c a, .exc e b => decide (c = e) && eqDs a b
  | .scr a, .scr b => decide (a = b)
  | _, _ => false
def eqDs : List D → List D → Bool
  | [], [] => true
  | a :: as, b :: bs => eqD a b && eqDs as bs
  | _, _ => false
end
mutual
theorem eqD_iff : ∀ a b : D, eqD a b = true ↔ a = b
  | .non, b => by cases b <;> simp [eqD]
  | .bl a, b => by cases b <;> simp [eqD]
  | .int a, b => by cases b <;> simp [eqD]
  | .str a, b => by cases b <;> simp [eqD]
  | .tup a, b => by cases b <;> simp [eqD, eqDs_iff a]
  | .lst a, b => by cases b <;> simp [eqD, eqDs_iff a]
  | .dct a c, b => by cases b <;> simp [eqD, eqDs_iff a, eqDs_iff c]
  | .exc c a, b => by cases b <;> simp [eqD, eqDs_iff a]
  | .scr a, b => by cases b <;> simp [eqD]
theorem eqDs_iff : ∀ a b : List D, eqDs a b = true ↔ a = b
  | [], b => by cases b <;> simp [eqDs]
  | a :: as, b => by cases b <;> simp [eqDs, eqD_iff a, eqDs_iff as]
end
instance : DecidableEq D := fun a b => decidable_of_iff _ (eqD_iff a b)

mutual
/-- no part of it can be changed -/
def D.imm : D → Bool
  | .non | .bl _ | .int _ | .str _ | .scr _ => true
  | .tup xs => immAll xs
  | .lst _ | .dct _ _ | .exc _ _ => false
def immAll : List D → Bool
  | [] => true
  | x :: xs => x.imm && immAll xs
end
/-- an error whose parts can't be changed -/
def D.excI : D → Bool
  | .exc _ fs => immAll fs
  | _ => false
/-- its direct parts can't be changed -/
def D.kids : D → Bool
  | .lst xs => immAll xs
  | .dct ks vs => immAll ks && immAll vs
  | .tup xs => immAll xs
  | .exc _ _ => false
  | _ => true

inductive Sl where
  | sh (d : D) | ow (d : D)
  deriving Inhabited
abbrev Env := List (Option Sl)
inductive Out where
  | ok (d : D) (δ : Env) | er (x : D) (δ : Env) | bad
  deriving Inhabited
inductive OutL where
  | ok (ds : List D) (δ : Env) | er (x : D) (δ : Env) | bad
  deriving Inhabited
inductive Fl where
  | nx (δ : Env) | rt (d : D) (δ : Env) | bk (δ : Env) | ct (δ : Env) | er (x : D) (δ : Env) | bad
  deriving Inhabited
/-- a call's end; os: the own parameters behind it -/
inductive CRes where
  | rt (d : D) (os : List D) | er (x : D) (os : List D) | bad
  deriving Inhabited
def Out.then (o : Out) (f : D → Env → Out) : Out := match o with
  | .ok d δ => f d δ
  | .er x δ => .er x δ
  | .bad => .bad
def OutL.then (o : OutL) (f : List D → Env → Out) : Out := match o with
  | .ok d δ => f d δ
  | .er x δ => .er x δ
  | .bad => .bad
def Out.thenL (o : Out) (f : D → Env → OutL) : OutL := match o with
  | .ok d δ => f d δ
  | .er x δ => .er x δ
  | .bad => .bad
def OutL.thenL (o : OutL) (f : List D → Env → OutL) : OutL := match o with
  | .ok d δ => f d δ
  | .er x δ => .er x δ
  | .bad => .bad
def Out.thenF (o : Out) (f : D → Env → Fl) : Fl := match o with
  | .ok d δ => f d δ
  | .er x δ => .er x δ
  | .bad => .bad
def OutL.thenF (o : OutL) (f : List D → Env → Fl) : Fl := match o with
  | .ok d δ => f d δ
  | .er x δ => .er x δ
  | .bad => .bad
@[simp] theorem Out.then_ok (d δ f) : (Out.ok d δ).then f = f d δ := rfl
@[simp] theorem Out.then_er (d δ f) : (Out.er d δ).then f = .er d δ := rfl
@[simp] theorem Out.then_bad (f) : Out.bad.then f = .bad := rfl
@[simp] theorem OutL.then_ok (d δ f) : (OutL.ok d δ).then f = f d δ := rfl
@[simp] theorem OutL.then_er (d δ f) : (OutL.er d δ).then f = .er d δ := rfl
@[simp] theorem OutL.then_bad (f) : OutL.bad.then f = .bad := rfl
@[simp] theorem Out.thenL_ok (d δ f) : (Out.ok d δ).thenL f = f d δ := rfl
@[simp] theorem Out.thenL_er (d δ f) : (Out.er d δ).thenL f = .er d δ := rfl
@[simp] theorem Out.thenL_bad (f) : Out.bad.thenL f = .bad := rfl
@[simp] theorem OutL.thenL_ok (d δ f) : (OutL.ok d δ).thenL f = f d δ := rfl
@[simp] theorem OutL.thenL_er (d δ f) : (OutL.er d δ).thenL f = .er d δ := rfl
@[simp] theorem OutL.thenL_bad (f) : OutL.bad.thenL f = .bad := rfl
@[simp] theorem Out.thenF_ok (d δ f) : (Out.ok d δ).thenF f = f d δ := rfl
@[simp] theorem Out.thenF_er (d δ f) : (Out.er d δ).thenF f = .er d δ := rfl
@[simp] theorem Out.thenF_bad (f) : Out.bad.thenF f = .bad := rfl
@[simp] theorem OutL.thenF_ok (d δ f) : (OutL.ok d δ).thenF f = f d δ := rfl
@[simp] theorem OutL.thenF_er (d δ f) : (OutL.er d δ).thenF f = .er d δ := rfl
@[simp] theorem OutL.thenF_bad (f) : OutL.bad.thenF f = .bad := rfl

inductive BOp where
  | add | sub | mul | fdiv | mod | pow
  deriving DecidableEq, Inhabited
inductive COp where
  | eq | ne | lt | le | gt | ge | is | isn | in_ | nin
  deriving DecidableEq, Inhabited
/-- types that isinstance asks; own errors by their number -/
inductive Ty where
  | int | bool | str | tup | lst | dct | err (c : Nat)
  deriving DecidableEq, Inhabited
/-- built-in functions of values -/
inductive Bi where
  | len | list | tuple | sorted | dict | sum | max1 | min1 | max2 | min2 | all | any | int | abs | repr | listRange1 | tupleRange1
  deriving DecidableEq, Inhabited
/-- methods of values that change nothing -/
inductive Mt where
  | join | get1 | get2 | index | count
  deriving DecidableEq, Inhabited
/-- methods that change what they belong to -/
inductive Pm where
  | append | pop0 | popAt | extend | insert | setdefault | update | dpop | dpop2 | remove
  deriving DecidableEq, Inhabited
/-- targets -/
inductive Tg where
  | nm (o : Bool) (i : Nat) | tp (ts : List Tg)
  deriving Inhabited
mutual
inductive Ex where
  | cst (d : D)
  | var (i : Nat)
  | bor (p : Pa)
  | bin (op : BOp) (a b : Ex)
  | neg (a : Ex)
  | not_ (a : Ex)
  | and_ (a b : Ex)
  | or_ (a b : Ex)
  | cmp (op : COp) (a b : Ex)
  | chn (op op' : COp) (a b c : Ex)
  | ite (c a b : Ex)
  | tup (es : Exs)
  | lst (es : Exs)
  | dct (k : Bool) (kv : Kv)
  | call (f : Nat) (es : As)
  | bi (b : Bi) (es : Exs)
  | mt (m : Mt) (o : Ex) (es : Exs)
  | pm (m : Pm) (p : Pa) (es : Exs)
  | idx (a i : Ex)
  | slc (a : Ex) (lo hi : Exs)
  | rev (a : Ex)
  | lc (t : Tg) (it : It) (cs : Exs) (e : Ex)
  | lc2 (t : Tg) (it : It) (t' : Tg) (it' : It) (cs : Exs) (e : Ex)
  | dc (kt : Bool) (t : Tg) (it : It) (cs : Exs) (k v : Ex)
  | isi (e : Ex) (ts : List Ty)
  | fld (e : Ex) (n : List Nat)
  | caught (e : Ex)
inductive Exs where
  | nil | cons (e : Ex) (es : Exs)
inductive Kv where
  | nil | cons (k v : Ex) (r : Kv)
/-- arguments: values, own things that are lent -/
inductive As where
  | nil | val (e : Ex) (r : As) | io (p : Pa) (r : As)
inductive Pa where
  | v (i : Nat) | ix (p : Pa) (e : Ex)
inductive It where
  | over (e : Ex) | rng1 (a : Ex) | rng2 (a b : Ex) | rng3 (a b c : Ex) | enu (e : Ex) | zip (a b : Ex) | items (e : Ex) | vals (e : Ex)
end
mutual
inductive S where
  | set (i : Nat) (e : Ex)
  | own (i : Nat) (e : Ex)
  /-- (a, b, ..) = e; o: the value is owned -/
  | unp (o : Bool) (t : Tg) (e : Ex)
  /-- a, b = x, y: different names, each owned or not -/
  | par (ts : List (Bool × Nat)) (es : Exs)
  | pset (p : Pa) (i e : Ex)
  | paug (p : Pa) (i : Ex) (op : BOp) (e : Ex)
  | aug (i : Nat) (op : BOp) (e : Ex)
  | exp (e : Ex)
  | ret (e : Ex)
  | ifs (c : Ex) (a b : Ss)
  | whl (c : Ex) (b : Ss)
  | forr (t : Tg) (it : It) (b : Ss)
  | brk | cnt | pas
  | rais (c : Nat) (es : Exs)
inductive Ss where
  | nil | cons (s : S) (ss : Ss)
end
structure Fn where
  /-- which parameters are owned -/
  ow : List Bool
  /-- how many names -/
  sz : Nat
  /-- what it hands back is owned -/
  ro : Bool
  body : Ss

def LINE : Nat := 16777216
def fits (n : Nat) : Bool := decide (n ≤ LINE)
def okStr (cs : List Nat) : Option D := if fits cs.length then some (.str cs) else none
def okTup (xs : List D) : Option D := if fits xs.length then some (.tup xs) else none
def okLst (xs : List D) : Option D := if fits xs.length then some (.lst xs) else none
def smallI (i : Int) : Bool := decide (-(2 ^ 64) < i ∧ i < 2 ^ 64)
def rep {α : Type} (n : Nat) (xs : List α) : List α := (List.replicate n xs).flatten
def binS (op : BOp) (a b : D) : Option D := match op, a, b with
  | .add, .int i, .int j => some (.int (i + j))
  | .add, .str x, .str y => okStr (x ++ y)
  | .add, .tup x, .tup y => okTup (x ++ y)
  | .add, .lst x, .lst y => okLst (x ++ y)
  | .sub, .int i, .int j => some (.int (i - j))
  | .mul, .int i, .int j => if smallI i || smallI j then some (.int (i * j)) else none
  | .mul, .lst x, .int j => if decide (j < 2 ^ 31) && decide (-(2 ^ 31) < j) then okLst (rep j.toNat x) else none
  | .mul, .tup x, .int j => if decide (2 ≤ j ∧ j ≤ 1000) && !x.isEmpty && decide (x.length ≤ 1000) then some (.tup (rep j.toNat x)) else none
  | .mul, .str x, .int j => if decide (j < 2 ^ 31) && decide (-(2 ^ 31) < j) then okStr (rep j.toNat x) else none
  | .fdiv, .int i, .int j => if decide (0 < j ∧ j < 1073741824) then some (.int (i / j)) else none
  | .mod, .int i, .int j => if decide (0 < j) then some (.int (i % j)) else none
  | .pow, .int i, .int j => if decide (0 ≤ j ∧ j ≤ 1000) && smallI i then some (.int (i ^ j.toNat)) else none
  | _, _, _ => none
def truth : D → Option Bool
  | .non => some false
  | .bl b => some b
  | .int i => some (i != 0)
  | .str cs => some (!cs.isEmpty)
  | .tup xs => some (!xs.isEmpty)
  | .lst xs => some (!xs.isEmpty)
  | .dct _ _ | .exc _ _ | .scr _ => none

mutual
/-- the same data for Python's ==; dicts and errors are not told -/
def D.py : D → Option PyData
  | .non => some .none
  | .bl b => some (.bool b)
  | .int i => some (.int i)
  | .str cs => some (.str ⟨cs.toArray⟩)
  | .tup xs => (pyAll xs).map .tuple
  | .lst xs => (pyAll xs).map .list
  | .dct ks vs => match pyAll ks, pyAll vs with
    | some a, some b => if a.length = b.length then some (.dict (a.zip b)) else none
    | _, _ => none
  | .exc _ _ | .scr _ => none
def pyAll : List D → Option (List PyData)
  | [] => some []
  | x :: xs => match x.py, pyAll xs with
    | some a, some b => some (a :: b)
    | _, _ => none
end
mutual
/-- without dicts, errors; signs are signs -/
def D.plain : D → Bool
  | .non | .bl _ | .int _ => true
  | .str cs => cs.all (· < 1114112)
  | .tup xs => plainAll xs
  | .lst xs => plainAll xs
  | .dct _ _ | .exc _ _ | .scr _ => false
def plainAll : List D → Bool
  | [] => true
  | x :: xs => x.plain && plainAll xs
end
mutual
def D.deep : D → Nat
  | .tup xs | .lst xs => deepAll xs + 1
  | .dct ks vs => max (deepAll ks) (deepAll vs) + 1
  | _ => 0
def deepAll : List D → Nat
  | [] => 0
  | x :: xs => max x.deep (deepAll xs)
end
mutual
/-- Python's == of plain data (True is 1) -/
def eqv : D → D → Bool
  | .non, .non => true
  | .bl a, .bl b => a == b
  | .int a, .int b => a == b
  | .bl a, .int b => (if a then 1 else 0) == b
  | .int a, .bl b => a == (if b then 1 else 0)
  | .str a, .str b => decide (a = b)
  | .tup a, .tup b => eqvs a b
  | .lst a, .lst b => eqvs a b
  | _, _ => false
def eqvs : List D → List D → Bool
  | [], [] => true
  | a :: as, b :: bs => eqv a b && eqvs as bs
  | _, _ => false
end
/-- data that == and in may be asked of -/
def askable (a : D) : Bool := a.plain && decide (a.deep ≤ 60)
def isFlat : D → Bool
  | .non | .bl _ | .int _ | .str _ => true
  | _ => false
def keyOk : D → Bool
  | .int _ | .str _ => true
  | _ => false
def dget (ks vs : List D) (k : D) : Option D := match ks, vs with
  | a :: as, b :: bs => if a = k then some b else dget as bs k
  | _, _ => none
def dhas (ks : List D) (k : D) : Bool := ks.any fun a => decide (a = k)
def dputV (ks vs : List D) (k v : D) : List D := match ks, vs with
  | a :: as, b :: bs => if a = k then v :: bs else b :: dputV as bs k v
  | _, _ => []
def dput (ks vs : List D) (k v : D) : List D × List D := if dhas ks k then (ks, dputV ks vs k v) else (ks ++ [k], vs ++ [v])
def ltList : List Nat → List Nat → Bool
  | [], [] => false
  | [], _ :: _ => true
  | _ :: _, [] => false
  | a :: as, b :: bs => if a < b then true else if a = b then ltList as bs else false
def ltInts : List D → List D → Option Bool
  | [], [] => some false
  | [], _ :: _ => some true
  | _ :: _, [] => some false
  | .int a :: as, .int b :: bs => if a < b then some true else if a = b then ltInts as bs else some false
  | _, _ => none
/-- Python's == where it may be asked -/
def eqS (a b : D) : Option Bool := match a, b with
  | .str x, .str y => some (decide (x = y))
  | a, b => if askable a && askable b then some (eqv a b) else none
/-- Python's in -/
def inS (a b : D) : Option Bool := match b with
  | .str y => match a with
    | .str [c] => some (decide (c ∈ y))
    | _ => none
  | .lst xs => if askable a && askable (.lst xs) then some (xs.any fun x => eqv x a) else none
  | .tup xs => if isFlat a && xs.all isFlat then some (xs.any fun x => eqv x a) else none
  | .dct ks _ => if keyOk a then some (dhas ks a) else none
  | _ => none
def cmpS (op : COp) (a b : D) : Option Bool := match op with
  | .eq => eqS a b
  | .ne => (eqS a b).map (!·)
  | .lt => match a, b with
    | .int i, .int j => some (decide (i < j))
    | .str x, .str y => some (ltList x y)
    | _, _ => none
  | .le => match a, b with
    | .int i, .int j => some (decide (i ≤ j))
    | _, _ => none
  | .gt => match a, b with
    | .int i, .int j => some (decide (j < i))
    | _, _ => none
  | .ge => match a, b with
    | .int i, .int j => some (decide (j ≤ i))
    | _, _ => none
  | .is => match b with
    | .non => some (decide (a = .non))
    | _ => none
  | .isn => match b with
    | .non => some (!decide (a = .non))
    | _ => none
  | .in_ => inS a b
  | .nin => (inS a b).map (!·)
/-- the place that an index means -/
def place (n : Nat) (i : Int) : Option Nat := if 0 ≤ i then (if i.toNat < n then some i.toNat else none) else if 0 ≤ i + n then some (i + n).toNat else none
def idxS (a i : D) : Option D := match a, i with
  | .tup xs, .int i => (place xs.length i).bind fun k => xs[k]?
  | .lst xs, .int i => (place xs.length i).bind fun k => xs[k]?
  | .str cs, .int i => (place cs.length i).bind fun k => cs[k]?.map fun c => .str [c]
  | .dct ks vs, k => if keyOk k then dget ks vs k else none
  | _, _ => none
/-- a slice's ends -/
def clampS (n : Nat) (i : Int) : Nat := if 0 ≤ i then min i.toNat n else (i + n).toNat
def cut {α : Type} (xs : List α) (lo hi : Option Int) : List α :=
  let a := match lo with | some i => clampS xs.length i | none => 0
  let b := match hi with | some i => clampS xs.length i | none => xs.length
  (xs.take b).drop a
def slcS (a : D) (lo hi : Option Int) : Option D := match a with
  | .tup xs => some (.tup (cut xs lo hi))
  | .lst xs => some (.lst (cut xs lo hi))
  | .str cs => some (.str (cut cs lo hi))
  | _ => none
def intsOf : List D → Option (List Int)
  | [] => some []
  | .int i :: r => (intsOf r).map (i :: ·)
  | _ => none
def boolsOf : List D → Option (List Bool)
  | [] => some []
  | .bl b :: r => (boolsOf r).map (b :: ·)
  | _ => none
def strsOf : List D → Option (List (List Nat))
  | [] => some []
  | .str s :: r => (strsOf r).map (s :: ·)
  | _ => none
def insI (x : Int) : List Int → List Int
  | [] => [x]
  | y :: ys => if x ≤ y then x :: y :: ys else y :: insI x ys
def sortI : List Int → List Int
  | [] => []
  | x :: xs => insI x (sortI xs)
def insS (x : List Nat) : List (List Nat) → List (List Nat)
  | [] => [x]
  | y :: ys => if ltList y x then y :: insS x ys else x :: y :: ys
def sortS : List (List Nat) → List (List Nat)
  | [] => []
  | x :: xs => insS x (sortS xs)
def sortD (xs : List D) : Option (List D) := match intsOf xs with
  | some is => some ((sortI is).map .int)
  | none => match strsOf xs with
    | some ss => some ((sortS ss).map .str)
    | none => none
/-- what list(..), tuple(..), sorted(..), a loop walk -/
def itemsOf : D → Option (List D)
  | .tup xs | .lst xs => some xs
  | .str cs => some (cs.map fun c => .str [c])
  | .scr is => some (is.map .int)
  | _ => none
def seqOf : D → Option (List D)
  | .tup xs | .lst xs => some xs
  | _ => none
def joinL (sep : List Nat) : List (List Nat) → List Nat
  | [] => []
  | [x] => x
  | x :: y :: r => x ++ sep ++ joinL sep (y :: r)
/-- ints that can be shown -/
def wtI (i : Int) : Nat := if -(10 ^ 12) < i ∧ i < 10 ^ 12 then 13 else 1921
mutual
/-- how long it may be, shown -/
def D.wt : D → Nat
  | .non | .bl _ => 5
  | .int i => wtI i
  | .str cs => 10 * cs.length + 2
  | .tup xs | .lst xs => wtAll xs + 3
  | _ => 0
def wtAll : List D → Nat
  | [] => 0
  | x :: xs => x.wt + 2 + wtAll xs
end
mutual
/-- data that repr may be asked of -/
def D.shw : D → Bool
  | .non | .bl _ => true
  | .int i => decide (i.natAbs < 2 ^ 1900)
  | .str cs => cs.all (· < 1114112)
  | .tup xs | .lst xs => shwAll xs
  | _ => false
def shwAll : List D → Bool
  | [] => true
  | x :: xs => x.shw && shwAll xs
end
def shownOf (d : D) : Option (List Nat) := match d.py with
  | some p => if d.shw && decide (d.deep ≤ 60) && decide (d.wt ≤ LINE) then some p.shown.cps.toList else none
  | none => none
def upTo (n : Nat) : List D := (List.range n).map fun (k : Nat) => D.int (k : Int)
def lenS : D → Option D
  | .str cs => some (.int cs.length)
  | .tup xs => some (.int xs.length)
  | .lst xs => some (.int xs.length)
  | .dct ks _ => some (.int ks.length)
  | .scr is => some (.int is.length)
  | _ => none
def listS (a : D) : Option D := (seqOf a).map .lst
def tupleS : D → Option D
  | .lst xs => some (.tup xs)
  | _ => none
def sortedS1 : D → Option D
  | .lst xs => (intsOf xs).map fun is => .lst ((sortI is).map .int)
  | _ => none
def sumS : D → Option D
  | .lst xs => (intsOf xs).map fun is => .int is.sum
  | _ => none
def allS : D → Option D
  | .lst xs => (boolsOf xs).map fun bs => .bl (bs.all id)
  | _ => none
def anyS : D → Option D
  | .lst xs => (boolsOf xs).map fun bs => .bl (bs.any id)
  | _ => none
def intS : D → Option D
  | .int i => some (.int i)
  | _ => none
def absS : D → Option D
  | .int i => some (.int (if i < 0 then -i else i))
  | _ => none
def max2S (a b : D) : Option D := match a, b with
  | .int i, .int j => some (.int (if j > i then j else i))
  | _, _ => none
def min2S (a b : D) : Option D := match a, b with
  | .int i, .int j => some (.int (if j < i then j else i))
  | _, _ => none
def reprS (d : D) : Option D := (shownOf d).map .str
def biS (b : Bi) (as : List D) : Option D := match as with
  | [a] => match b with
    | .len => lenS a
    | .list => listS a
    | .tuple => tupleS a
    | .sorted => sortedS1 a
    | .sum => sumS a
    | .all => allS a
    | .any => anyS a
    | .int => intS a
    | .abs => absS a
    | .repr => reprS a
    | _ => none
  | [a, c] => match b with
    | .max2 => max2S a c
    | .min2 => min2S a c
    | _ => none
  | _ => none
def joinS (o a : D) : Option D := match o, a with
  | .str sep, .lst xs => (strsOf xs).bind fun ss => if decide ((ss.map (·.length)).sum + ss.length * sep.length ≤ 16777216) then some (.str (joinL sep ss)) else none
  | _, _ => none
def mtS (m : Mt) (o : D) (as : List D) : Option D := match m, as with
  | .join, [a] => joinS o a
  | .get1, [k] => match o with
    | .dct ks vs => if keyOk k then some ((dget ks vs k).getD .non) else none
    | _ => none
  | .get2, [k, x] => match o with
    | .dct ks vs => if keyOk k then some ((dget ks vs k).getD x) else none
    | _ => none
  | _, _ => none
def Pm.isL : Pm → Bool
  | .append | .pop0 | .popAt | .extend | .insert | .remove => true
  | _ => false
def D.isL : D → Bool
  | .lst _ => true
  | _ => false
/-- what a changing method hands back, and what stands behind it -/
def pmS (m : Pm) (o : D) (as : List D) : Option (D × D) := match m, o, as with
  | .append, .lst xs, [v] => if decide (xs.length < LINE) then some (.non, .lst (xs ++ [v])) else none
  | .pop0, .lst xs, [] => xs[xs.length - 1]?.map fun y => (y, .lst (xs.eraseIdx (xs.length - 1)))
  | .popAt, .lst xs, [.int i] => (place xs.length i).bind fun k => xs[k]?.map fun y => (y, .lst (xs.eraseIdx k))
  | .setdefault, .dct ks vs, [k, v] => if keyOk k && decide (ks.length < LINE) then (match dget ks vs k with
    | some y => some (y, .dct ks vs)
    | none => some (v, .dct (ks ++ [k]) (vs ++ [v]))) else none
  | _, _, _ => none
/-- the type's name -/
def tyOf : D → Option Ty
  | .non => none
  | .bl _ => some .bool
  | .int _ => some .int
  | .str _ => some .str
  | .tup _ => some .tup
  | .lst _ | .scr _ => some .lst
  | .dct _ _ => some .dct
  | .exc c _ => some (.err c)
def tyIs (d : D) (t : Ty) : Option Bool := match t with
  | .err e => match d with
    | .non => some false
    | .exc c _ => some (decide (c = e) || decide (e = 0))
    | _ => none
  | t => match d with
    | .exc _ _ => none
    | .bl _ => some (decide (t = .bool) || decide (t = .int))
    | d => some (decide (tyOf d = some t))
def tyAny (d : D) : List Ty → Option Bool
  | [] => some false
  | t :: ts => match tyIs d t with
    | some true => some true
    | some false => tyAny d ts
    | none => none
/-- the fields of the own errors -/
def exFld (c : Nat) : Option (List Nat) :=
  if c = 1 ∨ c = 4 ∨ c = 17 ∨ c = 18 ∨ c = 25 then some [112, 97, 114, 116]
  else if c = 2 then some [109, 111, 115, 116]
  else if c = 8 then some [110, 97, 109, 101]
  else if c = 9 ∨ c = 13 ∨ c = 14 ∨ c = 22 ∨ c = 31 ∨ c = 32 then some [97, 116]
  else if c = 24 ∨ c = 27 then some [116, 97, 103]
  else none

/-- an own value is asked: its parts must not be shared -/
def fin (o f : Bool) (d : D) (δ : Env) : Out := if o && !(if f then d.kids else d.imm) then .bad else .ok d δ
@[simp] theorem fin_false (f d δ) : fin false f d δ = .ok d δ := rfl
def opt (r : Option D) (f : D → Out) : Out := match r with
  | some d => f d
  | none => .bad
@[simp] theorem opt_some (d f) : opt (some d) f = f d := rfl
@[simp] theorem opt_none (f) : opt none f = .bad := rfl
def slot (δ : Env) (i : Nat) : Option Sl := match δ[i]? with
  | some s => s
  | none => none
mutual
def bindT : Tg → D → Env → Option Env
  | .nm o i, d, δ => if i < δ.length then some (δ.set i (some (if o then .ow d else .sh d))) else none
  | .tp ts, .tup xs, δ => bindTs ts xs δ
  | .tp _, _, _ => none
def bindTs : List Tg → List D → Env → Option Env
  | [], [], δ => some δ
  | t :: ts, x :: xs, δ => (bindT t x δ).bind fun δ' => bindTs ts xs δ'
  | _, _, _ => none
end
mutual
def tgSlots : Tg → List Nat
  | .nm _ i => [i]
  | .tp ts => tgsSlots ts
def tgsSlots : List Tg → List Nat
  | [] => []
  | t :: ts => tgSlots t ++ tgsSlots ts
end
def clr (is : List Nat) (δ : Env) : Env := is.foldl (fun e i => e.set i none) δ
/-- no slot among these is owned -/
def noOw (is : List Nat) (δ : Env) : Bool := is.all fun i => match slot δ i with
  | some (.ow _) => false
  | _ => true
/-- the slots that a comprehension has for itself are as they were -/
def restore (is : List Nat) (δ δ' : Env) : Env := is.foldl (fun e i => e.set i (slot δ i)) δ'
/-- the elements of a comprehension, one item behind the other -/
def mapGo (f : D → Env → OutL) : List D → Env → OutL
  | [], δ => .ok [] δ
  | x :: xs, δ => match f x δ with
    | .ok ds δ1 => match mapGo f xs δ1 with
      | .ok es δ2 => .ok (ds ++ es) δ2
      | .er _ _ => .bad
      | .bad => .bad
    | .er _ _ => .bad
    | .bad => .bad
/-- the tests of a comprehension, then its element -/
def forGo (f : D → Env → Fl) : List D → Env → Fl
  | [], δ => .nx δ
  | x :: xs, δ => match f x δ with
    | .nx δ1 => forGo f xs δ1
    | .ct δ1 => forGo f xs δ1
    | .bk δ1 => .nx δ1
    | .rt d δ1 => .rt d δ1
    | .er d δ1 => .er d δ1
    | .bad => .bad
def wloop (c : Env → Out) (b : Env → Fl) : Nat → Env → Fl
  | 0, _ => .bad
  | n + 1, δ => match c δ with
    | .ok d δ1 => match truth d with
      | some true => match b δ1 with
        | .nx δ2 => wloop c b n δ2
        | .ct δ2 => wloop c b n δ2
        | .bk δ2 => .nx δ2
        | .rt d δ2 => .rt d δ2
        | .er d δ2 => .er d δ2
        | .bad => .bad
      | some false => .nx δ1
      | none => .bad
    | .er d δ1 => .er d δ1
    | .bad => .bad
def FUEL : Nat := 1073741824
/-- the sub-value at a key -/
def subOf (o k : D) : Option D := match o with
  | .lst xs => match k with
    | .int i => (place xs.length i).bind fun n => xs[n]?
    | _ => none
  | .dct ks vs => if keyOk k then dget ks vs k else none
  | _ => none
/-- the sub-value at a key, exchanged for another one -/
def subPut (o k v : D) : Option D := match o with
  | .lst xs => match k with
    | .int i => (place xs.length i).map fun n => .lst (xs.set n v)
    | _ => none
  | .dct ks vs => if keyOk k && decide (ks.length < LINE) then some (.dct (dput ks vs k v).1 (dput ks vs k v).2) else none
  | _ => none
/-- deeper within: the path is there -/
def subPutIn (o k v : D) : Option D := match o with
  | .lst xs => match k with
    | .int i => (place xs.length i).map fun n => .lst (xs.set n v)
    | _ => none
  | .dct ks vs => if keyOk k && dhas ks k then some (.dct ks (dputV ks vs k v)) else none
  | _ => none
def getAt (d : D) : List D → Option D
  | [] => some d
  | k :: ks => (subOf d k).bind fun x => getAt x ks
def putAt (d : D) : List D → D → Option D
  | [], y => some y
  | k :: ks, y => (subOf d k).bind fun x => (putAt x ks y).bind fun x' => subPutIn d k x'
/-- plain keys of a path -/
def evIx : Ex → Env → Option D
  | .cst d, _ => some d
  | .var i, δ => match slot δ i with
    | some (.sh d) => some d
    | _ => none
  | .neg a, δ => match evIx a δ with
    | some (.int i) => some (.int (-i))
    | _ => none
  | _, _ => none
def Pa.keys : Pa → Env → Option (List D)
  | .v _, _ => some []
  | .ix p e, δ => (p.keys δ).bind fun ks => (evIx e δ).map fun k => ks ++ [k]
def Pa.root : Pa → Nat
  | .v i => i
  | .ix p _ => p.root
/-- built-ins that make a new list or dict -/
def Bi.fresh : Bi → Bool
  | .list | .sorted | .dict | .listRange1 | .tupleRange1 => true
  | _ => false
def isBor : Ex → Bool
  | .bor _ => true
  | _ => false
def Exs.hasBor : Exs → Bool
  | .nil => false
  | .cons e es => isBor e || es.hasBor
def As.hasBor : As → Bool
  | .nil => false
  | .val e r => isBor e || r.hasBor
  | .io _ r => r.hasBor
def endOf : List D → Option (Option Int)
  | [] => some none
  | [.int i] => some (some i)
  | _ => none
/-- a dict from keys and values by turns; later ones win -/
def mkDctGo : List D → List D → List D → Option (List D × List D)
  | [], ks, vs => some (ks, vs)
  | k :: v :: r, ks, vs => if keyOk k then mkDctGo r (dput ks vs k v).1 (dput ks vs k v).2 else none
  | _, _, _ => none
def mkDct (xs : List D) : Option D := if decide (xs.length ≤ 30) then (mkDctGo xs [] []).map fun p => .dct p.1 p.2 else none
def getP (p : Pa) (δ : Env) : Option D := match slot δ p.root with
  | some (.ow d) => (p.keys δ).bind fun ks => getAt d ks
  | _ => none
def setP (p : Pa) (y : D) (δ : Env) : Option Env := match slot δ p.root with
  | some (.ow d) => (p.keys δ).bind fun ks => (putAt d ks y).map fun d' => δ.set p.root (some (.ow d'))
  | _ => none
/-- all arguments, by the modes of the parameters -/
def argsOf : As → List Bool → List D → Env → Option (List D)
  | .nil, [], [], _ => some []
  | .val _ r, false :: ms, x :: xs, δ => (argsOf r ms xs δ).map (x :: ·)
  | .io p r, true :: ms, xs, δ => match getP p δ with
    | some x => (argsOf r ms xs δ).map (x :: ·)
    | none => none
  | _, _, _, _ => none
/-- what was lent comes back -/
def putOs : As → List D → Env → Option Env
  | .nil, [], δ => some δ
  | .val _ r, os, δ => putOs r os δ
  | .io p r, x :: os, δ => match setP p x δ with
    | some δ' => putOs r os δ'
    | none => none
  | _, _, _ => none
abbrev CF := Nat → List D → CRes
section
variable (Φ : Nat → Option Fn) (cf : CF)
mutual
def ev : Ex → Bool → Env → Out
  | .cst d, _, δ => .ok d δ
  | .var i, o, δ => match slot δ i with
    | some (.sh d) => fin o false d δ
    | some (.ow d) => if o then .ok d (δ.set i none) else .ok d (δ.set i (some (.sh d)))
    | none => .bad
  | .bor p, o, δ => opt (getP p δ) fun d => if o then .bad else .ok d δ
  | .bin op a b, o, δ => (ev a false δ).then fun x δ1 => (ev b false δ1).then fun y δ2 => opt (binS op x y) fun r => if (isBor a || isBor b) && !r.kids then .bad else fin o true r δ2
  | .neg a, _, δ => (ev a false δ).then fun x δ1 => match x with
    | .int i => .ok (.int (-i)) δ1
    | _ => .bad
  | .not_ a, _, δ => (ev a false δ).then fun x δ1 => match truth x with
    | some b => .ok (.bl (!b)) δ1
    | none => .bad
  | .and_ a b, o, δ => (ev a false δ).then fun x δ1 => match truth x with
    | some true => ev b o δ1
    | some false => fin o false x δ1
    | none => .bad
  | .or_ a b, o, δ => (ev a false δ).then fun x δ1 => match truth x with
    | some true => fin o false x δ1
    | some false => ev b o δ1
    | none => .bad
  | .cmp op a b, _, δ => (ev a false δ).then fun x δ1 => (ev b false δ1).then fun y δ2 => match cmpS op x y with
    | some r => .ok (.bl r) δ2
    | none => .bad
  | .chn op op' a b c, _, δ => (ev a false δ).then fun x δ1 => (ev b false δ1).then fun y δ2 => match cmpS op x y with
    | some true => (ev c false δ2).then fun z δ3 => match cmpS op' y z with
      | some r => .ok (.bl r) δ3
      | none => .bad
    | some false => .ok (.bl false) δ2
    | none => .bad
  | .ite c a b, o, δ => (ev c false δ).then fun x δ1 => match truth x with
    | some true => ev a o δ1
    | some false => ev b o δ1
    | none => .bad
  | .tup es, o, δ => (evs es o δ).then fun xs δ1 => opt (okTup xs) fun r => .ok r δ1
  | .lst es, o, δ => (evs es o δ).then fun xs δ1 => opt (okLst xs) fun r => .ok r δ1
  | .dct _ kv, o, δ => (evs2 kv o δ).then fun xs δ1 => opt (mkDct xs) fun r => .ok r δ1
  | .call f es, o, δ => match Φ f with
    | some fn => (evA es δ).then fun xs δ1 => match argsOf es fn.ow xs δ1 with
      | some ds => match cf f ds with
        | .rt r os => match putOs es os δ1 with
          | some δ2 => if fn.ro then .ok r δ2 else if (o || es.hasBor) && !r.imm then .bad else .ok r δ2
          | none => .bad
        | .er x os => match putOs es os δ1 with
          | some δ2 => if x.excI then .er x δ2 else .bad
          | none => .bad
        | .bad => .bad
      | none => .bad
    | none => .bad
  | .bi b es, o, δ => (evs es false δ).then fun xs δ1 => opt (biS b xs) fun r => if es.hasBor && !(if b.fresh then r.kids else r.imm) then .bad else fin o b.fresh r δ1
  | .mt m a es, o, δ => (ev a false δ).then fun x δ1 => (evs es false δ1).then fun xs δ2 => opt (mtS m x xs) fun r => if (isBor a || es.hasBor) && !r.imm then .bad else fin o false r δ2
  | .pm m p es, o, δ => match getP p δ with
    | some x0 => if x0.isL == m.isL then (evs es true δ).then fun xs δ1 => match getP p δ1 with
      | some x => match pmS m x xs with
        | some (r, x') => match setP p x' δ1 with
          | some δ2 => .ok r δ2
          | none => .bad
        | none => .bad
      | none => .bad else .bad
    | none => .bad
  | .idx a i, o, δ => (ev a false δ).then fun x δ1 => (ev i false δ1).then fun k δ2 => opt (idxS x k) fun r => if isBor a && !r.imm then .bad else fin o false r δ2
  | .slc a lo hi, o, δ => (ev a false δ).then fun x δ1 => (evs lo false δ1).then fun l δ2 => match endOf l with
    | some l => (evs hi false δ2).then fun h δ3 => match endOf h with
      | some h => opt (slcS x l h) fun r => if isBor a && !r.kids then .bad else fin o true r δ3
      | none => .bad
    | none => .bad
  | .rev a, o, δ => (ev a false δ).then fun x δ1 => match x with
    | .lst xs => if isBor a && !immAll xs then .bad else fin o true (.lst xs.reverse) δ1
    | _ => .bad
  | .lc t it cs e, o, δ => (evIt it δ).then fun xs δ1 => if noOw (tgSlots t) δ1 then
      (mapGo (fun x δ2 => match bindT t x (clr (tgSlots t) δ2) with
        | some δ3 => condGo cs (fun δ4 => (ev e false δ4).thenL fun d δ5 => .ok [d] δ5) δ3
        | none => .bad) xs δ1).then fun ds δ6 => opt (okLst ds) fun r => fin o true r (restore (tgSlots t) δ1 δ6) else .bad
  | .lc2 _ _ _ _ _ _, _, _ => .bad
  | .dc _ _ _ _ _ _, _, _ => .bad
  | .isi e ts, _, δ => (ev e false δ).then fun x δ1 => match tyAny x ts with
    | some b => .ok (.bl b) δ1
    | none => .bad
  | .fld e n, o, δ => (ev e false δ).then fun x δ1 => match x with
    | .exc c [y] => if exFld c = some n then fin o false y δ1 else .bad
    | _ => .bad
  | .caught e, o, δ => match ev e false δ with
    | .ok _ δ1 => .ok .non δ1
    | .er x δ1 => if o then .bad else .ok x δ1
    | .bad => .bad
def evs : Exs → Bool → Env → OutL
  | .nil, _, δ => .ok [] δ
  | .cons e es, o, δ => (ev e o δ).thenL fun x δ1 => (evs es o δ1).thenL fun xs δ2 => .ok (x :: xs) δ2
/-- keys and values by turns -/
def evs2 : Kv → Bool → Env → OutL
  | .nil, _, δ => .ok [] δ
  | .cons k v r, o, δ => (ev k false δ).thenL fun x δ1 => (ev v o δ1).thenL fun y δ2 => (evs2 r o δ2).thenL fun xs δ3 => .ok (x :: y :: xs) δ3
/-- arguments: those that are values; what is lent must be there -/
def evA : As → Env → OutL
  | .nil, δ => .ok [] δ
  | .io p r, δ => match getP p δ with
    | some _ => evA r δ
    | none => .bad
  | .val e r, δ => (ev e false δ).thenL fun x δ1 => (evA r δ1).thenL fun xs δ2 => .ok (x :: xs) δ2
def evIt : It → Env → OutL
  | .over e, δ => (ev e false δ).thenL fun x δ1 => match itemsOf x with
    | some xs => if isBor e && !immAll xs then .bad else .ok xs δ1
    | none => .bad
  | .rng1 a, δ => (ev a false δ).thenL fun x δ1 => match x with
    | .int n => if decide (-(2 ^ 62) ≤ n ∧ n < 2 ^ 62) then .ok (upTo n.toNat) δ1 else .bad
    | _ => .bad
  | .rng2 a b, δ => (ev a false δ).thenL fun x δ1 => (ev b false δ1).thenL fun y δ2 => match x, y with
    | .int i, .int j => if decide (-(2 ^ 62) ≤ i ∧ i < 2 ^ 62 ∧ -(2 ^ 62) ≤ j ∧ j < 2 ^ 62) then .ok ((List.range (j - i).toNat).map fun (k : Nat) => D.int (i + (k : Int))) δ2 else .bad
    | _, _ => .bad
  | .rng3 _ _ _, _ => .bad
  | .enu e, δ => (ev e false δ).thenL fun x δ1 => match seqOf x with
    | some xs => if isBor e && !immAll xs then .bad else .ok (xs.zipIdx.map fun p => .tup [.int (p.2 : Nat), p.1]) δ1
    | none => .bad
  | .zip a b, δ => (ev a false δ).thenL fun x δ1 => (ev b false δ1).thenL fun y δ2 => match seqOf x, seqOf y with
    | some xs, some ys => if (isBor a || isBor b) && !(immAll xs && immAll ys) then .bad else .ok ((xs.zip ys).map fun p => .tup [p.1, p.2]) δ2
    | _, _ => .bad
  | .items _, _ => .bad
  | .vals _, _ => .bad
/-- tests, one behind the other; where all hold, k -/
def condGo : Exs → (Env → OutL) → Env → OutL
  | .nil, k, δ => k δ
  | .cons c cs, k, δ => (ev c false δ).thenL fun x δ1 => match truth x with
    | some true => condGo cs k δ1
    | some false => .ok [] δ1
    | none => .bad
end
/-- values by modes -/
def evM : Exs → List (Bool × Nat) → Env → OutL
  | .nil, ms, δ => if ms.isEmpty then .ok [] δ else .bad
  | .cons e es, ms, δ => match ms with
    | m :: ms => (ev Φ cf e m.1 δ).thenL fun x δ1 => (evM es ms δ1).thenL fun xs δ2 => .ok (x :: xs) δ2
    | [] => .bad
def storeAll : List (Bool × Nat) → List D → Env → Option Env
  | [], [], δ => some δ
  | t :: ts, x :: xs, δ => (bindT (.nm t.1 t.2) x δ).bind fun δ' => storeAll ts xs δ'
  | _, _, _ => none
def augOk (op : BOp) (a b : D) : Bool := match a, b with
  | .int _, .int _ => match op with
    | .pow => false
    | _ => true
  | .str _, .str _ => true
  | _, _ => false
def notLst : D → Bool
  | .lst _ => false
  | _ => true
mutual
def ex (ro : Bool) : S → Env → Fl
  | .set i e, δ => (ev Φ cf e false δ).thenF fun d δ1 => match bindT (.nm false i) d δ1 with
    | some δ2 => .nx δ2
    | none => .bad
  | .own i e, δ => (ev Φ cf e true δ).thenF fun d δ1 => match bindT (.nm true i) d δ1 with
    | some δ2 => .nx δ2
    | none => .bad
  | .unp o t e, δ => (ev Φ cf e o δ).thenF fun d δ1 => match bindT t d δ1 with
    | some δ2 => .nx δ2
    | none => .bad
  | .par ts es, δ => (evM Φ cf es ts δ).thenF fun ds δ1 => match storeAll ts ds δ1 with
    | some δ2 => .nx δ2
    | none => .bad
  | .pset p i e, δ => (ev Φ cf e true δ).thenF fun d δ1 => match getP p δ1 with
    | some _ => (ev Φ cf i false δ1).thenF fun k δ2 => match (getP p δ2).bind fun o => (subPut o k d).bind fun o' => setP p o' δ2 with
      | some δ3 => .nx δ3
      | none => .bad
    | none => .bad
  | .paug p i op e, δ => (ev Φ cf i false δ).thenF fun k δ1 => match (getP p δ1).bind fun o => subOf o k with
    | some old => if old.imm then (ev Φ cf e false δ1).thenF fun d δ2 => match (binS op old d).bind fun z => (getP p δ2).bind fun o => (subPutIn o k z).bind fun o' => setP p o' δ2 with
      | some δ3 => .nx δ3
      | none => .bad else .bad
    | none => .bad
  | .aug i op e, δ => match slot δ i with
    | some (.sh old) => if notLst old then (ev Φ cf e false δ).thenF fun d δ1 => match binS op old d with
      | some z => match (if augOk op old d then bindT (.nm false i) z δ1 else none) with
        | some δ2 => .nx δ2
        | none => .bad
      | none => .bad else .bad
    | _ => .bad
  | .exp e, δ => (ev Φ cf e false δ).thenF fun _ δ1 => .nx δ1
  | .ret e, δ => (ev Φ cf e ro δ).thenF fun d δ1 => .rt d δ1
  | .ifs c a b, δ => (ev Φ cf c false δ).thenF fun d δ1 => match truth d with
    | some true => exs ro a δ1
    | some false => exs ro b δ1
    | none => .bad
  | .whl c b, δ => wloop (fun δ => ev Φ cf c false δ) (fun δ => exs ro b δ) FUEL δ
  | .forr t it b, δ => (evIt Φ cf it δ).thenF fun xs δ1 => forGo (fun x δ2 => match bindT t x δ2 with
    | some δ3 => exs ro b δ3
    | none => .bad) xs δ1
  | .brk, δ => .bk δ
  | .cnt, δ => .ct δ
  | .pas, δ => .nx δ
  | .rais c es, δ => (evs Φ cf es false δ).thenF fun ds δ1 => if decide (ds.length = if (exFld c).isSome then 1 else 0) && immAll ds then .er (.exc c ds) δ1 else .bad
def exs (ro : Bool) : Ss → Env → Fl
  | .nil, δ => .nx δ
  | .cons s ss, δ => match ex ro s δ with
    | .nx δ1 => exs ro ss δ1
    | f => f
end
end
/-- the slots at a call -/
def startE (fn : Fn) (ds : List D) : Env := ((fn.ow.zip ds).map fun p => some (if p.1 then Sl.ow p.2 else Sl.sh p.2)) ++ List.replicate (fn.sz - ds.length) none
/-- the own parameters behind a call -/
def outsE : List Bool → Nat → Env → Option (List D)
  | [], _, _ => some []
  | false :: ms, i, δ => outsE ms (i + 1) δ
  | true :: ms, i, δ => match slot δ i with
    | some (.ow d) => (outsE ms (i + 1) δ).map (d :: ·)
    | _ => none
def endF (fn : Fn) (f : Fl) : CRes := match f with
  | .nx δ => match outsE fn.ow 0 δ with
    | some os => .rt .non os
    | none => .bad
  | .rt d δ => match outsE fn.ow 0 δ with
    | some os => .rt d os
    | none => .bad
  | .er x δ => match outsE fn.ow 0 δ with
    | some os => .er x os
    | none => .bad
  | _ => .bad
def callF (Φ : Nat → Option Fn) : Nat → CF
  | 0, _, _ => .bad
  | n + 1, f, ds => match Φ f with
    | some fn => if ds.length = fn.ow.length ∧ fn.ow.length ≤ fn.sz then endF fn (exs Φ (callF Φ n) fn.ro fn.body (startE fn ds)) else .bad
    | none => .bad
end PyI

set_option Elab.async false
set_option linter.all false
set_option maxRecDepth 100000
set_option maxHeartbeats 4000000
namespace PyI
def g_SMALL : D := (.str [97, 98, 99, 100, 101, 102, 103, 104, 105, 106, 107, 108, 109, 110, 111, 112, 113, 114, 115, 116, 117, 118, 119, 120, 121, 122])
def g_KEPT : D := (.tup [(.str [105, 100]), (.str [115, 119, 97, 112]), (.str [100, 111, 116])])
def g_MOST_LETTERS : D := (.int 8)
def g_GREAT : D := (.str [65, 66, 67, 68, 69, 70, 71, 72, 73, 74, 75, 76, 77, 78, 79, 80, 81, 82, 83, 84, 85, 86, 87, 88, 89, 90])
def g_LETTERS : D := (.str [97, 98, 99, 100, 101, 102, 103, 104, 105, 106, 107, 108, 109, 110, 111, 112, 113, 114, 115, 116, 117, 118, 119, 120, 121, 122, 65, 66, 67, 68, 69, 70, 71, 72, 73, 74, 75, 76, 77, 78, 79, 80, 81, 82, 83, 84, 85, 86, 87, 88, 89, 90])
def g_FIGURES : D := (.str [48, 49, 50, 51, 52, 53, 54, 55, 56, 57])
def g_SIGNS : D := (.str [40, 41, 44, 59, 124])
def g_MOST_SIGNS : D := (.int 40000)
def f_is_row_of_small_e1 : Ex :=
  (.cmp .in_ (.var 1) (.cst g_SMALL))
def f_is_row_of_small : Fn :=
  { ow := [false], sz := 2, ro := false, body := (.cons (.ret (.and_ (.isi (.var 0) [.str]) (.bi .all (.cons (.lc (.nm false 1) (.over (.var 0)) .nil f_is_row_of_small_e1) .nil))))
    .nil) }
def f_is_kind : Fn :=
  { ow := [false], sz := 1, ro := false, body := (.cons (.ret (.and_ (.call 0 (.val (.var 0) .nil)) (.and_ (.chn .le .le (.cst (.int 1)) (.bi .len (.cons (.var 0) .nil)) (.cst g_MOST_LETTERS)) (.cmp .nin (.var 0) (.cst g_KEPT)))))
    .nil) }
def f_is_word : Fn :=
  { ow := [false], sz := 1, ro := false, body := (.cons (.ifs (.or_ (.not_ (.isi (.var 0) [.str])) (.not_ (.chn .le .le (.cst (.int 1)) (.bi .len (.cons (.var 0) .nil)) (.cst g_MOST_LETTERS)))) (.cons (.ret (.cst (.bl false)))
    .nil) .nil)
    (.cons (.ret (.and_ (.cmp .in_ (.idx (.var 0) (.cst (.int 0))) (.cst g_GREAT)) (.call 0 (.val (.slc (.var 0) (.cons (.cst (.int 1)) .nil) .nil) .nil))))
    .nil)) }
def f_end_of_letters_e1 : Ex :=
  (.and_ (.cmp .lt (.var 2) (.bi .len (.cons (.var 0) .nil))) (.cmp .in_ (.idx (.var 0) (.var 2)) (.cst g_LETTERS)))
def f_end_of_letters_b1 : Ss :=
  (.cons (.aug 2 .add (.cst (.int 1)))
    .nil)
def f_end_of_letters : Fn :=
  { ow := [false, false], sz := 3, ro := false, body := (.cons (.set 2 (.var 1))
    (.cons (.whl f_end_of_letters_e1 f_end_of_letters_b1)
    (.cons (.ret (.var 2))
    .nil))) }
def f_token_at : Fn :=
  { ow := [false, false], sz := 3, ro := false, body := (.cons (.ifs (.or_ (.cmp .in_ (.idx (.var 0) (.var 1)) (.cst g_SIGNS)) (.cmp .in_ (.idx (.var 0) (.var 1)) (.cst g_FIGURES))) (.cons (.ret (.idx (.var 0) (.var 1)))
    .nil) .nil)
    (.cons (.set 2 (.slc (.var 0) (.cons (.var 1) .nil) (.cons (.call 3 (.val (.var 0) (.val (.var 1) .nil))) .nil)))
    (.cons (.ifs (.or_ (.call 1 (.val (.var 2) .nil)) (.or_ (.call 2 (.val (.var 2) .nil)) (.cmp .in_ (.var 2) (.cst g_KEPT)))) (.cons (.ret (.var 2))
    .nil) .nil)
    (.cons (.rais 9 (.cons (.var 1) .nil))
    .nil)))) }
def f_tokens_of_e1 : Ex :=
  (.cmp .lt (.var 2) (.bi .len (.cons (.var 0) .nil)))
def f_tokens_of_b1 : Ss :=
  (.cons (.ifs (.cmp .in_ (.idx (.var 0) (.var 2)) (.cst (.str [32, 10]))) (.cons (.aug 2 .add (.cst (.int 1)))
    .nil) (.cons (.set 3 (.call 4 (.val (.var 0) (.val (.var 2) .nil))))
    (.cons (.exp (.pm .append (.v 1) (.cons (.tup (.cons (.var 3) (.cons (.var 2) .nil))) .nil)))
    (.cons (.aug 2 .add (.bi .len (.cons (.var 3) .nil)))
    .nil))))
    .nil)
def f_tokens_of : Fn :=
  { ow := [false], sz := 4, ro := false, body := (.cons (.ifs (.or_ (.not_ (.isi (.var 0) [.str])) (.cmp .gt (.bi .len (.cons (.var 0) .nil)) (.cst g_MOST_SIGNS))) (.cons (.rais 9 (.cons (.cst (.int 0)) .nil))
    .nil) .nil)
    (.cons (.par [(true, 1), (false, 2)] (.cons (.lst .nil) (.cons (.cst (.int 0)) .nil)))
    (.cons (.whl f_tokens_of_e1 f_tokens_of_b1)
    (.cons (.ret (.var 1))
    .nil)))) }
def f__law_begun_e1 : Ex :=
  (.bi .abs (.cons (.var 2) .nil))
def f__law_begun_c1 : Exs :=
  (.cons (.cmp .ge (.bi .abs (.cons (.var 2) .nil)) (.bin .pow (.cst (.int 10)) (.cst (.int 18)))) .nil)
def f__law_begun_e2 : Ex :=
  (.bin .sub (.bi .abs (.cons (.var 2) .nil)) (.bin .pow (.cst (.int 10)) (.cst (.int 18))))
def f__law_begun : Fn :=
  { ow := [false], sz := 3, ro := true, body := (.cons (.own 1 (.lc (.nm false 2) (.over (.var 0)) f__law_begun_c1 f__law_begun_e2))
    (.cons (.ret (.dct false (.cons (.cst (.str [108, 97, 114, 103, 101])) (.var 1) (.cons (.cst (.str [99, 101, 108, 108, 115])) (.lc (.nm false 2) (.over (.var 0)) .nil f__law_begun_e1) (.cons (.cst (.str [114, 101, 115, 116])) (.cst (.int 0)) (.cons (.cst (.str [116, 117, 114, 110])) (.cst (.int 0)) .nil))))))
    .nil)) }
def f__law_blend_b1 : Ss :=
  (.cons (.set 4 (.bin .mod (.bi .int (.cons (.bin .add (.bin .add (.bin .mul (.var 4) (.cst (.int 48271))) (.bi .int (.cons (.var 5) .nil))) (.cst (.int 5))) .nil)) (.var 1)))
    .nil)
def f__law_blend_b2 : Ss :=
  (.cons (.set 4 (.bin .mod (.bi .int (.cons (.bin .add (.bin .mul (.var 2) (.cst (.int 69621))) (.bin .fdiv (.var 1) (.cst (.int 13)))) .nil)) (.var 1)))
    (.cons (.forr (.nm false 5) (.over (.bor (.ix (.v 0) (.cst (.str [99, 101, 108, 108, 115]))))) f__law_blend_b1)
    (.cons (.set 3 (.bin .add (.bin .mul (.var 3) (.cst (.int 2147483647))) (.bin .mod (.bi .int (.cons (.bin .pow (.var 4) (.cst (.int 5))) .nil)) (.var 1))))
    .nil)))
def f__law_blend : Fn :=
  { ow := [true], sz := 6, ro := true, body := (.cons (.par [(false, 2), (false, 3)] (.cons (.bin .add (.bor (.ix (.v 0) (.cst (.str [116, 117, 114, 110])))) (.cst (.int 1))) (.cons (.cst (.int 0)) .nil)))
    (.cons (.pset (.v 0) (.cst (.str [116, 117, 114, 110])) (.var 2))
    (.cons (.forr (.nm false 1) (.over (.lst (.cons (.cst (.int 2147483629)) (.cons (.cst (.int 2147483587)) (.cons (.cst (.int 2147483579)) .nil))))) f__law_blend_b2)
    (.cons (.ret (.var 3))
    .nil)))) }
def f__law_take_e1 : Ex :=
  (.and_ (.cmp .eq (.bor (.ix (.v 0) (.cst (.str [114, 101, 115, 116])))) (.cst (.int 0))) (.cmp .ne (.bor (.ix (.v 0) (.cst (.str [108, 97, 114, 103, 101])))) (.lst .nil)))
def f__law_take_b1 : Ss :=
  (.cons (.pset (.v 0) (.cst (.str [114, 101, 115, 116])) (.pm .popAt (.ix (.v 0) (.cst (.str [108, 97, 114, 103, 101]))) (.cons (.cst (.int 0)) .nil)))
    .nil)
def f__law_take : Fn :=
  { ow := [true, false], sz := 3, ro := false, body := (.cons (.whl f__law_take_e1 f__law_take_b1)
    (.cons (.ifs (.cmp .eq (.bor (.ix (.v 0) (.cst (.str [114, 101, 115, 116])))) (.cst (.int 0))) (.cons (.pset (.v 0) (.cst (.str [114, 101, 115, 116])) (.call 1001 (.io (.v 0) .nil)))
    .nil) .nil)
    (.cons (.set 2 (.bin .mod (.bi .int (.cons (.bor (.ix (.v 0) (.cst (.str [114, 101, 115, 116])))) .nil)) (.var 1)))
    (.cons (.pset (.v 0) (.cst (.str [114, 101, 115, 116])) (.bin .fdiv (.bi .int (.cons (.bor (.ix (.v 0) (.cst (.str [114, 101, 115, 116])))) .nil)) (.var 1)))
    (.cons (.ret (.var 2))
    .nil))))) }
def f__law_pick : Fn :=
  { ow := [true, false], sz := 2, ro := false, body := (.cons (.ret (.idx (.var 1) (.call 1002 (.io (.v 0) (.val (.bi .len (.cons (.var 1) .nil)) .nil)))))
    .nil) }
def f__law_same : Fn :=
  { ow := [false, false], sz := 2, ro := false, body := (.cons (.ret (.cmp .eq (.bi .repr (.cons (.var 0) .nil)) (.bi .repr (.cons (.var 1) .nil))))
    .nil) }
def f__law_tokens_e1 : Ex :=
  (.cmp .lt (.var 4) (.bi .len (.cons (.var 0) .nil)))
def f__law_tokens_c1 : Exs :=
  (.cons (.cmp .nin (.var 8) (.var 1)) .nil)
def f__law_tokens_e2 : Ex :=
  (.cst (.int 1))
def f__law_tokens_e3 : Ex :=
  (.and_ (.cmp .lt (.var 6) (.bi .len (.cons (.var 0) .nil))) (.cmp .in_ (.idx (.var 0) (.var 6)) (.bin .add (.var 1) (.var 2))))
def f__law_tokens_b1 : Ss :=
  (.cons (.set 6 (.bin .add (.var 6) (.cst (.int 1))))
    .nil)
def f__law_tokens_b2 : Ss :=
  (.cons (.par [(false, 5), (false, 6)] (.cons (.idx (.var 0) (.var 4)) (.cons (.bin .add (.var 4) (.cst (.int 1))) .nil)))
    (.cons (.ifs (.cmp .in_ (.var 5) (.bin .add (.var 1) (.var 2))) (.cons (.whl f__law_tokens_e3 f__law_tokens_b1)
    (.cons (.set 7 (.slc (.var 0) (.cons (.var 4) .nil) (.cons (.var 6) .nil)))
    (.cons (.ifs (.or_ (.cmp .gt (.bi .len (.cons (.var 7) .nil)) (.cst (.int 8))) (.cmp .ne (.lc (.nm false 8) (.over (.slc (.var 7) (.cons (.cst (.int 1)) .nil) .nil)) f__law_tokens_c1 f__law_tokens_e2) (.lst .nil))) (.cons (.ret (.var 4))
    .nil) .nil)
    (.cons (.exp (.pm .append (.v 3) (.cons (.tup (.cons (.var 7) (.cons (.var 4) .nil))) .nil)))
    .nil)))) (.cons (.ifs (.cmp .in_ (.var 5) (.cst (.str [40, 41, 44, 59, 124, 48, 49, 50, 51, 52, 53, 54, 55, 56, 57]))) (.cons (.exp (.pm .append (.v 3) (.cons (.tup (.cons (.var 5) (.cons (.var 4) .nil))) .nil)))
    .nil) (.cons (.ifs (.cmp .nin (.var 5) (.lst (.cons (.cst (.str [32])) (.cons (.cst (.str [10])) .nil)))) (.cons (.ret (.var 4))
    .nil) .nil)
    .nil))
    .nil))
    (.cons (.set 4 (.var 6))
    .nil)))
def f__law_tokens : Fn :=
  { ow := [false], sz := 9, ro := false, body := (.cons (.par [(false, 1), (false, 2)] (.cons (.cst (.str [97, 98, 99, 100, 101, 102, 103, 104, 105, 106, 107, 108, 109, 110, 111, 112, 113, 114, 115, 116, 117, 118, 119, 120, 121, 122])) (.cons (.cst (.str [65, 66, 67, 68, 69, 70, 71, 72, 73, 74, 75, 76, 77, 78, 79, 80, 81, 82, 83, 84, 85, 86, 87, 88, 89, 90])) .nil)))
    (.cons (.par [(true, 3), (false, 4)] (.cons (.lst .nil) (.cons (.cst (.int 0)) .nil)))
    (.cons (.whl f__law_tokens_e1 f__law_tokens_b2)
    (.cons (.ret (.var 3))
    .nil)))) }
def f__law_pieces_e1 : Ex :=
  (.call 1003 (.io (.v 0) (.val (.ite (.cmp .eq (.call 1002 (.io (.v 0) (.val (.cst (.int 9)) .nil))) (.cst (.int 0))) (.var 2) (.var 1)) .nil)))
def f__law_pieces : Fn :=
  { ow := [true], sz := 4, ro := false, body := (.cons (.set 1 (.lst (.cons (.cst (.str [105, 100])) (.cons (.cst (.str [115, 119, 97, 112])) (.cons (.cst (.str [100, 111, 116])) (.cons (.cst (.str [97])) (.cons (.cst (.str [98])) (.cons (.cst (.str [107, 105, 110, 100, 115])) (.cons (.cst (.str [70])) (.cons (.cst (.str [71])) (.cons (.cst (.str [77, 109])) (.cons (.cst (.str [40])) (.cons (.cst (.str [41])) (.cons (.cst (.str [44])) (.cons (.cst (.str [59])) (.cons (.cst (.str [124])) (.cons (.cst (.str [48])) (.cons (.cst (.str [49, 50])) (.cons (.cst (.str [55])) (.cons (.cst (.str [32])) (.cons (.cst (.str [10])) (.cons (.cst (.str [32, 32])) (.cons (.cst (.str [120])) (.cons (.cst (.str [97, 98, 99, 100, 101, 102, 103, 104])) .nil))))))))))))))))))))))))
    (.cons (.set 2 (.lst (.cons (.cst (.str [65, 49])) (.cons (.cst (.str [97, 66])) (.cons (.cst (.str [70, 71])) (.cons (.cst (.str [97, 98, 99, 100, 101, 102, 103, 104, 105])) (.cons (.cst (.str [70, 97, 98, 99, 100, 101, 102, 103, 104])) (.cons (.cst (.str [95])) (.cons (.cst (.str [43])) (.cons (.cst (.str [9])) (.cons (.cst (.str [70, 50])) (.cons (.cst (.str [49, 97])) (.cons (.cst (.str [45])) (.cons (.cst (.str [46])) .nil))))))))))))))
    (.cons (.ret (.mt .join (.cst (.str [])) (.cons (.lc (.nm false 3) (.rng1 (.call 1002 (.io (.v 0) (.val (.cst (.int 14)) .nil)))) .nil f__law_pieces_e1) .nil)))
    .nil))) }
def f_law_b1 : Ss :=
  (.cons (.set 5 (.call 1006 (.io (.v 1) .nil)))
    (.cons (.set 6 (.call 1005 (.val (.var 5) .nil)))
    (.cons (.ifs (.isi (.var 6) [.int]) (.cons (.set 4 (.caught (.call 5 (.val (.var 5) .nil))))
    (.cons (.ifs (.or_ (.not_ (.isi (.var 4) [.err 9])) (.not_ (.call 1004 (.val (.fld (.var 4) [97, 116]) (.val (.var 6) .nil))))) (.cons (.ret (.cst (.bl false)))
    .nil) .nil)
    .nil)) (.cons (.ifs (.not_ (.call 1004 (.val (.call 5 (.val (.var 5) .nil)) (.val (.var 6) .nil)))) (.cons (.ret (.cst (.bl false)))
    .nil) .nil)
    .nil))
    .nil)))
def f_law : Fn :=
  { ow := [false], sz := 7, ro := false, body := (.cons (.own 1 (.call 1000 (.val (.var 0) .nil)))
    (.cons (.forr (.nm false 2) (.rng1 (.bin .add (.cst (.int 8)) (.bi .min2 (.cons (.bi .len (.cons (.var 0) .nil)) (.cons (.cst (.int 8)) .nil))))) f_law_b1)
    (.cons (.set 3 (.bin .mul (.cst (.str [70, 32, 59, 32])) (.cst (.int 10000))))
    (.cons (.ifs (.or_ (.cmp .ne (.bi .len (.cons (.call 5 (.val (.var 3) .nil)) .nil)) (.cst (.int 20000))) (.cmp .ne (.fld (.caught (.call 5 (.val (.bin .add (.var 3) (.call 1003 (.io (.v 1) (.val (.lst (.cons (.cst (.str [32])) (.cons (.cst (.str [70])) (.cons (.cst (.str [43])) .nil)))) .nil)))) .nil))) [97, 116]) (.cst (.int 0)))) (.cons (.ret (.cst (.bl false)))
    .nil) .nil)
    (.cons (.set 4 (.caught (.call 5 (.val (.call 1003 (.io (.v 1) (.val (.lst (.cons (.cst .non) (.cons (.cst (.int 5)) (.cons (.lst (.cons (.cst (.str [70])) .nil)) (.cons (.tup (.cons (.cst (.str [70])) .nil)) .nil))))) .nil))) .nil))))
    (.cons (.ret (.and_ (.isi (.var 4) [.err 9]) (.and_ (.call 1004 (.val (.fld (.var 4) [97, 116]) (.val (.cst (.int 0)) .nil))) (.cmp .eq (.call 5 (.val (.cst (.str [])) .nil)) (.lst .nil)))))
    .nil)))))) }
def Φ (n : Nat) : Option Fn := match n with
  | 0 => some f_is_row_of_small
  | 1 => some f_is_kind
  | 2 => some f_is_word
  | 3 => some f_end_of_letters
  | 4 => some f_token_at
  | 5 => some f_tokens_of
  | 1000 => some f__law_begun
  | 1001 => some f__law_blend
  | 1002 => some f__law_take
  | 1003 => some f__law_pick
  | 1004 => some f__law_same
  | 1005 => some f__law_tokens
  | 1006 => some f__law_pieces
  | 1007 => some f_law
  | _ => none
@[simp] theorem Φ_is_row_of_small : Φ 0 = some f_is_row_of_small := rfl
@[simp] theorem Φ_is_kind : Φ 1 = some f_is_kind := rfl
@[simp] theorem Φ_is_word : Φ 2 = some f_is_word := rfl
@[simp] theorem Φ_end_of_letters : Φ 3 = some f_end_of_letters := rfl
@[simp] theorem Φ_token_at : Φ 4 = some f_token_at := rfl
@[simp] theorem Φ_tokens_of : Φ 5 = some f_tokens_of := rfl
@[simp] theorem Φ__law_begun : Φ 1000 = some f__law_begun := rfl
@[simp] theorem Φ__law_blend : Φ 1001 = some f__law_blend := rfl
@[simp] theorem Φ__law_take : Φ 1002 = some f__law_take := rfl
@[simp] theorem Φ__law_pick : Φ 1003 = some f__law_pick := rfl
@[simp] theorem Φ__law_same : Φ 1004 = some f__law_same := rfl
@[simp] theorem Φ__law_tokens : Φ 1005 = some f__law_tokens := rfl
@[simp] theorem Φ__law_pieces : Φ 1006 = some f__law_pieces := rfl
@[simp] theorem Φ_law : Φ 1007 = some f_law := rfl
@[simp] theorem ow_is_row_of_small : f_is_row_of_small.ow = [false] := rfl
@[simp] theorem ro_is_row_of_small : f_is_row_of_small.ro = false := rfl
@[simp] theorem ow_is_kind : f_is_kind.ow = [false] := rfl
@[simp] theorem ro_is_kind : f_is_kind.ro = false := rfl
@[simp] theorem ow_is_word : f_is_word.ow = [false] := rfl
@[simp] theorem ro_is_word : f_is_word.ro = false := rfl
@[simp] theorem ow_end_of_letters : f_end_of_letters.ow = [false, false] := rfl
@[simp] theorem ro_end_of_letters : f_end_of_letters.ro = false := rfl
@[simp] theorem ow_token_at : f_token_at.ow = [false, false] := rfl
@[simp] theorem ro_token_at : f_token_at.ro = false := rfl
@[simp] theorem ow_tokens_of : f_tokens_of.ow = [false] := rfl
@[simp] theorem ro_tokens_of : f_tokens_of.ro = false := rfl
@[simp] theorem ow__law_begun : f__law_begun.ow = [false] := rfl
@[simp] theorem ro__law_begun : f__law_begun.ro = true := rfl
@[simp] theorem ow__law_blend : f__law_blend.ow = [true] := rfl
@[simp] theorem ro__law_blend : f__law_blend.ro = true := rfl
@[simp] theorem ow__law_take : f__law_take.ow = [true, false] := rfl
@[simp] theorem ro__law_take : f__law_take.ro = false := rfl
@[simp] theorem ow__law_pick : f__law_pick.ow = [true, false] := rfl
@[simp] theorem ro__law_pick : f__law_pick.ro = false := rfl
@[simp] theorem ow__law_same : f__law_same.ow = [false, false] := rfl
@[simp] theorem ro__law_same : f__law_same.ro = false := rfl
@[simp] theorem ow__law_tokens : f__law_tokens.ow = [false] := rfl
@[simp] theorem ro__law_tokens : f__law_tokens.ro = false := rfl
@[simp] theorem ow__law_pieces : f__law_pieces.ow = [true] := rfl
@[simp] theorem ro__law_pieces : f__law_pieces.ro = false := rfl
@[simp] theorem ow_law : f_law.ow = [false] := rfl
@[simp] theorem ro_law : f_law.ro = false := rfl
end PyI

set_option Elab.async false
set_option linter.all false
set_option maxRecDepth 100000
namespace PyM
open PyI
section
variable (Φ : Nat → Option Fn) (cf : CF) (ro : Bool)
def seqF (f : Fl) (ss : Ss) : Fl := match f with
  | .nx δ => exs Φ cf ro ss δ
  | f => f
@[scoped simp ↓] theorem exs_nil (δ) : exs Φ cf ro .nil δ = .nx δ := by simp only [exs]
@[scoped simp ↓] theorem exs_cons (s ss δ) : exs Φ cf ro (.cons s ss) δ = seqF Φ cf ro (ex Φ cf ro s δ) ss := by simp only [exs]; rfl
@[scoped simp] theorem seqF_nx (δ ss) : seqF Φ cf ro (.nx δ) ss = exs Φ cf ro ss δ := rfl
@[scoped simp] theorem seqF_rt (d δ ss) : seqF Φ cf ro (.rt d δ) ss = .rt d δ := rfl
@[scoped simp] theorem seqF_bk (δ ss) : seqF Φ cf ro (.bk δ) ss = .bk δ := rfl
@[scoped simp] theorem seqF_ct (δ ss) : seqF Φ cf ro (.ct δ) ss = .ct δ := rfl
@[scoped simp] theorem seqF_er (d δ ss) : seqF Φ cf ro (.er d δ) ss = .er d δ := rfl
@[scoped simp] theorem seqF_bad (ss) : seqF Φ cf ro .bad ss = .bad := rfl
/-- a store -/
@[scoped simp] def stT (t : Tg) (d : D) (δ : Env) : Fl := match bindT t d δ with
  | some δ2 => .nx δ2
  | none => .bad
@[scoped simp ↓] theorem ex_set (i e δ) : ex Φ cf ro (.set i e) δ = (ev Φ cf e false δ).thenF (stT (.nm false i)) := by simp only [ex]; rfl
@[scoped simp ↓] theorem ex_own (i e δ) : ex Φ cf ro (.own i e) δ = (ev Φ cf e true δ).thenF (stT (.nm true i)) := by simp only [ex]; rfl
@[scoped simp ↓] theorem ex_unp (o t e δ) : ex Φ cf ro (.unp o t e) δ = (ev Φ cf e o δ).thenF (stT t) := by simp only [ex]; rfl
@[scoped simp] def stAll (ts : List (Bool × Nat)) (ds : List D) (δ : Env) : Fl := match storeAll ts ds δ with
  | some δ2 => .nx δ2
  | none => .bad
@[scoped simp ↓] theorem ex_par (ts es δ) : ex Φ cf ro (.par ts es) δ = (evM Φ cf es ts δ).thenF (stAll ts) := by simp only [ex]; rfl
@[scoped simp] def kPs2 (p : Pa) (d k : D) (δ : Env) : Fl := match (getP p δ).bind fun o => (subPut o k d).bind fun o' => setP p o' δ with
  | some δ3 => .nx δ3
  | none => .bad
@[scoped simp] def kPs1 (p : Pa) (i : Ex) (d : D) (δ1 : Env) : Fl := match getP p δ1 with
  | some _ => (ev Φ cf i false δ1).thenF (kPs2 p d)
  | none => .bad
@[scoped simp ↓] theorem ex_pset (p i e δ) : ex Φ cf ro (.pset p i e) δ = (ev Φ cf e true δ).thenF (kPs1 Φ cf p i) := by simp only [ex]; rfl
@[scoped simp] def kAu2 (i : Nat) (op : BOp) (old : D) (d : D) (δ1 : Env) : Fl := match binS op old d with
  | some z => if augOk op old d then stT (.nm false i) z δ1 else .bad
  | none => .bad
def kAu1 (i : Nat) (op : BOp) (e : Ex) (δ : Env) : Option Sl → Fl
  | some (.sh old) => if notLst old then (ev Φ cf e false δ).thenF (kAu2 i op old) else .bad
  | _ => .bad
@[scoped simp ↓] theorem ex_aug (i op e δ) : ex Φ cf ro (.aug i op e) δ = kAu1 Φ cf i op e δ (slot δ i) := by
  have this : ∀ old, (fun d δ1 => match binS op old d with
      | some z => match (if augOk op old d then bindT (.nm false i) z δ1 else none) with
        | some δ2 => Fl.nx δ2
        | none => .bad
      | none => .bad) = kAu2 i op old := by
    intro old
    funext d δ1
    simp only [kAu2, stT]
    cases binS op old d with
    | none => rfl
    | some z => cases augOk op old d <;> rfl
  cases hs : slot δ i with
  | none => first | (simp only [ex, hs, kAu1]; done) | (simp only [ex, hs]; rfl)
  | some s =>
    cases s with
    | ow d => first | (simp only [ex, hs, kAu1]; done) | (simp only [ex, hs]; rfl)
    | sh old =>
      show _ = if notLst old then (ev Φ cf e false δ).thenF (kAu2 i op old) else .bad
      simp only [ex, hs]
      by_cases hn : notLst old = true
      · rw [if_pos hn, if_pos hn]; exact congrArg (Out.thenF _) (this old)
      · rw [if_neg hn, if_neg hn]
@[scoped simp] theorem kAu1_sh (i op e δ old) : kAu1 Φ cf i op e δ (some (.sh old)) = if notLst old then (ev Φ cf e false δ).thenF (kAu2 i op old) else .bad := rfl
@[scoped simp] def kPa2 (p : Pa) (op : BOp) (k old d : D) (δ2 : Env) : Fl := match (binS op old d).bind fun z => (getP p δ2).bind fun o => (subPutIn o k z).bind fun o' => setP p o' δ2 with
  | some δ3 => .nx δ3
  | none => .bad
@[scoped simp] def kPa1 (p : Pa) (op : BOp) (e : Ex) (k : D) (δ1 : Env) : Fl := match (getP p δ1).bind fun o => subOf o k with
  | some old => if old.imm then (ev Φ cf e false δ1).thenF (kPa2 p op k old) else .bad
  | none => .bad
@[scoped simp ↓] theorem ex_paug (p i op e δ) : ex Φ cf ro (.paug p i op e) δ = (ev Φ cf i false δ).thenF (kPa1 Φ cf p op e) := by simp only [ex]; rfl
@[scoped simp] def kExp (_ : D) (δ : Env) : Fl := .nx δ
@[scoped simp ↓] theorem ex_exp (e δ) : ex Φ cf ro (.exp e) δ = (ev Φ cf e false δ).thenF kExp := by simp only [ex]; rfl
@[scoped simp] def kRet (d : D) (δ : Env) : Fl := .rt d δ
@[scoped simp ↓] theorem ex_ret (e δ) : ex Φ cf ro (.ret e) δ = (ev Φ cf e ro δ).thenF kRet := by simp only [ex]; rfl
def brF (a b : Ss) (δ : Env) : Option Bool → Fl
  | some true => exs Φ cf ro a δ
  | some false => exs Φ cf ro b δ
  | none => .bad
@[scoped simp] def kIf (a b : Ss) (d : D) (δ : Env) : Fl := brF Φ cf ro a b δ (truth d)
@[scoped simp ↓] theorem ex_ifs (c a b δ) : ex Φ cf ro (.ifs c a b) δ = (ev Φ cf c false δ).thenF (kIf Φ cf ro a b) := by
  simp only [ex]
  congr <;> (funext d δ1) <;> (simp only [kIf, brF]) <;> (split <;> rename_i h <;> simp only [h])
@[scoped simp] theorem brF_some (a b δ) (c : Bool) : brF Φ cf ro a b δ (some c) = if c = true then exs Φ cf ro a δ else exs Φ cf ro b δ := by cases c <;> rfl
def whlR (c : Ex) (b : Ss) (n : Nat) (δ : Env) : Fl := wloop (fun δ => ev Φ cf c false δ) (fun δ => exs Φ cf ro b δ) n δ
@[scoped simp ↓] theorem ex_whl (c b δ) : ex Φ cf ro (.whl c b) δ = whlR Φ cf ro c b FUEL δ := by simp only [ex]; rfl
def forR (t : Tg) (b : Ss) (xs : List D) (δ : Env) : Fl := forGo (fun x δ2 => match bindT t x δ2 with
    | some δ3 => exs Φ cf ro b δ3
    | none => .bad) xs δ
@[scoped simp ↓] theorem ex_forr (t it b δ) : ex Φ cf ro (.forr t it b) δ = (evIt Φ cf it δ).thenF (forR Φ cf ro t b) := by simp only [ex]; rfl
@[scoped simp ↓] theorem ex_brk (δ) : ex Φ cf ro .brk δ = .bk δ := by simp only [ex]
@[scoped simp ↓] theorem ex_cnt (δ) : ex Φ cf ro .cnt δ = .ct δ := by simp only [ex]
@[scoped simp ↓] theorem ex_pas (δ) : ex Φ cf ro .pas δ = .nx δ := by simp only [ex]
@[scoped simp] def kRai (c : Nat) (ds : List D) (δ : Env) : Fl := if decide (ds.length = if (exFld c).isSome then 1 else 0) && immAll ds then .er (.exc c ds) δ else .bad
@[scoped simp ↓] theorem ex_rais (c es δ) : ex Φ cf ro (.rais c es) δ = (evs Φ cf es false δ).thenF (kRai c) := by simp only [ex]; rfl
@[scoped simp ↓] theorem ev_cst (d o δ) : ev Φ cf (.cst d) o δ = .ok d δ := by simp only [ev]
def varR (i : Nat) (o : Bool) (δ : Env) : Option Sl → Out
  | some (.sh d) => fin o false d δ
  | some (.ow d) => if o then .ok d (δ.set i none) else .ok d (δ.set i (some (.sh d)))
  | none => .bad
@[scoped simp ↓] theorem ev_var (i o δ) : ev Φ cf (.var i) o δ = varR i o δ (slot δ i) := by
  simp only [ev, varR] <;> (split <;> rename_i h <;> simp only [h])
@[scoped simp] theorem varR_sh (i o δ d) : varR i o δ (some (.sh d)) = fin o false d δ := rfl
@[scoped simp] theorem varR_owT (i δ d) : varR i true δ (some (.ow d)) = .ok d (δ.set i none) := rfl
@[scoped simp] theorem varR_owF (i δ d) : varR i false δ (some (.ow d)) = .ok d (δ.set i (some (.sh d))) := rfl
def borR (o : Bool) (δ : Env) : Option D → Out
  | some d => if o then .bad else .ok d δ
  | none => .bad
@[scoped simp ↓] theorem ev_bor (p o δ) : ev Φ cf (.bor p) o δ = borR o δ (getP p δ) := by
  simp only [ev]
  cases getP p δ <;> rfl
@[scoped simp] theorem borR_some (δ d) : borR false δ (some d) = .ok d δ := rfl
def finS (o f : Bool) (δ : Env) : Option D → Out
  | some d => fin o f d δ
  | none => .bad
@[scoped simp] theorem finS_some (o f δ d) : finS o f δ (some d) = fin o f d δ := rfl
/-- where parts could be shared with what is lent -/
def finB (q o f : Bool) (δ : Env) : Option D → Out
  | some d => if q && !(if f then d.kids else d.imm) then .bad else fin o f d δ
  | none => .bad
@[scoped simp] theorem finB_false (o f δ r) : finB false o f δ r = finS o f δ r := by cases r <;> rfl
@[scoped simp] theorem finB_true (o f δ d) : finB true o f δ (some d) = if (if f then d.kids else d.imm) = true then fin o f d δ else .bad := by
  simp only [finB]
  cases f <;> simp
  · cases h : d.imm <;> simp [h]
  · cases h : d.kids <;> simp [h]
@[scoped simp] def kBin2 (op : BOp) (q o : Bool) (x y : D) (δ2 : Env) : Out := finB q o true δ2 (binS op x y)
@[scoped simp] def kBin1 (op : BOp) (q o : Bool) (b : Ex) (x : D) (δ1 : Env) : Out := (ev Φ cf b false δ1).then (kBin2 op q o x)
@[scoped simp ↓] theorem ev_bin (op a b o δ) : ev Φ cf (.bin op a b) o δ = (ev Φ cf a false δ).then (kBin1 Φ cf op (isBor a || isBor b) o b) := by
  simp only [ev]
  congr <;> (funext x δ1) <;> (simp only [kBin1]) <;> (congr) <;> (funext y δ2) <;> (simp only [kBin2]) <;> (cases binS op x y <;> simp [finB])
@[scoped simp] def kNeg (x : D) (δ : Env) : Out := match x with
  | .int i => .ok (.int (-i)) δ
  | _ => .bad
@[scoped simp ↓] theorem ev_neg (a o δ) : ev Φ cf (.neg a) o δ = (ev Φ cf a false δ).then kNeg := by simp only [ev]; rfl
@[scoped simp] theorem kNeg_int (i δ) : kNeg (.int i) δ = .ok (.int (-i)) δ := rfl
def blR (δ : Env) : Option Bool → Out
  | some b => .ok (.bl b) δ
  | none => .bad
@[scoped simp] theorem blR_some (δ b) : blR δ (some b) = .ok (.bl b) δ := rfl
@[scoped simp] def kNot (x : D) (δ : Env) : Out := blR δ ((truth x).map (!·))
@[scoped simp ↓] theorem ev_not (a o δ) : ev Φ cf (.not_ a) o δ = (ev Φ cf a false δ).then kNot := by
  simp only [ev]
  congr <;> (funext x δ1) <;> (simp only [kNot]) <;> (cases truth x <;> rfl)
def brE (x y : Out) : Option Bool → Out
  | some true => x
  | some false => y
  | none => .bad
@[scoped simp] theorem brE_some (x y) (c : Bool) : brE x y (some c) = if c = true then x else y := by cases c <;> rfl
@[scoped simp] def kAnd (b : Ex) (o : Bool) (x : D) (δ : Env) : Out := brE (ev Φ cf b o δ) (fin o false x δ) (truth x)
@[scoped simp] def kOr (b : Ex) (o : Bool) (x : D) (δ : Env) : Out := brE (fin o false x δ) (ev Φ cf b o δ) (truth x)
@[scoped simp] def kIte (a b : Ex) (o : Bool) (x : D) (δ : Env) : Out := brE (ev Φ cf a o δ) (ev Φ cf b o δ) (truth x)
@[scoped simp ↓] theorem ev_and (a b o δ) : ev Φ cf (.and_ a b) o δ = (ev Φ cf a false δ).then (kAnd Φ cf b o) := by
  simp only [ev]
  congr <;> (funext x δ1) <;> (simp only [kAnd, brE]) <;> (split <;> rename_i h <;> simp only [h])
@[scoped simp ↓] theorem ev_or (a b o δ) : ev Φ cf (.or_ a b) o δ = (ev Φ cf a false δ).then (kOr Φ cf b o) := by
  simp only [ev]
  congr <;> (funext x δ1) <;> (simp only [kOr, brE]) <;> (split <;> rename_i h <;> simp only [h])
@[scoped simp ↓] theorem ev_ite (c a b o δ) : ev Φ cf (.ite c a b) o δ = (ev Φ cf c false δ).then (kIte Φ cf a b o) := by
  simp only [ev]
  congr <;> (funext x δ1) <;> (simp only [kIte, brE]) <;> (split <;> rename_i h <;> simp only [h])
@[scoped simp] def kCmp2 (op : COp) (x y : D) (δ : Env) : Out := blR δ (cmpS op x y)
@[scoped simp] def kCmp1 (op : COp) (b : Ex) (x : D) (δ : Env) : Out := (ev Φ cf b false δ).then (kCmp2 op x)
@[scoped simp ↓] theorem ev_cmp (op a b o δ) : ev Φ cf (.cmp op a b) o δ = (ev Φ cf a false δ).then (kCmp1 Φ cf op b) := by
  simp only [ev]
  congr <;> (funext x δ1) <;> (simp only [kCmp1]) <;> (congr) <;> (funext y δ2) <;> (simp only [kCmp2]) <;> (cases cmpS op x y <;> rfl)
@[scoped simp] def kChn2 (op op' : COp) (c : Ex) (x y : D) (δ : Env) : Out := brE ((ev Φ cf c false δ).then (kCmp2 op' y)) (.ok (.bl false) δ) (cmpS op x y)
@[scoped simp] def kChn1 (op op' : COp) (b c : Ex) (x : D) (δ : Env) : Out := (ev Φ cf b false δ).then (kChn2 Φ cf op op' c x)
@[scoped simp ↓] theorem ev_chn (op op' a b c o δ) : ev Φ cf (.chn op op' a b c) o δ = (ev Φ cf a false δ).then (kChn1 Φ cf op op' b c) := by
  simp only [ev]
  congr <;> (funext x δ1) <;> (simp only [kChn1]) <;> (congr) <;> (funext y δ2) <;> (simp only [kChn2, brE]) <;> (split <;> rename_i h <;> simp only [h]) <;> (congr) <;> (funext z δ3) <;> (simp only [kCmp2]) <;> (cases cmpS op' y z <;> rfl)
def okS (δ : Env) : Option D → Out
  | some d => .ok d δ
  | none => .bad
@[scoped simp] theorem okS_some (δ d) : okS δ (some d) = .ok d δ := rfl
@[scoped simp] def kTup (xs : List D) (δ : Env) : Out := okS δ (okTup xs)
@[scoped simp] def kLst (xs : List D) (δ : Env) : Out := okS δ (okLst xs)
@[scoped simp] def kDct (xs : List D) (δ : Env) : Out := okS δ (mkDct xs)
@[scoped simp ↓] theorem ev_tup (es o δ) : ev Φ cf (.tup es) o δ = (evs Φ cf es o δ).then kTup := by
  simp only [ev]; rfl
@[scoped simp ↓] theorem ev_lst (es o δ) : ev Φ cf (.lst es) o δ = (evs Φ cf es o δ).then kLst := by
  simp only [ev]; rfl
@[scoped simp ↓] theorem ev_dct (k kv o δ) : ev Φ cf (.dct k kv) o δ = (evs2 Φ cf kv o δ).then kDct := by
  simp only [ev]; rfl
/-- a call's end -/
def retR (ro q : Bool) (es : As) (δ1 : Env) : CRes → Out
  | .rt r os => match putOs es os δ1 with
    | some δ2 => if ro || !q || r.imm then .ok r δ2 else .bad
    | none => .bad
  | .er x os => match putOs es os δ1 with
    | some δ2 => if x.excI then .er x δ2 else .bad
    | none => .bad
  | .bad => .bad
def callR (f : Nat) (ro q : Bool) (es : As) (δ1 : Env) : Option (List D) → Out
  | some ds => retR ro q es δ1 (cf f ds)
  | none => .bad
@[scoped simp] def kCall (f : Nat) (fn : Fn) (q : Bool) (es : As) (xs : List D) (δ1 : Env) : Out := callR cf f fn.ro q es δ1 (argsOf es fn.ow xs δ1)
def callO (f : Nat) (es : As) (o : Bool) (δ : Env) : Option Fn → Out
  | some fn => (evA Φ cf es δ).then (kCall cf f fn (o || es.hasBor) es)
  | none => .bad
@[scoped simp ↓] theorem ev_call (f es o δ) : ev Φ cf (.call f es) o δ = callO Φ cf f es o δ (Φ f) := by
  simp only [ev, callO]
  cases Φ f with
  | none => rfl
  | some fn =>
    refine congrArg (OutL.then (evA Φ cf es δ)) (funext fun xs => funext fun δ1 => ?_)
    simp only [kCall]
    cases argsOf es fn.ow xs δ1 with
    | none => rfl
    | some ds =>
      simp only [callR]
      cases cf f ds with
      | rt r os =>
        simp only [retR]
        cases putOs es os δ1 with
        | none => rfl
        | some δ2 =>
          simp only
          cases fn.ro <;> cases (o || es.hasBor) <;> cases r.imm <;> rfl
      | er x os => rfl
      | bad => rfl
@[scoped simp] theorem callO_some (f es o δ fn) : callO Φ cf f es o δ (some fn) = (evA Φ cf es δ).then (kCall cf f fn (o || es.hasBor) es) := rfl
@[scoped simp] theorem callR_some (f ro q es δ ds) : callR cf f ro q es δ (some ds) = retR ro q es δ (cf f ds) := rfl
@[scoped simp] theorem retR_bad (ro q es δ) : retR ro q es δ .bad = .bad := rfl
@[scoped simp] def kBi (b : Bi) (q o : Bool) (xs : List D) (δ : Env) : Out := finB q o b.fresh δ (biS b xs)
@[scoped simp ↓] theorem ev_bi (b es o δ) : ev Φ cf (.bi b es) o δ = (evs Φ cf es false δ).then (kBi b es.hasBor o) := by
  simp only [ev]; rfl
@[scoped simp] def kMt2 (m : Mt) (q o : Bool) (x : D) (xs : List D) (δ : Env) : Out := finB q o false δ (mtS m x xs)
@[scoped simp] def kMt1 (m : Mt) (q o : Bool) (es : Exs) (x : D) (δ : Env) : Out := (evs Φ cf es false δ).then (kMt2 m q o x)
@[scoped simp ↓] theorem ev_mt (m a es o δ) : ev Φ cf (.mt m a es) o δ = (ev Φ cf a false δ).then (kMt1 Φ cf m (isBor a || es.hasBor) o es) := by
  simp only [ev]; rfl
def pmEnd (p : Pa) (δ1 : Env) : Option (D × D) → Out
  | some (r, x') => okEnv r (setP p x' δ1)
  | none => .bad
where okEnv (r : D) : Option Env → Out
  | some δ2 => .ok r δ2
  | none => .bad
@[scoped simp] def kPm2 (m : Pm) (p : Pa) (xs : List D) (δ1 : Env) : Out := match getP p δ1 with
  | some x => pmEnd p δ1 (pmS m x xs)
  | none => .bad
def pmR (m : Pm) (p : Pa) (es : Exs) (δ : Env) : Option D → Out
  | some x0 => if x0.isL == m.isL then (evs Φ cf es true δ).then (kPm2 m p) else .bad
  | none => .bad
@[scoped simp ↓] theorem ev_pm (m p es o δ) : ev Φ cf (.pm m p es) o δ = pmR Φ cf m p es δ (getP p δ) := by
  simp only [ev, pmR]
  cases getP p δ with
  | none => rfl
  | some x0 => rfl
@[scoped simp] theorem pmR_some (m p es δ x0) : pmR Φ cf m p es δ (some x0) = if x0.isL == m.isL then (evs Φ cf es true δ).then (kPm2 m p) else .bad := rfl
@[scoped simp] theorem pmEnd_some (p δ r x') : pmEnd p δ (some (r, x')) = pmEnd.okEnv r (setP p x' δ) := rfl
@[scoped simp] theorem okEnv_some (r δ) : pmEnd.okEnv r (some δ) = .ok r δ := rfl
@[scoped simp] def kIdx2 (q o : Bool) (x k : D) (δ : Env) : Out := finB q o false δ (idxS x k)
@[scoped simp] def kIdx1 (q o : Bool) (i : Ex) (x : D) (δ : Env) : Out := (ev Φ cf i false δ).then (kIdx2 q o x)
@[scoped simp ↓] theorem ev_idx (a i o δ) : ev Φ cf (.idx a i) o δ = (ev Φ cf a false δ).then (kIdx1 Φ cf (isBor a) o i) := by
  simp only [ev]; rfl
def kSlc4 (q o : Bool) (x : D) (l : Option Int) (δ : Env) : Option (Option Int) → Out
  | some h => finB q o true δ (slcS x l h)
  | none => .bad
@[scoped simp] def kSlc3 (q o : Bool) (x : D) (l : Option Int) (h : List D) (δ : Env) : Out := kSlc4 q o x l δ (endOf h)
def kSlc2 (q o : Bool) (hi : Exs) (x : D) (δ : Env) : Option (Option Int) → Out
  | some l => (evs Φ cf hi false δ).then (kSlc3 q o x l)
  | none => .bad
@[scoped simp] def kSlc1 (q o : Bool) (hi : Exs) (x : D) (l : List D) (δ : Env) : Out := kSlc2 Φ cf q o hi x δ (endOf l)
@[scoped simp] def kSlc0 (q o : Bool) (lo hi : Exs) (x : D) (δ : Env) : Out := (evs Φ cf lo false δ).then (kSlc1 Φ cf q o hi x)
@[scoped simp ↓] theorem ev_slc (a lo hi o δ) : ev Φ cf (.slc a lo hi) o δ = (ev Φ cf a false δ).then (kSlc0 Φ cf (isBor a) o lo hi) := by
  simp only [ev]; rfl
@[scoped simp] theorem kSlc2_some (q o hi x δ l) : kSlc2 Φ cf q o hi x δ (some l) = (evs Φ cf hi false δ).then (kSlc3 q o x l) := rfl
@[scoped simp] theorem kSlc4_some (q o x l δ h) : kSlc4 q o x l δ (some h) = finB q o true δ (slcS x l h) := rfl
@[scoped simp] def kRev (q o : Bool) (x : D) (δ : Env) : Out := match x with
  | .lst xs => if q && !immAll xs then .bad else fin o true (.lst xs.reverse) δ
  | _ => .bad
@[scoped simp ↓] theorem ev_rev (a o δ) : ev Φ cf (.rev a) o δ = (ev Φ cf a false δ).then (kRev (isBor a) o) := by simp only [ev]; rfl
@[scoped simp] theorem kRev_lst (o δ xs) : kRev false o (.lst xs) δ = fin o true (.lst xs.reverse) δ := rfl
/-- one item of a comprehension -/
def lcB (t : Tg) (cs : Exs) (e : Ex) (x : D) (δ2 : Env) : OutL := match bindT t x (clr (tgSlots t) δ2) with
  | some δ3 => condGo Φ cf cs (fun δ4 => (ev Φ cf e false δ4).thenL fun d δ5 => .ok [d] δ5) δ3
  | none => .bad
def lcR (t : Tg) (cs : Exs) (e : Ex) (xs : List D) (δ : Env) : OutL := mapGo (lcB Φ cf t cs e) xs δ
@[scoped simp] def kLcE (t : Tg) (o : Bool) (δ1 : Env) (ds : List D) (δ6 : Env) : Out := finS o true (restore (tgSlots t) δ1 δ6) (okLst ds)
@[scoped simp] def kLc (t : Tg) (cs : Exs) (e : Ex) (o : Bool) (xs : List D) (δ1 : Env) : Out := if noOw (tgSlots t) δ1 then (lcR Φ cf t cs e xs δ1).then (kLcE t o δ1) else .bad
@[scoped simp ↓] theorem ev_lc (t it cs e o δ) : ev Φ cf (.lc t it cs e) o δ = (evIt Φ cf it δ).then (kLc Φ cf t cs e o) := by
  simp only [ev]; rfl
@[scoped simp] def kIsi (ts : List Ty) (x : D) (δ : Env) : Out := blR δ (tyAny x ts)
@[scoped simp ↓] theorem ev_isi (e ts o δ) : ev Φ cf (.isi e ts) o δ = (ev Φ cf e false δ).then (kIsi ts) := by
  simp only [ev]; rfl
@[scoped simp] def kFld (n : List Nat) (o : Bool) (x : D) (δ : Env) : Out := match x with
  | .exc c [y] => if exFld c = some n then fin o false y δ else .bad
  | _ => .bad
@[scoped simp ↓] theorem ev_fld (e n o δ) : ev Φ cf (.fld e n) o δ = (ev Φ cf e false δ).then (kFld n o) := by simp only [ev]; rfl
@[scoped simp] theorem kFld_exc (n o c y δ) : kFld n o (.exc c [y]) δ = if exFld c = some n then fin o false y δ else .bad := rfl
def cauR (o : Bool) : Out → Out
  | .ok _ δ1 => .ok .non δ1
  | .er x δ1 => if o then .bad else .ok x δ1
  | .bad => .bad
@[scoped simp ↓] theorem ev_caught (e o δ) : ev Φ cf (.caught e) o δ = cauR o (ev Φ cf e false δ) := by
  simp only [ev, cauR] <;> (split <;> rename_i h <;> simp only [h])
@[scoped simp] theorem cauR_ok (o d δ) : cauR o (.ok d δ) = .ok .non δ := rfl
@[scoped simp] theorem cauR_er (d δ) : cauR false (.er d δ) = .ok d δ := rfl
@[scoped simp] def kCons2 (x : D) (xs : List D) (δ : Env) : OutL := .ok (x :: xs) δ
@[scoped simp] def kCons1 (es : Exs) (o : Bool) (x : D) (δ : Env) : OutL := (evs Φ cf es o δ).thenL (kCons2 x)
@[scoped simp ↓] theorem evs_nil (o δ) : evs Φ cf .nil o δ = .ok [] δ := by simp only [evs]
@[scoped simp ↓] theorem evs_cons (e es o δ) : evs Φ cf (.cons e es) o δ = (ev Φ cf e o δ).thenL (kCons1 Φ cf es o) := by simp only [evs]; rfl
@[scoped simp] def kKv3 (x y : D) (xs : List D) (δ : Env) : OutL := .ok (x :: y :: xs) δ
@[scoped simp] def kKv2 (r : Kv) (o : Bool) (x y : D) (δ : Env) : OutL := (evs2 Φ cf r o δ).thenL (kKv3 x y)
@[scoped simp] def kKv1 (v : Ex) (r : Kv) (o : Bool) (x : D) (δ : Env) : OutL := (ev Φ cf v o δ).thenL (kKv2 Φ cf r o x)
@[scoped simp ↓] theorem evs2_nil (o δ) : evs2 Φ cf .nil o δ = .ok [] δ := by simp only [evs2]
@[scoped simp ↓] theorem evs2_cons (k v r o δ) : evs2 Φ cf (.cons k v r) o δ = (ev Φ cf k false δ).thenL (kKv1 Φ cf v r o) := by simp only [evs2]; rfl
@[scoped simp] def kA1 (r : As) (x : D) (δ : Env) : OutL := (evA Φ cf r δ).thenL (kCons2 x)
def ioR (r : As) (δ : Env) : Option D → OutL
  | some _ => evA Φ cf r δ
  | none => .bad
@[scoped simp ↓] theorem evA_nil (δ) : evA Φ cf .nil δ = .ok [] δ := by simp only [evA]
@[scoped simp ↓] theorem evA_val (e r δ) : evA Φ cf (.val e r) δ = (ev Φ cf e false δ).thenL (kA1 Φ cf r) := by simp only [evA]; rfl
@[scoped simp ↓] theorem evA_io (p r δ) : evA Φ cf (.io p r) δ = ioR Φ cf r δ (getP p δ) := by
  simp only [evA, ioR] <;> (cases getP p δ <;> rfl)
@[scoped simp] theorem ioR_some (r δ d) : ioR Φ cf r δ (some d) = evA Φ cf r δ := rfl
def itS (q : Bool) (δ : Env) : Option (List D) → OutL
  | some xs => if q && !immAll xs then .bad else .ok xs δ
  | none => .bad
@[scoped simp] theorem itS_some (δ xs) : itS false δ (some xs) = .ok xs δ := rfl
@[scoped simp] theorem itS_someT (δ xs) : itS true δ (some xs) = if immAll xs then .ok xs δ else .bad := by simp [itS]; cases immAll xs <;> rfl
@[scoped simp] def kOver (q : Bool) (x : D) (δ : Env) : OutL := itS q δ (itemsOf x)
@[scoped simp ↓] theorem evIt_over (e δ) : evIt Φ cf (.over e) δ = (ev Φ cf e false δ).thenL (kOver (isBor e)) := by
  simp only [evIt]; rfl
@[scoped simp] def kRng1 (x : D) (δ : Env) : OutL := match x with
  | .int n => if decide (-(2 ^ 62) ≤ n ∧ n < 2 ^ 62) then .ok (upTo n.toNat) δ else .bad
  | _ => .bad
@[scoped simp ↓] theorem evIt_rng1 (e δ) : evIt Φ cf (.rng1 e) δ = (ev Φ cf e false δ).thenL kRng1 := by simp only [evIt]; rfl
@[scoped simp] def kRng2b (x y : D) (δ2 : Env) : OutL := match x, y with
    | .int i, .int j => if decide (-(2 ^ 62) ≤ i ∧ i < 2 ^ 62 ∧ -(2 ^ 62) ≤ j ∧ j < 2 ^ 62) then .ok ((List.range (j - i).toNat).map fun (k : Nat) => D.int (i + (k : Int))) δ2 else .bad
    | _, _ => .bad
@[scoped simp] def kRng2a (b : Ex) (x : D) (δ1 : Env) : OutL := (ev Φ cf b false δ1).thenL (kRng2b x)
@[scoped simp ↓] theorem evIt_rng2 (a b δ) : evIt Φ cf (.rng2 a b) δ = (ev Φ cf a false δ).thenL (kRng2a Φ cf b) := by simp only [evIt]; rfl
def enuS (q : Bool) (δ : Env) : Option (List D) → OutL
  | some xs => if q && !immAll xs then .bad else .ok (xs.zipIdx.map fun p => .tup [.int (p.2 : Nat), p.1]) δ
  | none => .bad
@[scoped simp] theorem enuS_some (δ xs) : enuS false δ (some xs) = .ok (xs.zipIdx.map fun p => .tup [.int (p.2 : Nat), p.1]) δ := rfl
@[scoped simp] def kEnu (q : Bool) (x : D) (δ : Env) : OutL := enuS q δ (seqOf x)
@[scoped simp ↓] theorem evIt_enu (e δ) : evIt Φ cf (.enu e) δ = (ev Φ cf e false δ).thenL (kEnu (isBor e)) := by
  simp only [evIt]; rfl
def zipS (q : Bool) (δ : Env) : Option (List D) → Option (List D) → OutL
  | some xs, some ys => if q && !(immAll xs && immAll ys) then .bad else .ok ((xs.zip ys).map fun p => .tup [p.1, p.2]) δ
  | _, _ => .bad
@[scoped simp] theorem zipS_some (δ xs ys) : zipS false δ (some xs) (some ys) = .ok ((xs.zip ys).map fun p => .tup [p.1, p.2]) δ := rfl
@[scoped simp] def kZip2 (q : Bool) (x y : D) (δ : Env) : OutL := zipS q δ (seqOf x) (seqOf y)
@[scoped simp] def kZip1 (q : Bool) (b : Ex) (x : D) (δ : Env) : OutL := (ev Φ cf b false δ).thenL (kZip2 q x)
@[scoped simp ↓] theorem evIt_zip (a b δ) : evIt Φ cf (.zip a b) δ = (ev Φ cf a false δ).thenL (kZip1 Φ cf (isBor a || isBor b) b) := by
  simp only [evIt]; rfl
@[scoped simp] def kMc (es : Exs) (ms : List (Bool × Nat)) (x : D) (δ : Env) : OutL := (evM Φ cf es ms δ).thenL (kCons2 x)
@[scoped simp ↓] theorem evM_nil (δ) : evM Φ cf .nil [] δ = .ok [] δ := rfl
@[scoped simp ↓] theorem evM_cons (e es m ms δ) : evM Φ cf (.cons e es) (m :: ms) δ = (ev Φ cf e m.1 δ).thenL (kMc Φ cf es ms) := rfl
@[scoped simp] def lc1 (d : D) (δ : Env) : OutL := .ok [d] δ
@[scoped simp] def kCond (e : Ex) (x : D) (δ : Env) : OutL := match truth x with
  | some true => (ev Φ cf e false δ).thenL lc1
  | some false => .ok [] δ
  | none => .bad
def lcB2 (e : Ex) (cs : Exs) (δ : Env) : OutL := condGo Φ cf cs (fun δ4 => (ev Φ cf e false δ4).thenL fun d δ5 => .ok [d] δ5) δ
@[scoped simp ↓] theorem lcB2_nil (e δ) : lcB2 Φ cf e .nil δ = (ev Φ cf e false δ).thenL lc1 := by simp only [lcB2, condGo]; rfl
@[scoped simp ↓] theorem lcB2_one (e c δ) : lcB2 Φ cf e (.cons c .nil) δ = (ev Φ cf c false δ).thenL (kCond Φ cf e) := by
  simp only [lcB2, condGo]; congr
def lcS (e : Ex) (cs : Exs) : Option Env → OutL
  | some δ => lcB2 Φ cf e cs δ
  | none => .bad
@[scoped simp] theorem lcS_some (e cs δ) : lcS Φ cf e cs (some δ) = lcB2 Φ cf e cs δ := rfl
@[scoped simp] theorem lcB_eq (t cs e x δ) : lcB Φ cf t cs e x δ = lcS Φ cf e cs (bindT t x (clr (tgSlots t) δ)) := by
  simp only [lcB, lcS]
  cases bindT t x (clr (tgSlots t) δ) <;> rfl
end
def endO (ow : List Bool) (f : Fl) : CRes := match f with
  | .nx δ => outR .non (outsE ow 0 δ)
  | .rt d δ => outR d (outsE ow 0 δ)
  | .er x δ => outX x (outsE ow 0 δ)
  | _ => .bad
where
  outR (d : D) : Option (List D) → CRes
    | some os => .rt d os
    | none => .bad
  outX (d : D) : Option (List D) → CRes
    | some os => .er d os
    | none => .bad
@[scoped simp] theorem endO_nx (ow δ) : endO ow (.nx δ) = endO.outR .non (outsE ow 0 δ) := rfl
@[scoped simp] theorem endO_rt (ow d δ) : endO ow (.rt d δ) = endO.outR d (outsE ow 0 δ) := rfl
@[scoped simp] theorem endO_er (ow d δ) : endO ow (.er d δ) = endO.outX d (outsE ow 0 δ) := rfl
@[scoped simp] theorem outR_some (d os) : endO.outR d (some os) = .rt d os := rfl
@[scoped simp] theorem outX_some (d os) : endO.outX d (some os) = .er d os := rfl
theorem endF_eq (fn : Fn) (f : Fl) : endF fn f = endO fn.ow f := by
  cases f <;> simp only [endF, endO] <;> cases outsE fn.ow 0 _ <;> rfl
def callB (Φ : Nat → Option Fn) (cf : CF) (ds : List D) : Option Fn → CRes
  | some fn => if ds.length = fn.ow.length ∧ fn.ow.length ≤ fn.sz then endO fn.ow (exs Φ cf fn.ro fn.body (startE fn ds)) else .bad
  | none => .bad
theorem callF_succ (Φ : Nat → Option Fn) (n f : Nat) (ds : List D) : callF Φ (n + 1) f ds = callB Φ (callF Φ n) ds (Φ f) := by
  simp only [callF, callB]
  cases Φ f with
  | none => rfl
  | some fn => simp only [endF_eq]
/-- a def's run: its body, from its slots -/
theorem call_run {Φ : Nat → Option Fn} {n f : Nat} {ds : List D} {fn : Fn} {r : CRes} (hf : Φ f = some fn) (hl : ds.length = fn.ow.length ∧ fn.ow.length ≤ fn.sz) (h : endO fn.ow (exs Φ (callF Φ n) fn.ro fn.body (startE fn ds)) = r) : callF Φ (n + 1) f ds = r := by
  rw [callF_succ, hf]
  simp only [callB]
  rw [if_pos hl, h]
@[scoped simp] theorem slot_z (s δ) : slot (s :: δ) 0 = s := rfl
@[scoped simp] theorem slot_s (s δ i) : slot (s :: δ) (i + 1) = slot δ i := rfl
@[scoped simp] theorem outsE_nil (i δ) : outsE [] i δ = some [] := rfl
@[scoped simp] theorem outsE_f (ms i δ) : outsE (false :: ms) i δ = outsE ms (i + 1) δ := rfl
def outC (d : D) : Option (List D) → Option (List D)
  | some os => some (d :: os)
  | none => none
@[scoped simp] theorem outC_some (d os) : outC d (some os) = some (d :: os) := rfl
def outT (ms : List Bool) (i : Nat) (δ : Env) : Option Sl → Option (List D)
  | some (.ow d) => outC d (outsE ms (i + 1) δ)
  | _ => none
@[scoped simp] theorem outT_ow (ms i δ d) : outT ms i δ (some (.ow d)) = outC d (outsE ms (i + 1) δ) := rfl
@[scoped simp] theorem outsE_t (ms i δ) : outsE (true :: ms) i δ = outT ms i δ (slot δ i) := by
  cases h : slot δ i with
  | none => simp only [outsE, h]; rfl
  | some s =>
    cases s with
    | sh d => simp only [outsE, h]; rfl
    | ow d =>
      simp only [outsE, h, outT]
      cases outsE ms (i + 1) δ <;> rfl
def owOf : Option Sl → Option D
  | some (.ow d) => some d
  | _ => none
@[scoped simp] theorem owOf_ow (d) : owOf (some (.ow d)) = some d := rfl
@[scoped simp] theorem owOf_sh (d) : owOf (some (.sh d)) = none := rfl
@[scoped simp] theorem getP_v (i δ) : getP (.v i) δ = owOf (slot δ i) := by
  simp only [getP, Pa.root, owOf]
  split <;> rename_i h <;> simp [h, Pa.keys, getAt]
@[scoped simp] theorem getP_ix (p e δ) : getP (.ix p e) δ = (getP p δ).bind fun d => (evIx e δ).bind fun k => subOf d k := by
  simp only [getP, Pa.root]
  cases h : slot δ p.root with
  | none => rfl
  | some s =>
    cases s with
    | sh d => rfl
    | ow d =>
      simp only [Pa.keys]
      cases p.keys δ with
      | none => rfl
      | some ks =>
        cases evIx e δ with
        | none => simp
        | some k =>
          simp only [Option.bind_some, Option.map_some]
          have : ∀ (ks : List D) (d : D), getAt d (ks ++ [k]) = (getAt d ks).bind fun d => subOf d k := by
            intro ks
            induction ks with
            | nil => intro d; simp only [List.nil_append, getAt, Option.bind_some]; cases subOf d k <;> rfl
            | cons a ks ih =>
              intro d
              simp only [List.cons_append, getAt]
              cases subOf d a with
              | none => rfl
              | some x => simp only [Option.bind_some]; exact ih x
          exact this ks d
@[scoped simp] theorem evIx_cst (d δ) : evIx (.cst d) δ = some d := rfl
def shOf : Option Sl → Option D
  | some (.sh d) => some d
  | _ => none
@[scoped simp] theorem shOf_sh (d) : shOf (some (.sh d)) = some d := rfl
@[scoped simp] theorem evIx_var (i δ) : evIx (.var i) δ = shOf (slot δ i) := by
  simp only [evIx]
  cases slot δ i with
  | none => rfl
  | some s => cases s <;> rfl
@[scoped simp] theorem setP_v (i y δ) : setP (.v i) y δ = (owOf (slot δ i)).bind fun _ => some (δ.set i (some (.ow y))) := by
  simp only [setP, Pa.root, owOf]
  split <;> rename_i h <;> simp [h, Pa.keys, putAt]
/-- one step deeper: the part at the key is exchanged in what stands at p -/
@[scoped simp] theorem setP_ix (p e y δ) : setP (.ix p e) y δ = (getP p δ).bind fun d => (evIx e δ).bind fun k => (subOf d k).bind fun _ => (subPutIn d k y).bind fun d' => setP p d' δ := by
  simp only [getP, setP, Pa.root]
  cases h : slot δ p.root with
  | none => rfl
  | some s =>
    cases s with
    | sh d => rfl
    | ow d =>
      simp only [Pa.keys]
      cases p.keys δ with
      | none => rfl
      | some ks =>
        cases evIx e δ with
        | none => simp
        | some k =>
          simp only [Option.bind_some, Option.map_some]
          have : ∀ (ks : List D) (d : D), putAt d (ks ++ [k]) y = (getAt d ks).bind fun d0 => (subOf d0 k).bind fun _ => (subPutIn d0 k y).bind fun d' => putAt d ks d' := by
            intro ks
            induction ks with
            | nil =>
              intro d
              simp only [List.nil_append, getAt, putAt, Option.bind_some]
              cases subOf d k <;> simp
            | cons a ks ih =>
              intro d
              simp only [List.cons_append, getAt, putAt]
              cases subOf d a with
              | none => rfl
              | some x =>
                simp only [Option.bind_some]
                rw [ih x]
                cases getAt x ks with
                | none => rfl
                | some d0 =>
                  simp only [Option.bind_some]
                  cases subOf d0 k with
                  | none => rfl
                  | some z =>
                    simp only [Option.bind_some]
                    cases subPutIn d0 k y <;> rfl
          rw [this ks d]
          cases getAt d ks with
          | none => rfl
          | some d0 =>
            simp only [Option.bind_some]
            cases subOf d0 k with
            | none => rfl
            | some z =>
              simp only [Option.bind_some]
              cases subPutIn d0 k y <;> simp
end PyM

set_option Elab.async false
set_option linter.all false
set_option maxRecDepth 100000
namespace PyM
open PyI
theorem LINE_eq : LINE = 16777216 := rfl
theorem okStr_eq {cs : List Nat} (h : cs.length ≤ 16777216) : okStr cs = some (.str cs) := by simp [okStr, fits, LINE, h]
theorem okTup_eq {cs : List D} (h : cs.length ≤ 16777216) : okTup cs = some (.tup cs) := by simp [okTup, fits, LINE, h]
theorem okLst_eq {cs : List D} (h : cs.length ≤ 16777216) : okLst cs = some (.lst cs) := by simp [okLst, fits, LINE, h]
@[scoped simp] theorem okTup0 : okTup [] = some (.tup []) := rfl
@[scoped simp] theorem okTup1 (a) : okTup [a] = some (.tup [a]) := rfl
@[scoped simp] theorem okTup2 (a b) : okTup [a, b] = some (.tup [a, b]) := rfl
@[scoped simp] theorem okTup3 (a b c) : okTup [a, b, c] = some (.tup [a, b, c]) := rfl
@[scoped simp] theorem okTup4 (a b c d) : okTup [a, b, c, d] = some (.tup [a, b, c, d]) := rfl
@[scoped simp] theorem okLst0 : okLst [] = some (.lst []) := rfl
@[scoped simp] theorem okLst1 (a) : okLst [a] = some (.lst [a]) := rfl
@[scoped simp] theorem okLst2 (a b) : okLst [a, b] = some (.lst [a, b]) := rfl
@[scoped simp] theorem okLst3 (a b c) : okLst [a, b, c] = some (.lst [a, b, c]) := rfl
@[scoped simp] theorem okLst4 (a b c d) : okLst [a, b, c, d] = some (.lst [a, b, c, d]) := rfl
@[scoped simp] theorem bin_add_ii (i j) : binS .add (.int i) (.int j) = some (.int (i + j)) := rfl
@[scoped simp] theorem bin_sub_ii (i j) : binS .sub (.int i) (.int j) = some (.int (i - j)) := rfl
@[scoped simp] theorem bin_add_ss (x y) : binS .add (.str x) (.str y) = okStr (x ++ y) := rfl
@[scoped simp] theorem bin_add_tt (x y) : binS .add (.tup x) (.tup y) = okTup (x ++ y) := rfl
@[scoped simp] theorem bin_add_ll (x y) : binS .add (.lst x) (.lst y) = okLst (x ++ y) := rfl
theorem bin_mul_ii {i j : Int} (h : (smallI i || smallI j) = true) : binS .mul (.int i) (.int j) = some (.int (i * j)) := by simp only [binS, h, if_true]
theorem bin_fdiv_ii {i j : Int} (h : 0 < j ∧ j < 1073741824) : binS .fdiv (.int i) (.int j) = some (.int (i / j)) := by simp only [binS, decide_eq_true_eq, if_pos h]
theorem bin_mod_ii {i j : Int} (h : 0 < j) : binS .mod (.int i) (.int j) = some (.int (i % j)) := by simp only [binS, decide_eq_true_eq, if_pos h]
theorem bin_pow_ii {i j : Int} (h : (decide (0 ≤ j ∧ j ≤ 1000) && smallI i) = true) : binS .pow (.int i) (.int j) = some (.int (i ^ j.toNat)) := by simp only [binS, h, if_true]
@[scoped simp] theorem smallI_eq (i : Int) : smallI i = decide (-18446744073709551616 < i ∧ i < 18446744073709551616) := rfl
@[scoped simp] theorem bin_mul_r {i j : Int} (h : -18446744073709551616 < j ∧ j < 18446744073709551616) : binS .mul (.int i) (.int j) = some (.int (i * j)) := bin_mul_ii (by simp [h])
theorem bin_mul_l {i j : Int} (h : -18446744073709551616 < i ∧ i < 18446744073709551616) : binS .mul (.int i) (.int j) = some (.int (i * j)) := bin_mul_ii (by simp [h])
@[scoped simp] theorem bin_fdiv_c {i j : Int} (h : 0 < j) (h' : j < 1073741824) : binS .fdiv (.int i) (.int j) = some (.int (i / j)) := bin_fdiv_ii ⟨h, h'⟩
@[scoped simp] theorem bin_mod_c {i j : Int} (h : 0 < j) : binS .mod (.int i) (.int j) = some (.int (i % j)) := bin_mod_ii h
@[scoped simp] theorem bin_pow_c {i j : Int} (h : 0 ≤ j) (h1 : j ≤ 1000) (h2 : -18446744073709551616 < i) (h3 : i < 18446744073709551616) : binS .pow (.int i) (.int j) = some (.int (i ^ j.toNat)) := bin_pow_ii (by simp [h, h1, h2, h3])
@[scoped simp] theorem truth_non : truth .non = some false := rfl
@[scoped simp] theorem truth_bl (b) : truth (.bl b) = some b := rfl
@[scoped simp] theorem truth_int (i) : truth (.int i) = some (i != 0) := rfl
@[scoped simp] theorem truth_str (i) : truth (.str i) = some (!i.isEmpty) := rfl
@[scoped simp] theorem truth_tup (i) : truth (.tup i) = some (!i.isEmpty) := rfl
@[scoped simp] theorem truth_lst (i) : truth (.lst i) = some (!i.isEmpty) := rfl
@[scoped simp] theorem kids_lst (xs) : (D.lst xs).kids = immAll xs := by simp only [D.kids]
@[scoped simp] theorem kids_tup (xs) : (D.tup xs).kids = immAll xs := by simp only [D.kids]
@[scoped simp] theorem kids_int (i) : (D.int i).kids = true := by simp only [D.kids]
@[scoped simp] theorem kids_str (i) : (D.str i).kids = true := by simp only [D.kids]
@[scoped simp] theorem kids_bl (i) : (D.bl i).kids = true := by simp only [D.kids]
@[scoped simp] theorem kids_non : D.non.kids = true := by simp only [D.kids]
@[scoped simp] theorem imm_int (i) : (D.int i).imm = true := by simp only [D.imm]
@[scoped simp] theorem imm_str (i) : (D.str i).imm = true := by simp only [D.imm]
@[scoped simp] theorem imm_bl (i) : (D.bl i).imm = true := by simp only [D.imm]
@[scoped simp] theorem imm_non : D.non.imm = true := by simp only [D.imm]
@[scoped simp] theorem imm_scr (i) : (D.scr i).imm = true := by simp only [D.imm]
@[scoped simp] theorem imm_tup (xs) : (D.tup xs).imm = immAll xs := by simp only [D.imm]
@[scoped simp] theorem imm_lst (xs) : (D.lst xs).imm = false := by simp only [D.imm]
@[scoped simp] theorem imm_dct (a b) : (D.dct a b).imm = false := by simp only [D.imm]
@[scoped simp] theorem imm_exc (a b) : (D.exc a b).imm = false := by simp only [D.imm]
@[scoped simp] theorem excI_exc (a b) : (D.exc a b).excI = immAll b := by simp only [D.excI]
@[scoped simp] theorem immAll_nil : immAll [] = true := by simp only [immAll]
@[scoped simp] theorem immAll_cons (x xs) : immAll (x :: xs) = (x.imm && immAll xs) := by simp only [immAll]
theorem immAll_iff {xs : List D} : immAll xs = true ↔ ∀ x ∈ xs, x.imm = true := by
  induction xs with
  | nil => simp
  | cons x xs ih => simp [ih]
@[scoped simp] theorem immAll_append (xs ys) : immAll (xs ++ ys) = (immAll xs && immAll ys) := by
  induction xs with
  | nil => simp
  | cons x xs ih => simp [ih, Bool.and_assoc]
theorem immAll_map {α : Type} (f : α → D) (xs : List α) (h : ∀ x ∈ xs, (f x).imm = true) : immAll (xs.map f) = true := immAll_iff.mpr (by simpa using h)
theorem fin_ok {o f : Bool} {d : D} {δ : Env} (h : d.imm = true) (h' : f = true → d.kids = true) : fin o f d δ = .ok d δ := by
  cases f
  · simp [fin, h]
  · simp [fin, h' rfl]
@[scoped simp] theorem fin_int (o f i δ) : fin o f (.int i) δ = .ok (.int i) δ := fin_ok (by simp) (by simp)
@[scoped simp] theorem fin_str (o f i δ) : fin o f (.str i) δ = .ok (.str i) δ := fin_ok (by simp) (by simp)
@[scoped simp] theorem fin_bl (o f i δ) : fin o f (.bl i) δ = .ok (.bl i) δ := fin_ok (by simp) (by simp)
@[scoped simp] theorem fin_non (o f δ) : fin o f .non δ = .ok .non δ := fin_ok (by simp) (by simp)
theorem fin_imm {o : Bool} {d : D} {δ : Env} (h : d.imm = true) : fin o false d δ = .ok d δ := by simp [fin, h]
theorem fin_kids {o : Bool} {d : D} {δ : Env} (h : d.kids = true) : fin o true d δ = .ok d δ := by simp [fin, h]
@[scoped simp] theorem askable_int (i) : askable (.int i) = true := by simp [askable, D.plain, D.deep]
@[scoped simp] theorem askable_bl (i) : askable (.bl i) = true := by simp [askable, D.plain, D.deep]
@[scoped simp] theorem askable_non : askable .non = true := by simp [askable, D.plain, D.deep]
@[scoped simp] theorem eqS_int (i j) : eqS (.int i) (.int j) = some (decide (i = j)) := by
  simp only [eqS, askable_int, Bool.and_self, if_true, eqv]
  by_cases h : i = j <;> simp [h]
@[scoped simp] theorem eqS_str (x y) : eqS (.str x) (.str y) = some (decide (x = y)) := rfl
@[scoped simp] theorem eqS_bl (i j) : eqS (.bl i) (.bl j) = some (decide (i = j)) := by
  simp only [eqS, askable_bl, Bool.and_self, if_true, eqv]
  by_cases h : i = j <;> simp [h]
theorem eqS_ask {a b : D} (ha : askable a = true) (hb : askable b = true) (hn : ∀ x, a ≠ .str x) : eqS a b = some (eqv a b) := by
  cases a <;> simp_all [eqS]
theorem plainAll_iff {xs : List D} : plainAll xs = true ↔ ∀ x ∈ xs, x.plain = true := by
  induction xs with
  | nil => simp [plainAll]
  | cons x xs ih => simp [plainAll, ih]
theorem deepAll_le {xs : List D} {k : Nat} (h : ∀ x ∈ xs, x.deep ≤ k) : deepAll xs ≤ k := by
  induction xs with
  | nil => simp [deepAll]
  | cons x xs ih =>
    simp only [deepAll]
    have h1 := h x List.mem_cons_self
    have h2 := ih fun y hy => h y (List.mem_cons_of_mem _ hy)
    omega
/-- plain, and so deep -/
def Pl (k : Nat) (d : D) : Prop := d.plain = true ∧ d.deep ≤ k
theorem Pl.ask {k : Nat} {d : D} (h : Pl k d) (hk : k ≤ 60) : askable d = true := by simp [askable, h.1, Nat.le_trans h.2 hk]
theorem pl_int (k i) : Pl k (.int i) := by simp [Pl, D.plain, D.deep]
theorem pl_bl (k i) : Pl k (.bl i) := by simp [Pl, D.plain, D.deep]
theorem pl_non (k) : Pl k .non := by simp [Pl, D.plain, D.deep]
theorem pl_str {k cs} (h : ∀ c ∈ cs, c < 1114112) : Pl k (.str cs) := by simpa [Pl, D.plain, D.deep] using h
theorem pl_lst {k xs} (h : ∀ x ∈ xs, Pl k x) : Pl (k + 1) (.lst xs) := by
  refine ⟨?_, ?_⟩
  · simp only [D.plain]; exact plainAll_iff.mpr fun x hx => (h x hx).1
  · simp only [D.deep]; exact Nat.succ_le_succ (deepAll_le fun x hx => (h x hx).2)
theorem pl_tup {k xs} (h : ∀ x ∈ xs, Pl k x) : Pl (k + 1) (.tup xs) := by
  refine ⟨?_, ?_⟩
  · simp only [D.plain]; exact plainAll_iff.mpr fun x hx => (h x hx).1
  · simp only [D.deep]; exact Nat.succ_le_succ (deepAll_le fun x hx => (h x hx).2)
theorem Pl.mono {k j d} (h : Pl k d) (hk : k ≤ j) : Pl j d := ⟨h.1, Nat.le_trans h.2 hk⟩
@[scoped simp] theorem askable_nil : askable (.lst []) = true := by simp [askable, D.plain, D.deep, plainAll, deepAll]
theorem askable_ints (xs : List Int) : askable (.lst (xs.map .int)) = true := Pl.ask (k := 1) (pl_lst (k := 0) (by intro x hx; obtain ⟨i, _, rfl⟩ := List.mem_map.mp hx; exact pl_int _ _)) (by omega)
theorem eqS_nil {xs : List D} (h : askable (.lst xs) = true) : eqS (.lst xs) (.lst []) = some xs.isEmpty := by
  simp only [eqS, h, askable_nil, Bool.and_self, if_true, eqv]
  cases xs <;> simp [eqvs]
@[scoped simp] theorem eqS_ints_nil (xs : List Int) : eqS (.lst (xs.map .int)) (.lst []) = some xs.isEmpty := by rw [eqS_nil (askable_ints xs)]; cases xs <;> rfl
@[scoped simp] theorem eqS_nil_nil : eqS (.lst []) (.lst []) = some true := by rw [eqS_nil askable_nil]; rfl
theorem eqS_cons_nil {x : D} {xs : List D} (h : askable (.lst (x :: xs)) = true) : eqS (.lst (x :: xs)) (.lst []) = some false := by rw [eqS_nil h]; rfl
@[scoped simp] theorem cmp_eq (a b) : cmpS .eq a b = eqS a b := rfl
@[scoped simp] theorem cmp_ne (a b) : cmpS .ne a b = (eqS a b).map (!·) := rfl
@[scoped simp] theorem cmp_in (a b) : cmpS .in_ a b = inS a b := rfl
@[scoped simp] theorem cmp_nin (a b) : cmpS .nin a b = (inS a b).map (!·) := rfl
@[scoped simp] theorem cmp_lt_i (i j) : cmpS .lt (.int i) (.int j) = some (decide (i < j)) := rfl
@[scoped simp] theorem cmp_lt_s (i j) : cmpS .lt (.str i) (.str j) = some (ltList i j) := rfl
@[scoped simp] theorem cmp_le_i (i j) : cmpS .le (.int i) (.int j) = some (decide (i ≤ j)) := rfl
@[scoped simp] theorem cmp_gt_i (i j) : cmpS .gt (.int i) (.int j) = some (decide (j < i)) := rfl
@[scoped simp] theorem cmp_ge_i (i j) : cmpS .ge (.int i) (.int j) = some (decide (j ≤ i)) := rfl
@[scoped simp] theorem cmp_is_non (a) : cmpS .is a .non = some (decide (a = .non)) := rfl
@[scoped simp] theorem cmp_isn_non (a) : cmpS .isn a .non = some (!decide (a = .non)) := rfl
@[scoped simp] theorem in_str (c y) : inS (.str [c]) (.str y) = some (decide (c ∈ y)) := rfl
theorem in_lst {a : D} {xs : List D} (h : askable a = true) (h' : askable (.lst xs) = true) : inS a (.lst xs) = some (xs.any fun x => eqv x a) := by simp [inS, h, h']
theorem in_tup {a : D} {xs : List D} (h : isFlat a = true) (h' : xs.all isFlat = true) : inS a (.tup xs) = some (xs.any fun x => eqv x a) := by simp only [inS, h, h', Bool.and_self, if_true]
@[scoped simp] theorem in_dct_i (i ks vs) : inS (.int i) (.dct ks vs) = some (dhas ks (.int i)) := rfl
@[scoped simp] theorem in_dct_s (i ks vs) : inS (.str i) (.dct ks vs) = some (dhas ks (.str i)) := rfl
@[scoped simp] theorem place_nat (n k : Nat) : place n (k : Int) = if k < n then some k else none := by simp [place]
theorem bind_lt {α : Type} (xs : List α) (k : Nat) : ((if k < xs.length then some k else none : Option Nat).bind fun k => xs[k]?) = xs[k]? := by
  by_cases h : k < xs.length
  · simp [h]
  · simp [h, Nat.le_of_not_lt h]
@[scoped simp] theorem idx_lst (xs : List D) (k : Nat) : idxS (.lst xs) (.int (k : Int)) = xs[k]? := by simp only [idxS, place_nat, bind_lt]
@[scoped simp] theorem idx_tup (xs : List D) (k : Nat) : idxS (.tup xs) (.int (k : Int)) = xs[k]? := by simp only [idxS, place_nat, bind_lt]
@[scoped simp] theorem idx_str (cs : List Nat) (k : Nat) : idxS (.str cs) (.int (k : Int)) = cs[k]?.map fun c => .str [c] := by
  simp only [idxS, place_nat]
  by_cases h : k < cs.length
  · simp [h]
  · simp [h, Nat.le_of_not_lt h]
@[scoped simp] theorem idx_lst_0 (xs : List D) : idxS (.lst xs) (.int 0) = xs[0]? := idx_lst xs 0
@[scoped simp] theorem idx_tup_0 (xs : List D) : idxS (.tup xs) (.int 0) = xs[0]? := idx_tup xs 0
@[scoped simp] theorem idx_lst_1 (xs : List D) : idxS (.lst xs) (.int 1) = xs[1]? := idx_lst xs 1
@[scoped simp] theorem idx_tup_1 (xs : List D) : idxS (.tup xs) (.int 1) = xs[1]? := idx_tup xs 1
@[scoped simp] theorem idx_lst_2 (xs : List D) : idxS (.lst xs) (.int 2) = xs[2]? := idx_lst xs 2
@[scoped simp] theorem idx_tup_2 (xs : List D) : idxS (.tup xs) (.int 2) = xs[2]? := idx_tup xs 2
@[scoped simp] theorem idx_lst_3 (xs : List D) : idxS (.lst xs) (.int 3) = xs[3]? := idx_lst xs 3
@[scoped simp] theorem idx_tup_3 (xs : List D) : idxS (.tup xs) (.int 3) = xs[3]? := idx_tup xs 3
@[scoped simp] theorem idx_lst_4 (xs : List D) : idxS (.lst xs) (.int 4) = xs[4]? := idx_lst xs 4
@[scoped simp] theorem idx_tup_4 (xs : List D) : idxS (.tup xs) (.int 4) = xs[4]? := idx_tup xs 4
@[scoped simp] theorem idx_lst_5 (xs : List D) : idxS (.lst xs) (.int 5) = xs[5]? := idx_lst xs 5
@[scoped simp] theorem idx_tup_5 (xs : List D) : idxS (.tup xs) (.int 5) = xs[5]? := idx_tup xs 5
@[scoped simp] theorem idx_lst_6 (xs : List D) : idxS (.lst xs) (.int 6) = xs[6]? := idx_lst xs 6
@[scoped simp] theorem idx_tup_6 (xs : List D) : idxS (.tup xs) (.int 6) = xs[6]? := idx_tup xs 6
@[scoped simp] theorem idx_lst_7 (xs : List D) : idxS (.lst xs) (.int 7) = xs[7]? := idx_lst xs 7
@[scoped simp] theorem idx_tup_7 (xs : List D) : idxS (.tup xs) (.int 7) = xs[7]? := idx_tup xs 7
@[scoped simp] theorem idx_lst_8 (xs : List D) : idxS (.lst xs) (.int 8) = xs[8]? := idx_lst xs 8
@[scoped simp] theorem idx_tup_8 (xs : List D) : idxS (.tup xs) (.int 8) = xs[8]? := idx_tup xs 8
@[scoped simp] theorem idx_lst_9 (xs : List D) : idxS (.lst xs) (.int 9) = xs[9]? := idx_lst xs 9
@[scoped simp] theorem idx_tup_9 (xs : List D) : idxS (.tup xs) (.int 9) = xs[9]? := idx_tup xs 9
@[scoped simp] theorem idx_str_0 (xs : List Nat) : idxS (.str xs) (.int 0) = xs[0]?.map fun c => .str [c] := idx_str xs 0
theorem idx_dct {k : D} (ks vs : List D) (h : keyOk k = true) : idxS (.dct ks vs) k = dget ks vs k := by simp [idxS, h]
@[scoped simp] theorem idx_dct_i (ks vs : List D) (i) : idxS (.dct ks vs) (.int i) = dget ks vs (.int i) := rfl
@[scoped simp] theorem idx_dct_s (ks vs : List D) (i) : idxS (.dct ks vs) (.str i) = dget ks vs (.str i) := rfl
/-- a slice between two places -/
def mid {α : Type} (xs : List α) (i j : Nat) : List α := (xs.take j).drop i
theorem clampS_nat (n k : Nat) : clampS n (k : Int) = min k n := by simp [clampS]
theorem cut_nn {α : Type} (xs : List α) (i j : Nat) : cut xs (some (i : Int)) (some (j : Int)) = mid xs i j := by
  simp only [cut, clampS_nat, mid]
  have e : xs.take (min j xs.length) = xs.take j := by
    by_cases h : j ≤ xs.length
    · rw [Nat.min_eq_left h]
    · rw [Nat.min_eq_right (by omega), List.take_of_length_le (by omega), List.take_of_length_le (by omega)]
  rw [e]
  by_cases h : i ≤ xs.length
  · rw [Nat.min_eq_left h]
  · rw [Nat.min_eq_right (by omega), List.drop_of_length_le (by rw [List.length_take]; omega), List.drop_of_length_le (by rw [List.length_take]; omega)]
theorem cut_n_ {α : Type} (xs : List α) (i : Nat) : cut xs (some (i : Int)) none = xs.drop i := by
  simp only [cut, clampS_nat, List.take_length]
  by_cases h : i ≤ xs.length
  · rw [Nat.min_eq_left h]
  · rw [Nat.min_eq_right (by omega), List.drop_of_length_le (Nat.le_refl _), List.drop_of_length_le (by omega)]
theorem cut_1_ {α : Type} (xs : List α) : cut xs (some 1) none = xs.drop 1 := cut_n_ xs 1
theorem cut__n {α : Type} (xs : List α) (j : Nat) : cut xs none (some (j : Int)) = xs.take j := by
  simp only [cut, clampS_nat, List.drop_zero]
  by_cases h : j ≤ xs.length
  · rw [Nat.min_eq_left h]
  · rw [Nat.min_eq_right (by omega), List.take_of_length_le (by omega), List.take_of_length_le (by omega)]
theorem cut___ {α : Type} (xs : List α) : cut xs none none = xs := by simp [cut]
@[scoped simp] theorem slc_str (a lo hi) : slcS (.str a) lo hi = some (.str (cut a lo hi)) := rfl
@[scoped simp] theorem slc_lst (a lo hi) : slcS (.lst a) lo hi = some (.lst (cut a lo hi)) := rfl
@[scoped simp] theorem slc_tup (a lo hi) : slcS (.tup a) lo hi = some (.tup (cut a lo hi)) := rfl
@[scoped simp] theorem endOf_nil : endOf [] = some none := rfl
@[scoped simp] theorem endOf_int (i) : endOf [.int i] = some (some i) := rfl
@[scoped simp] theorem len_str (x) : biS .len [.str x] = some (.int x.length) := rfl
@[scoped simp] theorem len_tup (x) : biS .len [.tup x] = some (.int x.length) := rfl
@[scoped simp] theorem len_lst (x) : biS .len [.lst x] = some (.int x.length) := rfl
@[scoped simp] theorem len_scr (x) : biS .len [.scr x] = some (.int x.length) := rfl
@[scoped simp] theorem len_dct (x y) : biS .len [.dct x y] = some (.int x.length) := rfl
@[scoped simp] theorem bi_int (i) : biS .int [.int i] = some (.int i) := rfl
@[scoped simp] theorem bi_abs (i) : biS .abs [.int i] = some (.int (if i < 0 then -i else i)) := rfl
@[scoped simp] theorem bi_min (i j) : biS .min2 [.int i, .int j] = some (.int (if j < i then j else i)) := rfl
@[scoped simp] theorem bi_max (i j) : biS .max2 [.int i, .int j] = some (.int (if j > i then j else i)) := rfl
@[scoped simp] theorem bi_list_lst (xs) : biS .list [.lst xs] = some (.lst xs) := rfl
@[scoped simp] theorem bi_list_tup (xs) : biS .list [.tup xs] = some (.lst xs) := rfl
@[scoped simp] theorem bi_tuple_lst (xs) : biS .tuple [.lst xs] = some (.tup xs) := rfl
@[scoped simp] theorem bi_repr (d) : biS .repr [d] = (shownOf d).map .str := rfl
theorem boolsOf_map {α : Type} (f : α → Bool) (xs : List α) : boolsOf (xs.map fun x => .bl (f x)) = some (xs.map f) := by
  induction xs with
  | nil => rfl
  | cons x xs ih => simp [boolsOf, ih]
theorem bi_all {α : Type} (f : α → Bool) (xs : List α) : biS .all [.lst (xs.map fun x => .bl (f x))] = some (.bl (xs.all f)) := by
  simp only [biS, allS, boolsOf_map, Option.map_some]
  simp [List.all_map, Function.comp_def]
theorem bi_any {α : Type} (f : α → Bool) (xs : List α) : biS .any [.lst (xs.map fun x => .bl (f x))] = some (.bl (xs.any f)) := by
  simp only [biS, anyS, boolsOf_map, Option.map_some]
  simp [List.any_map, Function.comp_def]
theorem strsOf_map (xs : List (List Nat)) : strsOf (xs.map .str) = some xs := by
  induction xs with
  | nil => rfl
  | cons x xs ih => simp [strsOf, ih]
theorem intsOf_map {α : Type} (f : α → Int) (xs : List α) : intsOf (xs.map fun x => .int (f x)) = some (xs.map f) := by
  induction xs with
  | nil => rfl
  | cons x xs ih => simp [intsOf, ih]
@[scoped simp] theorem items_lst (xs) : itemsOf (.lst xs) = some xs := rfl
@[scoped simp] theorem items_tup (xs) : itemsOf (.tup xs) = some xs := rfl
@[scoped simp] theorem items_scr (xs) : itemsOf (.scr xs) = some (xs.map .int) := rfl
@[scoped simp] theorem items_str (xs) : itemsOf (.str xs) = some (xs.map fun c => .str [c]) := rfl
@[scoped simp] theorem isL_lst (xs) : (D.lst xs).isL = true := rfl
@[scoped simp] theorem isL_dct (xs ys) : (D.dct xs ys).isL = false := rfl
@[scoped simp] theorem isL_append : Pm.append.isL = true := rfl
@[scoped simp] theorem isL_pop0 : Pm.pop0.isL = true := rfl
@[scoped simp] theorem isL_popAt : Pm.popAt.isL = true := rfl
@[scoped simp] theorem fresh_list : Bi.list.fresh = true := rfl
@[scoped simp] theorem fresh_sorted : Bi.sorted.fresh = true := rfl
@[scoped simp] theorem fresh_dict : Bi.dict.fresh = true := rfl
@[scoped simp] theorem fresh_len : Bi.len.fresh = false := rfl
@[scoped simp] theorem fresh_tuple : Bi.tuple.fresh = false := rfl
@[scoped simp] theorem fresh_int : Bi.int.fresh = false := rfl
@[scoped simp] theorem fresh_abs : Bi.abs.fresh = false := rfl
@[scoped simp] theorem fresh_repr : Bi.repr.fresh = false := rfl
@[scoped simp] theorem fresh_all : Bi.all.fresh = false := rfl
@[scoped simp] theorem fresh_any : Bi.any.fresh = false := rfl
@[scoped simp] theorem fresh_sum : Bi.sum.fresh = false := rfl
@[scoped simp] theorem fresh_min2 : Bi.min2.fresh = false := rfl
@[scoped simp] theorem fresh_max2 : Bi.max2.fresh = false := rfl
theorem pm_append {xs : List D} {v : D} (h : xs.length < 16777216) : pmS .append (.lst xs) [v] = some (.non, .lst (xs ++ [v])) := by simp [pmS, LINE, h]
theorem pm_pop_0 {x : D} {xs : List D} : pmS .popAt (.lst (x :: xs)) [.int 0] = some (x, .lst xs) := by simp [pmS, place]
@[scoped simp] theorem isBor_var (i) : isBor (.var i) = false := rfl
@[scoped simp] theorem isBor_bor (i) : isBor (.bor i) = true := rfl
@[scoped simp] theorem isBor_cst (i) : isBor (.cst i) = false := rfl
@[scoped simp] theorem isBor_bin (a b c) : isBor (.bin a b c) = false := rfl
@[scoped simp] theorem isBor_tup (a) : isBor (.tup a) = false := rfl
@[scoped simp] theorem isBor_lst (a) : isBor (.lst a) = false := rfl
@[scoped simp] theorem isBor_dct (a b) : isBor (.dct a b) = false := rfl
@[scoped simp] theorem isBor_call (a b) : isBor (.call a b) = false := rfl
@[scoped simp] theorem isBor_bi (a b) : isBor (.bi a b) = false := rfl
@[scoped simp] theorem isBor_mt (a b c) : isBor (.mt a b c) = false := rfl
@[scoped simp] theorem isBor_pm (a b c) : isBor (.pm a b c) = false := rfl
@[scoped simp] theorem isBor_idx (a b) : isBor (.idx a b) = false := rfl
@[scoped simp] theorem isBor_slc (a b c) : isBor (.slc a b c) = false := rfl
@[scoped simp] theorem isBor_lc (a b c d) : isBor (.lc a b c d) = false := rfl
@[scoped simp] theorem isBor_ite (a b c) : isBor (.ite a b c) = false := rfl
@[scoped simp] theorem isBor_rev (a) : isBor (.rev a) = false := rfl
@[scoped simp] theorem isBor_fld (a b) : isBor (.fld a b) = false := rfl
@[scoped simp] theorem isBor_caught (a) : isBor (.caught a) = false := rfl
@[scoped simp] theorem isBor_neg (a) : isBor (.neg a) = false := rfl
@[scoped simp] theorem isBor_not (a) : isBor (.not_ a) = false := rfl
@[scoped simp] theorem isBor_and (a b) : isBor (.and_ a b) = false := rfl
@[scoped simp] theorem isBor_or (a b) : isBor (.or_ a b) = false := rfl
@[scoped simp] theorem isBor_cmp (a b c) : isBor (.cmp a b c) = false := rfl
@[scoped simp] theorem isBor_chn (a b c d e) : isBor (.chn a b c d e) = false := rfl
@[scoped simp] theorem isBor_isi (a b) : isBor (.isi a b) = false := rfl
@[scoped simp] theorem exs_hb_nil : Exs.hasBor .nil = false := rfl
@[scoped simp] theorem exs_hb_cons (a b) : Exs.hasBor (.cons a b) = (isBor a || b.hasBor) := rfl
@[scoped simp] theorem as_hb_nil : As.hasBor .nil = false := rfl
@[scoped simp] theorem as_hb_val (a b) : As.hasBor (.val a b) = (isBor a || b.hasBor) := rfl
@[scoped simp] theorem as_hb_io (a b) : As.hasBor (.io a b) = b.hasBor := rfl
@[scoped simp] theorem args_nil (δ) : argsOf .nil [] [] δ = some [] := rfl
@[scoped simp] theorem args_val (e r ms x xs δ) : argsOf (.val e r) (false :: ms) (x :: xs) δ = (argsOf r ms xs δ).map (x :: ·) := rfl
def argI (r : As) (ms : List Bool) (xs : List D) (δ : Env) : Option D → Option (List D)
  | some x => (argsOf r ms xs δ).map (x :: ·)
  | none => none
@[scoped simp] theorem argI_some (r ms xs δ x) : argI r ms xs δ (some x) = (argsOf r ms xs δ).map (x :: ·) := rfl
@[scoped simp] theorem args_io (p r ms xs δ) : argsOf (.io p r) (true :: ms) xs δ = argI r ms xs δ (getP p δ) := by
  simp only [argsOf]
  cases getP p δ <;> rfl
@[scoped simp] theorem putOs_nil (δ) : putOs .nil [] δ = some δ := rfl
@[scoped simp] theorem putOs_val (e r os δ) : putOs (.val e r) os δ = putOs r os δ := by simp only [putOs]
def putI (r : As) (os : List D) : Option Env → Option Env
  | some δ => putOs r os δ
  | none => none
@[scoped simp] theorem putI_some (r os δ) : putI r os (some δ) = putOs r os δ := rfl
@[scoped simp] theorem putOs_io (p r x os δ) : putOs (.io p r) (x :: os) δ = putI r os (setP p x δ) := by
  simp only [putOs]
  cases setP p x δ <;> rfl
def rtR (ro q : Bool) (r : D) : Option Env → Out
  | some δ2 => if ro || !q || r.imm then .ok r δ2 else .bad
  | none => .bad
def erR (x : D) : Option Env → Out
  | some δ2 => if x.excI then .er x δ2 else .bad
  | none => .bad
@[scoped simp] theorem rtR_some (ro q r δ) : rtR ro q r (some δ) = if ro || !q || r.imm then .ok r δ else .bad := rfl
@[scoped simp] theorem erR_some (r δ) : erR r (some δ) = if r.excI then .er r δ else .bad := rfl
@[scoped simp] theorem retR_rt (ro q es δ r os) : retR ro q es δ (.rt r os) = rtR ro q r (putOs es os δ) := by
  simp only [retR]
  cases putOs es os δ <;> rfl
@[scoped simp] theorem retR_er (ro q es δ r os) : retR ro q es δ (.er r os) = erR r (putOs es os δ) := by
  simp only [retR]
  cases putOs es os δ <;> rfl
@[scoped simp] theorem bindT_nm (o i d δ) : bindT (.nm o i) d δ = if i < δ.length then some (δ.set i (some (if o then .ow d else .sh d))) else none := by simp only [bindT]
@[scoped simp] theorem bindT_tp (ts xs δ) : bindT (.tp ts) (.tup xs) δ = bindTs ts xs δ := by simp only [bindT]
@[scoped simp] theorem bindTs_nil (δ) : bindTs [] [] δ = some δ := by simp only [bindTs]
@[scoped simp] theorem bindTs_cons (t ts x xs δ) : bindTs (t :: ts) (x :: xs) δ = (bindT t x δ).bind fun δ' => bindTs ts xs δ' := by simp only [bindTs]
@[scoped simp] theorem storeAll_nil (δ) : storeAll [] [] δ = some δ := rfl
@[scoped simp] theorem storeAll_cons (t ts x xs δ) : storeAll (t :: ts) (x :: xs) δ = (bindT (.nm t.1 t.2) x δ).bind fun δ' => storeAll ts xs δ' := rfl
@[scoped simp] theorem tgSlots_nm (o i) : tgSlots (.nm o i) = [i] := by simp only [tgSlots]
@[scoped simp] theorem tgSlots_tp (ts) : tgSlots (.tp ts) = tgsSlots ts := by simp only [tgSlots]
@[scoped simp] theorem tgsSlots_nil : tgsSlots [] = [] := by simp only [tgsSlots]
@[scoped simp] theorem tgsSlots_cons (t ts) : tgsSlots (t :: ts) = tgSlots t ++ tgsSlots ts := by simp only [tgsSlots]
@[scoped simp] theorem clr_nil (δ) : clr [] δ = δ := rfl
@[scoped simp] theorem clr_cons (i is δ) : clr (i :: is) δ = clr is (δ.set i none) := rfl
@[scoped simp] theorem restore_nil (δ δ') : restore [] δ δ' = δ' := rfl
@[scoped simp] theorem restore_cons (i is δ δ') : restore (i :: is) δ δ' = restore is δ (δ'.set i (slot δ i)) := rfl
def notOw : Option Sl → Bool
  | some (.ow _) => false
  | _ => true
@[scoped simp] theorem notOw_none : notOw none = true := rfl
@[scoped simp] theorem notOw_sh (d) : notOw (some (.sh d)) = true := rfl
@[scoped simp] theorem noOw_nil (δ) : noOw [] δ = true := rfl
@[scoped simp] theorem noOw_cons (i is δ) : noOw (i :: is) δ = (notOw (slot δ i) && noOw is δ) := by
  simp only [noOw, List.all_cons]
  cases slot δ i with
  | none => rfl
  | some s => cases s <;> rfl
@[scoped simp] theorem notLst_int (i) : notLst (.int i) = true := rfl
@[scoped simp] theorem notLst_str (i) : notLst (.str i) = true := rfl
@[scoped simp] theorem notLst_tup (i) : notLst (.tup i) = true := rfl
@[scoped simp] theorem augOk_add_ii (i j) : augOk .add (.int i) (.int j) = true := rfl
@[scoped simp] theorem augOk_sub_ii (i j) : augOk .sub (.int i) (.int j) = true := rfl
@[scoped simp] theorem augOk_mul_ii (i j) : augOk .mul (.int i) (.int j) = true := rfl
@[scoped simp] theorem augOk_ss (op i j) : augOk op (.str i) (.str j) = true := rfl
/-- no error object -/
def noX : D → Bool
  | .exc _ _ => false
  | _ => true
@[scoped simp] theorem tyAny_nil (d) : tyAny d [] = some false := rfl
def tyC (d : D) (ts : List Ty) : Option Bool → Option Bool
  | some true => some true
  | some false => tyAny d ts
  | none => none
@[scoped simp] theorem tyC_t (d ts) : tyC d ts (some true) = some true := rfl
@[scoped simp] theorem tyC_f (d ts) : tyC d ts (some false) = tyAny d ts := rfl
theorem tyC_nil (d) (o : Option Bool) : tyC d [] o = o := by
  cases o with
  | none => rfl
  | some b => cases b <;> rfl
@[scoped simp] theorem tyAny_cons (d t ts) : tyAny d (t :: ts) = tyC d ts (tyIs d t) := by
  simp only [tyAny]
  cases tyIs d t with
  | none => rfl
  | some b => cases b <;> rfl
@[scoped simp] theorem tyIs_non_int : tyIs .non .int = some false := rfl
@[scoped simp] theorem tyIs_non_bool : tyIs .non .bool = some false := rfl
@[scoped simp] theorem tyIs_non_str : tyIs .non .str = some false := rfl
@[scoped simp] theorem tyIs_non_tup : tyIs .non .tup = some false := rfl
@[scoped simp] theorem tyIs_non_lst : tyIs .non .lst = some false := rfl
@[scoped simp] theorem tyIs_non_dct : tyIs .non .dct = some false := rfl
@[scoped simp] theorem tyIs_bl_int (b) : tyIs (.bl b) .int = some true := rfl
@[scoped simp] theorem tyIs_bl_bool (b) : tyIs (.bl b) .bool = some true := rfl
@[scoped simp] theorem tyIs_bl_str (b) : tyIs (.bl b) .str = some false := rfl
@[scoped simp] theorem tyIs_bl_tup (b) : tyIs (.bl b) .tup = some false := rfl
@[scoped simp] theorem tyIs_bl_lst (b) : tyIs (.bl b) .lst = some false := rfl
@[scoped simp] theorem tyIs_bl_dct (b) : tyIs (.bl b) .dct = some false := rfl
@[scoped simp] theorem tyIs_int_int (i) : tyIs (.int i) .int = some true := rfl
@[scoped simp] theorem tyIs_int_bool (i) : tyIs (.int i) .bool = some false := rfl
@[scoped simp] theorem tyIs_int_str (i) : tyIs (.int i) .str = some false := rfl
@[scoped simp] theorem tyIs_int_tup (i) : tyIs (.int i) .tup = some false := rfl
@[scoped simp] theorem tyIs_int_lst (i) : tyIs (.int i) .lst = some false := rfl
@[scoped simp] theorem tyIs_int_dct (i) : tyIs (.int i) .dct = some false := rfl
@[scoped simp] theorem tyIs_str_int (x) : tyIs (.str x) .int = some false := rfl
@[scoped simp] theorem tyIs_str_bool (x) : tyIs (.str x) .bool = some false := rfl
@[scoped simp] theorem tyIs_str_str (x) : tyIs (.str x) .str = some true := rfl
@[scoped simp] theorem tyIs_str_tup (x) : tyIs (.str x) .tup = some false := rfl
@[scoped simp] theorem tyIs_str_lst (x) : tyIs (.str x) .lst = some false := rfl
@[scoped simp] theorem tyIs_str_dct (x) : tyIs (.str x) .dct = some false := rfl
@[scoped simp] theorem tyIs_tup_int (x) : tyIs (.tup x) .int = some false := rfl
@[scoped simp] theorem tyIs_tup_bool (x) : tyIs (.tup x) .bool = some false := rfl
@[scoped simp] theorem tyIs_tup_str (x) : tyIs (.tup x) .str = some false := rfl
@[scoped simp] theorem tyIs_tup_tup (x) : tyIs (.tup x) .tup = some true := rfl
@[scoped simp] theorem tyIs_tup_lst (x) : tyIs (.tup x) .lst = some false := rfl
@[scoped simp] theorem tyIs_tup_dct (x) : tyIs (.tup x) .dct = some false := rfl
@[scoped simp] theorem tyIs_lst_int (x) : tyIs (.lst x) .int = some false := rfl
@[scoped simp] theorem tyIs_lst_bool (x) : tyIs (.lst x) .bool = some false := rfl
@[scoped simp] theorem tyIs_lst_str (x) : tyIs (.lst x) .str = some false := rfl
@[scoped simp] theorem tyIs_lst_tup (x) : tyIs (.lst x) .tup = some false := rfl
@[scoped simp] theorem tyIs_lst_lst (x) : tyIs (.lst x) .lst = some true := rfl
@[scoped simp] theorem tyIs_lst_dct (x) : tyIs (.lst x) .dct = some false := rfl
@[scoped simp] theorem tyIs_dct_int (x y) : tyIs (.dct x y) .int = some false := rfl
@[scoped simp] theorem tyIs_dct_bool (x y) : tyIs (.dct x y) .bool = some false := rfl
@[scoped simp] theorem tyIs_dct_str (x y) : tyIs (.dct x y) .str = some false := rfl
@[scoped simp] theorem tyIs_dct_tup (x y) : tyIs (.dct x y) .tup = some false := rfl
@[scoped simp] theorem tyIs_dct_lst (x y) : tyIs (.dct x y) .lst = some false := rfl
@[scoped simp] theorem tyIs_dct_dct (x y) : tyIs (.dct x y) .dct = some true := rfl
@[scoped simp] theorem tyIs_scr_int (x) : tyIs (.scr x) .int = some false := rfl
@[scoped simp] theorem tyIs_scr_bool (x) : tyIs (.scr x) .bool = some false := rfl
@[scoped simp] theorem tyIs_scr_str (x) : tyIs (.scr x) .str = some false := rfl
@[scoped simp] theorem tyIs_scr_tup (x) : tyIs (.scr x) .tup = some false := rfl
@[scoped simp] theorem tyIs_scr_lst (x) : tyIs (.scr x) .lst = some true := rfl
@[scoped simp] theorem tyIs_scr_dct (x) : tyIs (.scr x) .dct = some false := rfl
@[scoped simp] theorem tyIs_exc_err (c fs e) : tyIs (.exc c fs) (.err e) = some (decide (c = e) || decide (e = 0)) := rfl
@[scoped simp] theorem tyIs_non_err (e) : tyIs .non (.err e) = some false := rfl
@[scoped simp] theorem dget_nil (vs k) : dget [] vs k = none := by cases vs <;> rfl
@[scoped simp] theorem dget_cons (a as b bs k) : dget (a :: as) (b :: bs) k = if a = k then some b else dget as bs k := rfl
@[scoped simp] theorem dhas_nil (k) : dhas [] k = false := rfl
@[scoped simp] theorem dhas_cons (a as k) : dhas (a :: as) k = (decide (a = k) || dhas as k) := rfl
@[scoped simp] theorem dputV_cons (a as b bs k v) : dputV (a :: as) (b :: bs) k v = if a = k then v :: bs else b :: dputV as bs k v := rfl
@[scoped simp] theorem subOf_dct_s (ks vs i) : subOf (.dct ks vs) (.str i) = dget ks vs (.str i) := rfl
@[scoped simp] theorem subOf_dct_i (ks vs i) : subOf (.dct ks vs) (.int i) = dget ks vs (.int i) := rfl
@[scoped simp] theorem subOf_lst (xs) (k : Nat) : subOf (.lst xs) (.int (k : Int)) = xs[k]? := by simp only [subOf, place_nat, bind_lt]
section
variable {Φ : Nat → Option Fn} {cf : CF} {ro : Bool}
/-- one turn of a walk -/
def turnO (Φ : Nat → Option Fn) (cf : CF) (ro : Bool) (b : Ss) : Option Env → Fl
  | some δ3 => exs Φ cf ro b δ3
  | none => .bad
def turn (Φ : Nat → Option Fn) (cf : CF) (ro : Bool) (t : Tg) (b : Ss) (x : D) (δ : Env) : Fl := turnO Φ cf ro b (bindT t x δ)
@[scoped simp] theorem turn_eq (t b x δ) : turn Φ cf ro t b x δ = turnO Φ cf ro b (bindT t x δ) := rfl
@[scoped simp] theorem turnO_some (b δ) : turnO Φ cf ro b (some δ) = exs Φ cf ro b δ := rfl
theorem forR_nil (t b δ) : forR Φ cf ro t b [] δ = .nx δ := rfl
def nextR (k : Env → Fl) : Fl → Fl
  | .nx δ => k δ
  | .ct δ => k δ
  | .bk δ => .nx δ
  | .rt d δ => .rt d δ
  | .er d δ => .er d δ
  | .bad => .bad
@[scoped simp] theorem nextR_nx (k δ) : nextR k (.nx δ) = k δ := rfl
@[scoped simp] theorem nextR_ct (k δ) : nextR k (.ct δ) = k δ := rfl
@[scoped simp] theorem nextR_bk (k δ) : nextR k (.bk δ) = .nx δ := rfl
@[scoped simp] theorem nextR_rt (k d δ) : nextR k (.rt d δ) = .rt d δ := rfl
@[scoped simp] theorem nextR_er (k d δ) : nextR k (.er d δ) = .er d δ := rfl
theorem forR_cons (t b x xs δ) : forR Φ cf ro t b (x :: xs) δ = nextR (forR Φ cf ro t b xs) (turn Φ cf ro t b x δ) := by
  simp only [forR, forGo, turn]
  cases bindT t x δ with
  | none => rfl
  | some δ3 =>
    simp only [turnO]
    cases exs Φ cf ro b δ3 <;> rfl
/-- all turns go on -/
theorem forR_inv {t : Tg} {b : Ss} {xs : List D} (I : List D → Env → Prop) (h : ∀ pre x post δ, xs = pre ++ x :: post → I pre δ → ∃ δ', (turn Φ cf ro t b x δ = .nx δ' ∨ turn Φ cf ro t b x δ = .ct δ') ∧ I (pre ++ [x]) δ') {δ : Env} (h0 : I [] δ) : ∃ δ', forR Φ cf ro t b xs δ = .nx δ' ∧ I xs δ' := by
  suffices z : ∀ post pre δ, xs = pre ++ post → I pre δ → ∃ δ', forR Φ cf ro t b post δ = .nx δ' ∧ I xs δ' from z xs [] δ rfl h0
  intro post
  induction post with
  | nil => intro pre δ e i; rw [List.append_nil] at e; subst e; exact ⟨δ, rfl, i⟩
  | cons x post ih =>
    intro pre δ e i
    obtain ⟨δ', r, i'⟩ := h pre x post δ e i
    obtain ⟨δ2, r2, i2⟩ := ih (pre ++ [x]) δ' (by rw [e]; simp) i'
    refine ⟨δ2, ?_, i2⟩
    rw [forR_cons]
    rcases r with r | r <;> rw [r] <;> exact r2
/-- a fold: R tells the slots by a state -/
theorem forR_fold {α β : Type} {t : Tg} {b : Ss} (R : α → Env → Prop) (g : α → β → α) (f : β → D) : ∀ (xs : List β) (a : α) (δ : Env), (∀ a x δ, x ∈ xs → R a δ → ∃ δ', turn Φ cf ro t b (f x) δ = .nx δ' ∧ R (g a x) δ') → R a δ → ∃ δ', forR Φ cf ro t b (xs.map f) δ = .nx δ' ∧ R (xs.foldl g a) δ'
  | [], a, δ, _, r => ⟨δ, rfl, r⟩
  | x :: xs, a, δ, h, r => by
    obtain ⟨δ1, e1, r1⟩ := h a x δ List.mem_cons_self r
    obtain ⟨δ2, e2, r2⟩ := forR_fold R g f xs (g a x) δ1 (fun a y δ hy => h a y δ (List.mem_cons_of_mem _ hy)) r1
    refine ⟨δ2, ?_, r2⟩
    rw [List.map_cons, forR_cons, e1]
    exact e2
/-- a walk in which some turn may hand back: E of what stands behind all turns, or at the one that leaves -/
theorem forR_rule {t : Tg} {b : Ss} (I : List D → Env → Prop) (E : Fl → Prop) : ∀ (xs : List D) (δ : Env), (∀ x xs δ, I (x :: xs) δ → (∃ δ', (turn Φ cf ro t b x δ = .nx δ' ∨ turn Φ cf ro t b x δ = .ct δ') ∧ I xs δ') ∨ (∃ d δ', turn Φ cf ro t b x δ = .rt d δ' ∧ E (.rt d δ')) ∨ (∃ d δ', turn Φ cf ro t b x δ = .er d δ' ∧ E (.er d δ')) ∨ ∃ δ', turn Φ cf ro t b x δ = .bk δ' ∧ E (.nx δ')) →
    (∀ δ, I [] δ → E (.nx δ)) → I xs δ → E (forR Φ cf ro t b xs δ)
  | [], δ, _, h0, i => h0 δ i
  | x :: xs, δ, h, h0, i => by
    rw [forR_cons]
    rcases h x xs δ i with ⟨δ', r, i'⟩ | ⟨d, δ', r, e⟩ | ⟨d, δ', r, e⟩ | ⟨δ', r, e⟩
    · rcases r with r | r <;> rw [r] <;> exact forR_rule I E xs δ' h h0 i'
    · rw [r]; exact e
    · rw [r]; exact e
    · rw [r]; exact e
theorem whl_step {c : Ex} {b : Ss} {n : Nat} {δ δ1 : Env} {d : D} (h : ev Φ cf c false δ = .ok d δ1) (ht : truth d = some true) : whlR Φ cf ro c b (n + 1) δ = nextR (whlR Φ cf ro c b n) (exs Φ cf ro b δ1) := by
  unfold whlR
  rw [wloop]
  simp only [h, ht]
  cases exs Φ cf ro b δ1 <;> rfl
theorem whl_stop {c : Ex} {b : Ss} {n : Nat} {δ δ1 : Env} {d : D} (h : ev Φ cf c false δ = .ok d δ1) (ht : truth d = some false) : whlR Φ cf ro c b (n + 1) δ = .nx δ1 := by
  unfold whlR
  rw [wloop]
  simp only [h, ht]
/-- a while: a measure that falls; E of its end -/
theorem whl_rule {c : Ex} {b : Ss} (m : Nat → Env → Prop) (E : Fl → Prop) (h : ∀ k δ, m k δ → (∃ d δ1, ev Φ cf c false δ = .ok d δ1 ∧ truth d = some false ∧ E (.nx δ1)) ∨ ∃ d δ1, ev Φ cf c false δ = .ok d δ1 ∧ truth d = some true ∧
      ((∃ δ2 j, (exs Φ cf ro b δ1 = .nx δ2 ∨ exs Φ cf ro b δ1 = .ct δ2) ∧ j < k ∧ m j δ2) ∨ (∃ d δ2, exs Φ cf ro b δ1 = .rt d δ2 ∧ E (.rt d δ2)) ∨ (∃ d δ2, exs Φ cf ro b δ1 = .er d δ2 ∧ E (.er d δ2)) ∨ ∃ δ2, exs Φ cf ro b δ1 = .bk δ2 ∧ E (.nx δ2))) :
    ∀ (k n : Nat) (δ : Env), k < n → m k δ → E (whlR Φ cf ro c b n δ) := by
  intro k
  induction k using Nat.strongRecOn with
  | ind k ih =>
    intro n δ hn hm
    obtain ⟨n, rfl⟩ : ∃ n', n = n' + 1 := ⟨n - 1, by omega⟩
    rcases h k δ hm with ⟨d, δ1, e, t, q⟩ | ⟨d, δ1, e, t, q⟩
    · rw [whl_stop e t]; exact q
    · rw [whl_step e t]
      rcases q with ⟨δ2, j, r, hj, mj⟩ | ⟨d, δ2, r, q⟩ | ⟨d, δ2, r, q⟩ | ⟨δ2, r, q⟩
      · rcases r with r | r <;> rw [r] <;> exact ih j hj n δ2 (by omega) mj
      · rw [r]; exact q
      · rw [r]; exact q
      · rw [r]; exact q
theorem FUEL_eq : FUEL = 1073741824 := rfl
/-- a comprehension whose items change nothing beyond its own slots: R of the slots at each turn -/
theorem lcR_map {β : Type} {t : Tg} {cs : Exs} {e : Ex} (R : Env → Prop) (g : β → List D) (f : β → D) : ∀ (xs : List β) (δ : Env), (∀ x δ, x ∈ xs → R δ → ∃ δ', lcB Φ cf t cs e (f x) δ = .ok (g x) δ' ∧ R δ') → R δ → ∃ δ', lcR Φ cf t cs e (xs.map f) δ = .ok (xs.flatMap g) δ' ∧ R δ'
  | [], δ, _, r => ⟨δ, rfl, r⟩
  | x :: xs, δ, h, r => by
    obtain ⟨δ1, e1, r1⟩ := h x δ List.mem_cons_self r
    obtain ⟨δ2, e2, r2⟩ := lcR_map R g f xs δ1 (fun y δ hy => h y δ (List.mem_cons_of_mem _ hy)) r1
    refine ⟨δ2, ?_, r2⟩
    unfold lcR at e2 ⊢
    rw [List.map_cons, mapGo, e1]
    simp only [e2, List.flatMap_cons]
theorem lcR_each {β : Type} {t : Tg} {cs : Exs} {e : Ex} (R : Env → Prop) (g : β → D) (f : β → D) (xs : List β) (δ : Env) (h : ∀ x δ, x ∈ xs → R δ → ∃ δ', lcB Φ cf t cs e (f x) δ = .ok [g x] δ' ∧ R δ') (r : R δ) : ∃ δ', lcR Φ cf t cs e (xs.map f) δ = .ok (xs.map g) δ' ∧ R δ' := by
  obtain ⟨δ', e, r⟩ := lcR_map R (fun x => [g x]) f xs δ h r
  refine ⟨δ', ?_, r⟩
  rw [e]
  congr 1
  clear e h
  induction xs with
  | nil => rfl
  | cons x xs ih => simp [ih]
theorem lcR_if {β : Type} {t : Tg} {cs : Exs} {e : Ex} (R : Env → Prop) (p : β → Bool) (g : β → D) (f : β → D) (xs : List β) (δ : Env) (h : ∀ x δ, x ∈ xs → R δ → ∃ δ', lcB Φ cf t cs e (f x) δ = .ok (if p x = true then [g x] else []) δ' ∧ R δ') (r : R δ) : ∃ δ', lcR Φ cf t cs e (xs.map f) δ = .ok ((xs.filter p).map g) δ' ∧ R δ' := by
  obtain ⟨δ', e, r⟩ := lcR_map R (fun x => if p x = true then [g x] else []) f xs δ h r
  refine ⟨δ', ?_, r⟩
  rw [e]
  congr 1
  clear e h
  induction xs with
  | nil => rfl
  | cons x xs ih => by_cases hp : p x <;> simp [ih, hp]
/-- .. in which the slots turn: P of the items made so far -/
theorem lcR_inv {t : Tg} {cs : Exs} {e : Ex} (I : List D → List D → Env → Prop) : ∀ (xs : List D) (ds : List D) (δ : Env), (∀ x xs ds δ, I (x :: xs) ds δ → ∃ es δ', lcB Φ cf t cs e x δ = .ok es δ' ∧ I xs (ds ++ es) δ') → I xs ds δ → ∃ es δ', lcR Φ cf t cs e xs δ = .ok es δ' ∧ I [] (ds ++ es) δ'
  | [], ds, δ, _, i => ⟨[], δ, rfl, by simpa using i⟩
  | x :: xs, ds, δ, h, i => by
    obtain ⟨es, δ1, e1, i1⟩ := h x xs ds δ i
    obtain ⟨fs, δ2, e2, i2⟩ := lcR_inv I xs (ds ++ es) δ1 h i1
    refine ⟨es ++ fs, δ2, ?_, by rw [← List.append_assoc]; exact i2⟩
    unfold lcR at e2 ⊢
    rw [mapGo, e1]
    simp only [e2]
end
end PyM

set_option Elab.async false
set_option linter.all false
set_option maxRecDepth 100000
namespace PyM
open PyI
def drw (large cells : List Int) (rest turn : Int) : D := .dct [.str [108, 97, 114, 103, 101], .str [99, 101, 108, 108, 115], .str [114, 101, 115, 116], .str [116, 117, 114, 110]] [.lst (large.map .int), .lst (cells.map .int), .int rest, .int turn]
theorem imm_ints (xs : List Int) : immAll (xs.map .int) = true := immAll_map _ _ (by simp)
theorem blend_in (cf : CF) (large cells : List Int) (rest turn p l f st : Int) (v : Option Sl) (hp : 0 < p) (h0 : 0 ≤ st) (h1 : st < p) : ∃ st' v', 0 ≤ st' ∧ st' < p ∧
    forR Φ cf true (.nm false 5) f__law_blend_b1 (cells.map .int) [some (.ow (drw large cells rest turn)), some (.sh (.int p)), some (.sh (.int l)), some (.sh (.int f)), some (.sh (.int st)), v] =
      .nx [some (.ow (drw large cells rest turn)), some (.sh (.int p)), some (.sh (.int l)), some (.sh (.int f)), some (.sh (.int st')), v'] := by
  obtain ⟨δ', e, r⟩ := forR_fold (Φ := Φ) (cf := cf) (ro := true) (t := .nm false 5) (b := f__law_blend_b1) (fun (_ : Unit) δ => ∃ st v, 0 ≤ st ∧ st < p ∧ δ = [some (.ow (drw large cells rest turn)), some (.sh (.int p)), some (.sh (.int l)), some (.sh (.int f)), some (.sh (.int st)), v]) (fun a _ => a) D.int cells () _ (fun a x δ _ r => by
    obtain ⟨st, v, h0, h1, rfl⟩ := r
    simp [f__law_blend_b1, hp]
    exact ⟨Int.emod_nonneg _ (by omega), Int.emod_lt_of_pos _ hp⟩) ⟨st, v, h0, h1, rfl⟩
  obtain ⟨st', v', h0', h1', rfl⟩ := r
  exact ⟨st', v', h0', h1', e⟩
theorem blend_out (cf : CF) (large cells : List Int) (rest turn p l f : Int) (u v w : Option Sl) (hp : 0 < p) (hp2 : p < 2147483648) : ∃ f' u' v' w',
    exs Φ cf true f__law_blend_b2 [some (.ow (drw large cells rest turn)), some (.sh (.int p)), some (.sh (.int l)), some (.sh (.int f)), u, v] =
      .nx [some (.ow (drw large cells rest turn)), u', some (.sh (.int l)), some (.sh (.int f')), v', w'] := by
  have q : (drw large cells rest turn) = .dct [.str [108, 97, 114, 103, 101], .str [99, 101, 108, 108, 115], .str [114, 101, 115, 116], .str [116, 117, 114, 110]] [.lst (large.map .int), .lst (cells.map .int), .int rest, .int turn] := rfl
  obtain ⟨st, v', h0, h1, e⟩ := blend_in cf large cells rest turn p l f ((l * 69621 + p / 13) % p) v hp (Int.emod_nonneg _ (by omega)) (Int.emod_lt_of_pos _ hp)
  rw [q] at e ⊢
  have a1 : -18446744073709551616 < st := by omega
  have a2 : st < 18446744073709551616 := by omega
  simp [f__law_blend_b2, hp, imm_ints, e, a1, a2]
theorem s_blend (n : Nat) (large cells : List Int) (rest turn : Int) : ∃ r, callF Φ (n + 1) 1001 [drw large cells rest turn] = .rt (.int r) [drw large cells rest (turn + 1)] := by
  have q : ∀ turn, (drw large cells rest turn) = .dct [.str [108, 97, 114, 103, 101], .str [99, 101, 108, 108, 115], .str [114, 101, 115, 116], .str [116, 117, 114, 110]] [.lst (large.map .int), .lst (cells.map .int), .int rest, .int turn] := fun _ => rfl
  obtain ⟨f1, u1, v1, w1, e1⟩ := blend_out (callF Φ n) large cells rest (turn + 1) 2147483629 (turn + 1) 0 none none none (by decide) (by decide)
  obtain ⟨f2, u2, v2, w2, e2⟩ := blend_out (callF Φ n) large cells rest (turn + 1) 2147483587 (turn + 1) f1 v1 w1 none (by decide) (by decide)
  obtain ⟨f3, u3, v3, w3, e3⟩ := blend_out (callF Φ n) large cells rest (turn + 1) 2147483579 (turn + 1) f2 v2 w2 none (by decide) (by decide)
  rw [q] at e1 e2 e3
  rw [q, q]
  refine ⟨f3, ?_⟩
  simp [callF_succ, Φ__law_blend, callB, f__law_blend, startE, subPut, keyOk, dput, LINE, forR_cons, forR_nil, e1, e2, e3]
def Drw (d : D) : Prop := ∃ large cells rest turn, d = drw large cells rest turn ∧ large.length ≤ 63 ∧ cells.length ≤ 63
theorem drw_eq (large cells rest turn) : drw large cells rest turn = .dct [.str [108, 97, 114, 103, 101], .str [99, 101, 108, 108, 115], .str [114, 101, 115, 116], .str [116, 117, 114, 110]] [.lst (large.map .int), .lst (cells.map .int), .int rest, .int turn] := rfl
theorem take_whl (cf : CF) (cells : List Int) (turn size : Int) (v : Option Sl) : ∀ (large : List Int) (rest : Int) (n : Nat), large.length < n → ∃ large' rest', large'.length ≤ large.length ∧
    whlR Φ cf false f__law_take_e1 f__law_take_b1 n [some (.ow (drw large cells rest turn)), some (.sh (.int size)), v] = .nx [some (.ow (drw large' cells rest' turn)), some (.sh (.int size)), v]
  | large, rest, n, hn => by
    obtain ⟨n, rfl⟩ : ∃ n', n = n' + 1 := ⟨n - 1, by omega⟩
    by_cases hc : rest = 0 ∧ large ≠ []
    · obtain ⟨rfl, hl⟩ := hc
      cases large with
      | nil => exact absurd rfl hl
      | cons x large =>
        obtain ⟨large', rest', h1, h2⟩ := take_whl cf cells turn size v large x n (by simp at hn; omega)
        refine ⟨large', rest', by simp; omega, ?_⟩
        have hq := eqS_ints_nil (x :: large)
        simp only [List.map_cons, List.isEmpty_cons] at hq
        have hb : exs Φ cf false f__law_take_b1 [some (.ow (drw (x :: large) cells 0 turn)), some (.sh (.int size)), v] = .nx [some (.ow (drw large cells x turn)), some (.sh (.int size)), v] := by
          simp [f__law_take_b1, drw_eq, pmS, place, subPutIn, subPut, keyOk, LINE, dput]
        rw [whl_step (δ1 := [some (.ow (drw (x :: large) cells 0 turn)), some (.sh (.int size)), v]) (d := .bl true) (by simp [f__law_take_e1, drw_eq, hq]) rfl, hb]
        exact h2
    · refine ⟨large, rest, Nat.le_refl _, ?_⟩
      rw [whl_stop (δ1 := [some (.ow (drw large cells rest turn)), some (.sh (.int size)), v]) (d := .bl false) ?_ rfl]
      by_cases h : rest = 0
      · have h2 : large = [] := by simpa [h] using hc
        subst h h2
        simp [f__law_take_e1, drw_eq]
      · simp [f__law_take_e1, drw_eq, h]
theorem s_take (n : Nat) {d : D} (hd : Drw d) {size : Int} (h0 : 0 < size) (h1 : size < 1073741824) : ∃ r d', callF Φ (n + 2) 1002 [d, .int size] = .rt (.int r) [d'] ∧ 0 ≤ r ∧ r < size ∧ Drw d' := by
  obtain ⟨large, cells, rest, turn, rfl, hl, hc⟩ := hd
  obtain ⟨large', rest', h2, h3⟩ := take_whl (callF Φ (n + 1)) cells turn size none large rest FUEL (by rw [FUEL_eq]; omega)
  obtain ⟨r, hb⟩ := s_blend n large' cells rest' turn
  rw [drw_eq] at h3
  by_cases h : rest' = 0
  · refine ⟨r % size, drw large' cells (r / size) (turn + 1), ?_, Int.emod_nonneg _ (by omega), Int.emod_lt_of_pos _ h0, _, _, _, _, rfl, by omega, hc⟩
    subst h
    rw [drw_eq, drw_eq] at hb
    refine call_run (n := n + 1) Φ__law_take ⟨rfl, by decide⟩ ?_
    simp [f__law_take, startE, drw_eq, h3, Φ__law_blend, hb, show f__law_blend.ow = [true] from rfl, show f__law_blend.ro = true from rfl, subPut, keyOk, LINE, dput, h0, h1]
  · refine ⟨rest' % size, drw large' cells (rest' / size) turn, ?_, Int.emod_nonneg _ (by omega), Int.emod_lt_of_pos _ h0, _, _, _, _, rfl, by omega, hc⟩
    refine call_run (n := n + 1) Φ__law_take ⟨rfl, by decide⟩ ?_
    simp [f__law_take, startE, drw_eq, h3, h, subPut, keyOk, LINE, dput, h0, h1]
end PyM

set_option Elab.async false
set_option linter.all false
set_option maxRecDepth 100000
namespace PyM
open PyI
/-- a small letter, a great one -/
def sm (c : Nat) : Bool := decide (97 ≤ c ∧ c ≤ 122)
def gr (c : Nat) : Bool := decide (65 ≤ c ∧ c ≤ 90)
theorem mem_sm (c : Nat) : decide (c ∈ [97, 98, 99, 100, 101, 102, 103, 104, 105, 106, 107, 108, 109, 110, 111, 112, 113, 114, 115, 116, 117, 118, 119, 120, 121, 122]) = sm c := by
  simp only [sm, decide_eq_decide, List.mem_cons, List.not_mem_nil, or_false]; omega
theorem mem_gr (c : Nat) : decide (c ∈ [65, 66, 67, 68, 69, 70, 71, 72, 73, 74, 75, 76, 77, 78, 79, 80, 81, 82, 83, 84, 85, 86, 87, 88, 89, 90]) = gr c := by
  simp only [gr, decide_eq_decide, List.mem_cons, List.not_mem_nil, or_false]; omega
def kept (cs : List Nat) : Bool := decide (cs = [105, 100]) || decide (cs = [115, 119, 97, 112]) || decide (cs = [100, 111, 116])
def smA (cs : List Nat) : Bool := cs.all sm
def kindS (cs : List Nat) : Bool := smA cs && (decide (1 ≤ cs.length) && decide (cs.length ≤ 8)) && !kept cs
def wordS : List Nat → Bool
  | [] => false
  | c :: r => decide (r.length ≤ 7) && gr c && smA r
def strP (p : List Nat → Bool) : D → Bool
  | .str cs => p cs
  | _ => false
/-- a value that is asked what it is -/
def Asked (d : D) : Prop := noX d = true ∧ ∀ cs, d = .str cs → cs.length ≤ 16777216
theorem asked_str {cs : List Nat} (h : cs.length ≤ 16777216) : Asked (.str cs) := ⟨rfl, fun _ e => by cases e; exact h⟩
theorem s_small (n : Nat) {d : D} (h : Asked d) : callF Φ (n + 1) 0 [d] = .rt (.bl (strP smA d)) [] := by
  refine call_run Φ_is_row_of_small ⟨rfl, by decide⟩ ?_
  cases d with
  | str cs =>
    obtain ⟨δ', e, v, rfl⟩ := lcR_each (Φ := Φ) (cf := callF Φ n) (t := .nm false 1) (cs := .nil) (e := f_is_row_of_small_e1) (fun δ => ∃ v, δ = [some (.sh (.str cs)), v]) (fun c => .bl (sm c)) (fun c => D.str [c]) cs [some (.sh (.str cs)), none] (fun c δ _ ⟨v, q⟩ => by
      subst q
      refine ⟨[some (.sh (.str cs)), some (.sh (.str [c]))], ?_, _, rfl⟩
      simp [f_is_row_of_small_e1, g_SMALL]
      rw [← mem_sm]
      simp) ⟨none, rfl⟩
    have hl : (cs.map (fun c => D.bl (sm c))).length ≤ 16777216 := by simpa using h.2 cs rfl
    simp [f_is_row_of_small, startE, strP, e, okLst_eq hl, bi_all]
    rfl
  | exc c fs => simp [noX, Asked] at h
  | _ => simp_all [f_is_row_of_small, startE, strP]
theorem kept_in (cs : List Nat) : inS (.str cs) g_KEPT = some (kept cs) := by
  rw [g_KEPT, in_tup rfl rfl]
  have e : ∀ a b : List Nat, decide (a = b) = decide (b = a) := fun a b => by rw [decide_eq_decide]; exact eq_comm
  simp only [List.any_cons, List.any_nil, eqv, Bool.or_false, kept, ← Bool.or_assoc, e]
theorem s_kind (n : Nat) {d : D} (h : Asked d) : callF Φ (n + 2) 1 [d] = .rt (.bl (strP kindS d)) [] := by
  refine call_run (n := n + 1) Φ_is_kind ⟨rfl, by decide⟩ ?_
  cases d with
  | str cs =>
    have q : kindS cs = (smA cs && (decide ((1 : Int) ≤ cs.length) && decide ((cs.length : Int) ≤ 8)) && !kept cs) := by
      simp only [kindS]; congr 2; congr 1 <;> rw [decide_eq_decide] <;> omega
    cases h1 : smA cs <;> by_cases h2 : (1 : Int) ≤ cs.length <;> by_cases h3 : (cs.length : Int) ≤ 8 <;> simp [f_is_kind, startE, s_small n h, strP, g_MOST_LETTERS, kept_in, h1, h2, h3, q]
  | exc c fs => simp [noX, Asked] at h
  | _ => simp_all [f_is_kind, startE, s_small n h, strP]
theorem s_word (n : Nat) {d : D} (h : Asked d) : callF Φ (n + 2) 2 [d] = .rt (.bl (strP wordS d)) [] := by
  refine call_run (n := n + 1) Φ_is_word ⟨rfl, by decide⟩ ?_
  cases d with
  | str cs =>
    cases cs with
    | nil => simp [f_is_word, startE, strP, wordS, g_MOST_LETTERS]
    | cons c r =>
      have hr : Asked (.str r) := asked_str (by have := h.2 _ rfl; simp at this; omega)
      by_cases h3 : r.length ≤ 7
      · have e1 : (1 : Int) ≤ r.length + 1 := by omega
        have e2 : (r.length : Int) + 1 ≤ 8 := by omega
        have hg := mem_gr c
        cases h4 : gr c <;> rw [h4] at hg <;> simp at hg <;> simp [f_is_word, startE, strP, wordS, g_MOST_LETTERS, h3, e1, e2, g_GREAT, h4, cut_1_, s_small n hr, hg]
      · have e1 : (1 : Int) ≤ r.length + 1 := by omega
        have e2 : ¬ (r.length : Int) + 1 ≤ 8 := by omega
        simp [f_is_word, startE, strP, wordS, g_MOST_LETTERS, h3, e1, e2]
  | exc c fs => simp [noX, Asked] at h
  | _ => simp_all [f_is_word, startE, strP]
end PyM

set_option Elab.async false
set_option linter.all false
set_option maxRecDepth 100000
namespace PyM
open PyI
def lt_ (c : Nat) : Bool := sm c || gr c
def sg (c : Nat) : Bool := decide (c ∈ [40, 41, 44, 59, 124]) || decide (c ∈ [48, 49, 50, 51, 52, 53, 54, 55, 56, 57])
def blk_ (c : Nat) : Bool := decide (c = 32) || decide (c = 10)
theorem mem_lt (c : Nat) : decide (c ∈ [97, 98, 99, 100, 101, 102, 103, 104, 105, 106, 107, 108, 109, 110, 111, 112, 113, 114, 115, 116, 117, 118, 119, 120, 121, 122, 65, 66, 67, 68, 69, 70, 71, 72, 73, 74, 75, 76, 77, 78, 79, 80, 81, 82, 83, 84, 85, 86, 87, 88, 89, 90]) = lt_ c := by
  have : lt_ c = decide ((97 ≤ c ∧ c ≤ 122) ∨ (65 ≤ c ∧ c ≤ 90)) := by simp [lt_, sm, gr]
  rw [this]
  simp only [decide_eq_decide, List.mem_cons, List.not_mem_nil, or_false]; omega
/-- the row of letters at the head -/
def row (cs : List Nat) : List Nat := cs.takeWhile lt_
def tokS (r : List Nat) : Bool := kindS r || (wordS r || kept r)
theorem len_drop_lt {cs r : List Nat} {c : Nat} {at_ : Nat} (h : cs.drop at_ = c :: r) : at_ < cs.length ∧ cs[at_]? = some c ∧ cs.drop (at_ + 1) = r := by
  have h1 : at_ < cs.length := by
    by_cases q : at_ < cs.length
    · exact q
    · rw [List.drop_of_length_le (by omega)] at h; cases h
  refine ⟨h1, ?_, ?_⟩
  · have := congrArg (fun l => l[0]?) h
    simpa using this
  · rw [← List.tail_drop, h]; rfl
theorem drop_nil {cs : List Nat} {at_ : Nat} (h : cs.drop at_ = []) : cs.length ≤ at_ := by simpa using h
theorem drop_add' (cs : List Nat) (i j : Nat) : cs.drop (i + j) = (cs.drop i).drop j := by rw [List.drop_drop]
theorem takeWhile_le (cs : List Nat) : (row cs).length ≤ cs.length := (List.takeWhile_sublist _).length_le
theorem row_cons (c : Nat) (r : List Nat) : row (c :: r) = if lt_ c = true then c :: row r else [] := by
  simp only [row, List.takeWhile_cons]
theorem take_row (cs : List Nat) : cs.take (row cs).length = row cs := by
  induction cs with
  | nil => rfl
  | cons c r ih =>
    rw [row_cons]
    split
    · simp [ih]
    · simp
/-- the law: the tokens from here on, or where the first wrong sign stands -/
def toks : Nat → Nat → List Nat → Except Nat (List (List Nat × Nat))
  | 0, _, _ => .ok []
  | k + 1, at_, cs => match cs with
    | [] => .ok []
    | c :: r => if blk_ c = true then toks k (at_ + 1) r
      else if sg c = true then (toks k (at_ + 1) r).map (([c], at_) :: ·)
      else if tokS (row (c :: r)) = true then (toks k (at_ + (row (c :: r)).length) ((c :: r).drop (row (c :: r)).length)).map ((row (c :: r), at_) :: ·)
      else .error at_
theorem tokS_pos {r : List Nat} (h : tokS r = true) : 0 < r.length := by
  cases r with
  | nil => simp [tokS, kindS, wordS, kept] at h
  | cons c r => simp
theorem s_endl (n : Nat) {cs : List Nat} {at_ : Nat} (hl : cs.length ≤ 16777216) (ha : at_ ≤ cs.length) : callF Φ (n + 1) 3 [.str cs, .int at_] = .rt (.int ((at_ + (row (cs.drop at_)).length : Nat) : Int)) [] := by
  refine call_run Φ_end_of_letters ⟨rfl, by decide⟩ ?_
  have w : ∀ (k : Nat) (e : Nat) (f : Nat), k = cs.length - e → e ≤ cs.length → k < f → whlR Φ (callF Φ n) false f_end_of_letters_e1 f_end_of_letters_b1 f [some (.sh (.str cs)), some (.sh (.int at_)), some (.sh (.int e))] =
      .nx [some (.sh (.str cs)), some (.sh (.int at_)), some (.sh (.int ((e + (row (cs.drop e)).length : Nat) : Int)))] := by
    intro k
    induction k with
    | zero =>
      intro e f hk he hf
      obtain ⟨f, rfl⟩ : ∃ f', f = f' + 1 := ⟨f - 1, by omega⟩
      have h1 : ¬ (e : Int) < cs.length := by omega
      rw [whl_stop (d := .bl false) (δ1 := [some (.sh (.str cs)), some (.sh (.int at_)), some (.sh (.int e))]) (by simp [f_end_of_letters_e1, h1]) rfl]
      rw [List.drop_of_length_le (by omega)]
      simp [row]
    | succ k ih =>
      intro e f hk he hf
      obtain ⟨f, rfl⟩ : ∃ f', f = f' + 1 := ⟨f - 1, by omega⟩
      have h1 : (e : Int) < cs.length := by omega
      obtain ⟨c, r, hd⟩ : ∃ c r, cs.drop e = c :: r := by
        cases q : cs.drop e with
        | nil => have := drop_nil q; omega
        | cons c r => exact ⟨c, r, rfl⟩
      obtain ⟨h2, h3, h4⟩ := len_drop_lt hd
      have hm := mem_lt c
      rw [hd, row_cons]
      cases hc : lt_ c with
      | true =>
        rw [hc] at hm
        rw [whl_step (d := .bl true) (δ1 := [some (.sh (.str cs)), some (.sh (.int at_)), some (.sh (.int e))]) (by simp [f_end_of_letters_e1, h1, h3, g_LETTERS]; simpa using hm) rfl]
        have := ih (e + 1) f (by omega) (by omega) (by omega)
        simp only [h4, Int.natCast_add, Int.natCast_one] at this
        simp [f_end_of_letters_b1]
        rw [show (f_end_of_letters_b1) = Ss.cons (.aug 2 .add (.cst (.int 1))) .nil from rfl] at this
        rw [this]
        simp
        omega
      | false =>
        rw [hc] at hm
        rw [whl_stop (d := .bl false) (δ1 := [some (.sh (.str cs)), some (.sh (.int at_)), some (.sh (.int e))]) (by simp [f_end_of_letters_e1, h1, h3, g_LETTERS]; simpa using hm) rfl]
        simp
  simp [f_end_of_letters, startE, w _ at_ FUEL rfl ha (by rw [FUEL_eq]; omega)]
end PyM

set_option Elab.async false
set_option linter.all false
set_option maxRecDepth 100000
namespace PyM
open PyI
theorem row_len (cs : List Nat) (at_ : Nat) : (row (cs.drop at_)).length ≤ cs.length := by
  have := takeWhile_le (cs.drop at_)
  rw [List.length_drop] at this; omega
theorem mid_row (cs : List Nat) (at_ : Nat) : mid cs at_ (at_ + (row (cs.drop at_)).length) = row (cs.drop at_) := by
  rw [mid, List.drop_take, Nat.add_sub_cancel_left, take_row]
theorem s_token (n : Nat) {cs r : List Nat} {at_ c : Nat} (hl : cs.length ≤ 16777216) (hd : cs.drop at_ = c :: r) :
    callF Φ (n + 3) 4 [.str cs, .int at_] = if sg c = true then .rt (.str [c]) [] else if tokS (row (c :: r)) = true then .rt (.str (row (c :: r))) [] else .er (.exc 9 [.int at_]) [] := by
  obtain ⟨h2, h3, h4⟩ := len_drop_lt hd
  refine call_run (n := n + 2) Φ_token_at ⟨rfl, by decide⟩ ?_
  have he := s_endl (n + 1) (cs := cs) (at_ := at_) hl (by omega)
  have hk := s_kind n (asked_str (cs := row (c :: r)) (by rw [← hd]; have := row_len cs at_; omega))
  have hw := s_word n (asked_str (cs := row (c :: r)) (by rw [← hd]; have := row_len cs at_; omega))
  have hm := mid_row cs at_
  rw [hd] at he hm
  have e2 : ∀ j : Int, j = ((at_ + (row (c :: r)).length : Nat) : Int) → cut cs (some (at_ : Int)) (some j) = row (c :: r) := fun j e => by rw [e, cut_nn, hm]
  by_cases h5 : sg c = true
  · have h6 : (c ∈ [40, 41, 44, 59, 124]) ∨ (c ∈ [48, 49, 50, 51, 52, 53, 54, 55, 56, 57]) := by simpa [sg] using h5
    rw [if_pos h5]
    rcases h6 with h6 | h6
    · simp only [List.mem_cons, List.not_mem_nil, or_false] at h6
      simp [f_token_at, startE, h3, g_SIGNS, h6]
    · by_cases h7 : c ∈ [40, 41, 44, 59, 124]
      · simp only [List.mem_cons, List.not_mem_nil, or_false] at h7
        simp [f_token_at, startE, h3, g_SIGNS, h7]
      · simp only [List.mem_cons, List.not_mem_nil, or_false] at h7 h6
        simp [f_token_at, startE, h3, g_SIGNS, g_FIGURES, h7, h6]
  · rw [if_neg h5]
    have h6 : ¬ (c ∈ [40, 41, 44, 59, 124]) ∧ ¬ (c ∈ [48, 49, 50, 51, 52, 53, 54, 55, 56, 57]) := by simpa [sg, not_or] using h5
    simp only [List.mem_cons, List.not_mem_nil, or_false] at h6
    simp only [strP] at hk hw
    by_cases h8 : tokS (row (c :: r)) = true
    · rw [if_pos h8]
      simp only [tokS, Bool.or_eq_true] at h8
      cases k1 : kindS (row (c :: r)) <;> cases k2 : wordS (row (c :: r)) <;> cases k3 : kept (row (c :: r)) <;> simp [k1, k2, k3] at h8 hk hw <;>
        simp [f_token_at, startE, h3, g_SIGNS, g_FIGURES, h6, he, e2, hk, hw, kept_in, k3]
    · rw [if_neg h8]
      simp only [tokS, Bool.or_eq_true, not_or, Bool.not_eq_true] at h8
      simp [h8] at hk hw
      simp [f_token_at, startE, h3, g_SIGNS, g_FIGURES, h6, he, e2, hk, hw, kept_in, h8, exFld]
end PyM

set_option Elab.async false
set_option linter.all false
set_option maxRecDepth 100000
namespace PyM
open PyI
def tokD (p : List Nat × Nat) : D := .tup [.str p.1, .int p.2]
theorem exc_map_ok {α β ε : Type} (f : α → β) (x : α) : (Except.ok x : Except ε α).map f = .ok (f x) := rfl
theorem exc_map_er {α β ε : Type} (f : α → β) (x : ε) : (Except.error x : Except ε α).map f = .error x := rfl
/-- what the walk comes to -/
def TokEnd (cs : List Nat) (acc : List (List Nat × Nat)) (fl : Fl) : Except Nat (List (List Nat × Nat)) → Prop
  | .ok ts => ∃ e v, fl = .nx [some (.sh (.str cs)), some (.ow (.lst ((acc ++ ts).map tokD))), some (.sh (.int e)), v]
  | .error a => ∃ δ, fl = .er (.exc 9 [.int a]) δ
theorem tokEnd_cons {cs acc t fl x} (h : TokEnd cs (acc ++ [t]) fl x) : TokEnd cs acc fl (x.map (t :: ·)) := by
  cases x with
  | ok ts => obtain ⟨e, v, h⟩ := h; exact ⟨e, v, by rw [h]; simp⟩
  | error a => exact h
theorem tokens_whl (n : Nat) {cs : List Nat} (hl : cs.length ≤ 40000) : ∀ (k at_ : Nat) (acc : List (List Nat × Nat)) (v : Option Sl) (f : Nat), cs.length - at_ < k → k < f → acc.length ≤ at_ → at_ ≤ cs.length →
    TokEnd cs acc (whlR Φ (callF Φ (n + 3)) false f_tokens_of_e1 f_tokens_of_b1 f [some (.sh (.str cs)), some (.ow (.lst (acc.map tokD))), some (.sh (.int at_)), v]) (toks k at_ (cs.drop at_)) := by
  intro k
  induction k with
  | zero => intro at_ acc v f hk; omega
  | succ k ih =>
    intro at_ acc v f hk hf ha hle
    obtain ⟨f, rfl⟩ : ∃ f', f = f' + 1 := ⟨f - 1, by omega⟩
    cases hd : cs.drop at_ with
    | nil =>
      have h1 : ¬ (at_ : Int) < cs.length := by have := drop_nil hd; omega
      rw [whl_stop (d := .bl false) (δ1 := [some (.sh (.str cs)), some (.ow (.lst (acc.map tokD))), some (.sh (.int at_)), v]) (by simp [f_tokens_of_e1, h1]) rfl]
      exact ⟨at_, v, by simp⟩
    | cons c r =>
      obtain ⟨h2, h3, h4⟩ := len_drop_lt hd
      have h1 : (at_ : Int) < cs.length := by omega
      rw [whl_step (d := .bl true) (δ1 := [some (.sh (.str cs)), some (.ow (.lst (acc.map tokD))), some (.sh (.int at_)), v]) (by simp [f_tokens_of_e1, h1]) rfl]
      have al : (acc.map tokD).length < 16777216 := by rw [List.length_map]; omega
      simp only [toks]
      by_cases hb : blk_ c = true
      · rw [if_pos hb]
        have hb' : c = 32 ∨ c = 10 := by simpa [blk_] using hb
        have e : exs Φ (callF Φ (n + 3)) false f_tokens_of_b1 [some (.sh (.str cs)), some (.ow (.lst (acc.map tokD))), some (.sh (.int at_)), v] = .nx [some (.sh (.str cs)), some (.ow (.lst (acc.map tokD))), some (.sh (.int ((at_ + 1 : Nat) : Int))), v] := by
          simp [f_tokens_of_b1, h3, hb']
        rw [e, nextR_nx, ← h4]
        exact ih (at_ + 1) acc v f (by omega) (by omega) (by omega) (by omega)
      · rw [if_neg hb]
        have hb' : ¬ (c = 32 ∨ c = 10) := by simpa [blk_] using hb
        have ht := s_token n (by omega) hd
        by_cases hs : sg c = true
        · rw [if_pos hs] at ht ⊢
          have e : exs Φ (callF Φ (n + 3)) false f_tokens_of_b1 [some (.sh (.str cs)), some (.ow (.lst (acc.map tokD))), some (.sh (.int at_)), v] = .nx [some (.sh (.str cs)), some (.ow (.lst ((acc ++ [([c], at_)]).map tokD))), some (.sh (.int ((at_ + 1 : Nat) : Int))), some (.sh (.str [c]))] := by
            simp [f_tokens_of_b1, h3, hb', ht, pm_append al, tokD]
          rw [e, nextR_nx, ← h4]
          exact tokEnd_cons (ih (at_ + 1) _ _ f (by omega) (by omega) (by simp; omega) (by omega))
        · rw [if_neg hs] at ht ⊢
          by_cases hr : tokS (row (c :: r)) = true
          · rw [if_pos hr] at ht ⊢
            have hp := tokS_pos hr
            have hl2 := takeWhile_le (c :: r)
            have hl3 : (c :: r).length = cs.length - at_ := by rw [← hd, List.length_drop]
            have e : exs Φ (callF Φ (n + 3)) false f_tokens_of_b1 [some (.sh (.str cs)), some (.ow (.lst (acc.map tokD))), some (.sh (.int at_)), v] = .nx [some (.sh (.str cs)), some (.ow (.lst ((acc ++ [(row (c :: r), at_)]).map tokD))), some (.sh (.int ((at_ + (row (c :: r)).length : Nat) : Int))), some (.sh (.str (row (c :: r))))] := by
              simp [f_tokens_of_b1, h3, hb', ht, pm_append al, tokD]
            rw [e, nextR_nx, ← hd, ← drop_add', hd]
            exact tokEnd_cons (ih (at_ + (row (c :: r)).length) _ _ f (by omega) (by omega) (by simp; omega) (by omega))
          · rw [if_neg hr] at ht ⊢
            have e : ∃ δ, exs Φ (callF Φ (n + 3)) false f_tokens_of_b1 [some (.sh (.str cs)), some (.ow (.lst (acc.map tokD))), some (.sh (.int at_)), v] = .er (.exc 9 [.int at_]) δ := by
              simp [f_tokens_of_b1, h3, hb', ht]
            obtain ⟨δ, e⟩ := e
            rw [e]
            exact ⟨δ, rfl⟩
theorem s_tokens (n : Nat) {cs : List Nat} (hl : cs.length ≤ 40000) : callF Φ (n + 4) 5 [.str cs] = match toks (cs.length + 1) 0 cs with
    | .ok ts => .rt (.lst (ts.map tokD)) []
    | .error a => .er (.exc 9 [.int a]) [] := by
  refine call_run (n := n + 3) Φ_tokens_of ⟨rfl, by decide⟩ ?_
  have h := tokens_whl n hl (cs.length + 1) 0 [] none FUEL (by omega) (by rw [FUEL_eq]; omega) (by simp) (by omega)
  have h1 : ¬ (40000 : Int) < cs.length := by omega
  simp only [List.drop_zero, List.map_nil, Int.natCast_zero] at h
  cases q : toks (cs.length + 1) 0 cs with
  | ok ts =>
    rw [q] at h
    obtain ⟨e, v, h⟩ := h
    simp [f_tokens_of, startE, g_MOST_SIGNS, h1, h]
  | error a =>
    rw [q] at h
    obtain ⟨δ, h⟩ := h
    simp [f_tokens_of, startE, g_MOST_SIGNS, h1, h]
theorem s_tokens_long (n : Nat) {cs : List Nat} (hl : 40000 < cs.length) : callF Φ (n + 1) 5 [.str cs] = .er (.exc 9 [.int 0]) [] := by
  refine call_run Φ_tokens_of ⟨rfl, by decide⟩ ?_
  have h1 : (40000 : Int) < cs.length := by omega
  simp [f_tokens_of, startE, g_MOST_SIGNS, h1, exFld]
theorem s_tokens_no (n : Nat) {d : D} (h : tyIs d .str = some false) : callF Φ (n + 1) 5 [d] = .er (.exc 9 [.int 0]) [] := by
  refine call_run Φ_tokens_of ⟨rfl, by decide⟩ ?_
  simp [f_tokens_of, startE, h, exFld]
end PyM

set_option Elab.async false
set_option linter.all false
set_option maxRecDepth 100000
namespace PyM
open PyI
def LS : List Nat := [97, 98, 99, 100, 101, 102, 103, 104, 105, 106, 107, 108, 109, 110, 111, 112, 113, 114, 115, 116, 117, 118, 119, 120, 121, 122]
def LG : List Nat := [65, 66, 67, 68, 69, 70, 71, 72, 73, 74, 75, 76, 77, 78, 79, 80, 81, 82, 83, 84, 85, 86, 87, 88, 89, 90]
theorem in_LSG (c : Nat) : inS (.str [c]) (.str (LS ++ LG)) = some (lt_ c) := by rw [in_str, ← mem_lt]; rfl
theorem in_LS (c : Nat) : inS (.str [c]) (.str LS) = some (sm c) := by rw [in_str, ← mem_sm]; rfl
theorem okLSG : okStr (LS ++ LG) = some (.str (LS ++ LG)) := rfl
theorem row_all (cs : List Nat) : (row cs).all lt_ = true := by
  induction cs with
  | nil => rfl
  | cons c r ih =>
    rw [row_cons]
    split
    · rename_i h; simp only [List.all_cons, h, ih, Bool.and_self]
    · rfl
theorem kept_sm {r : List Nat} (h : kept r = true) : r.length ≤ 8 ∧ smA r = true := by
  simp only [kept, Bool.or_eq_true, decide_eq_true_eq] at h
  rcases h with (h | h) | h <;> subst h <;> decide
theorem tokS_row {c : Nat} {r : List Nat} (h : (c :: r).all lt_ = true) : tokS (c :: r) = (decide (r.length ≤ 7) && smA r) := by
  have hc : lt_ c = true := (List.all_cons ▸ h |> Bool.and_eq_true_iff.mp).1
  have e : smA (c :: r) = (sm c && smA r) := by simp [smA]
  cases k : kept (c :: r) with
  | true =>
    obtain ⟨h1, h2⟩ := kept_sm k
    rw [e] at h2
    have h3 : smA r = true := (Bool.and_eq_true_iff.mp h2).2
    have h4 : r.length ≤ 7 := by simpa using h1
    simp [tokS, k, h3, h4]
  | false =>
    have a1 : decide (1 ≤ (c :: r).length) = true := by simp
    have a2 : decide ((c :: r).length ≤ 8) = decide (r.length ≤ 7) := by rw [decide_eq_decide]; simp
    simp only [tokS, k, kindS, wordS, e, a1, a2, Bool.not_false, Bool.or_false, Bool.true_and, Bool.and_true]
    simp only [lt_, Bool.or_eq_true] at hc
    clear h e k a1 a2
    revert hc
    cases sm c <;> cases gr c <;> cases smA r <;> cases decide (r.length ≤ 7) <;> simp
theorem ltok_in (cf : CF) {cs : List Nat} (hl : cs.length ≤ 40000) (a3 v5 v7 v8 : Option Sl) (at_ : Int) : ∀ (k e f : Nat), k = cs.length - e → e ≤ cs.length → k < f → whlR Φ cf false f__law_tokens_e3 f__law_tokens_b1 f [some (.sh (.str cs)), some (.sh (.str LS)), some (.sh (.str LG)), a3, some (.sh (.int at_)), v5, some (.sh (.int e)), v7, v8] =
      .nx [some (.sh (.str cs)), some (.sh (.str LS)), some (.sh (.str LG)), a3, some (.sh (.int at_)), v5, some (.sh (.int ((e + (row (cs.drop e)).length : Nat) : Int))), v7, v8] := by
  intro k
  induction k with
  | zero =>
    intro e f hk he hf
    obtain ⟨f, rfl⟩ : ∃ f', f = f' + 1 := ⟨f - 1, by omega⟩
    have h1 : ¬ (e : Int) < cs.length := by omega
    rw [whl_stop (d := .bl false) (δ1 := [some (.sh (.str cs)), some (.sh (.str LS)), some (.sh (.str LG)), a3, some (.sh (.int at_)), v5, some (.sh (.int e)), v7, v8]) (by simp [f__law_tokens_e3, h1]) rfl]
    rw [List.drop_of_length_le (by omega)]
    simp [row]
  | succ k ih =>
    intro e f hk he hf
    obtain ⟨f, rfl⟩ : ∃ f', f = f' + 1 := ⟨f - 1, by omega⟩
    have h1 : (e : Int) < cs.length := by omega
    obtain ⟨c, r, hd⟩ : ∃ c r, cs.drop e = c :: r := by
      cases q : cs.drop e with
      | nil => have := drop_nil q; omega
      | cons c r => exact ⟨c, r, rfl⟩
    obtain ⟨h2, h3, h4⟩ := len_drop_lt hd
    rw [hd, row_cons]
    cases hc : lt_ c with
    | true =>
      rw [whl_step (d := .bl true) (δ1 := [some (.sh (.str cs)), some (.sh (.str LS)), some (.sh (.str LG)), a3, some (.sh (.int at_)), v5, some (.sh (.int e)), v7, v8]) (by simp [f__law_tokens_e3, h1, h3, okLSG, in_LSG, hc, -in_str]) rfl]
      have hb : exs Φ cf false f__law_tokens_b1 [some (.sh (.str cs)), some (.sh (.str LS)), some (.sh (.str LG)), a3, some (.sh (.int at_)), v5, some (.sh (.int e)), v7, v8] = .nx [some (.sh (.str cs)), some (.sh (.str LS)), some (.sh (.str LG)), a3, some (.sh (.int at_)), v5, some (.sh (.int ((e + 1 : Nat) : Int))), v7, v8] := by
        simp [f__law_tokens_b1]
      rw [hb, nextR_nx, ih (e + 1) f (by omega) (by omega) (by omega), h4]
      simp
      omega
    | false =>
      rw [whl_stop (d := .bl false) (δ1 := [some (.sh (.str cs)), some (.sh (.str LS)), some (.sh (.str LG)), a3, some (.sh (.int at_)), v5, some (.sh (.int e)), v7, v8]) (by simp [f__law_tokens_e3, h1, h3, okLSG, in_LSG, hc, -in_str]) rfl]
      simp
/-- the item of the comprehension: 1 for each sign that is no small letter -/
theorem ltok_lc (cf : CF) (r : List Nat) (s0 s2 s3 s4 s5 s6 s7 v8 : Option Sl) : ∃ v, lcR Φ cf (.nm false 8) f__law_tokens_c1 f__law_tokens_e2 (r.map fun c => D.str [c]) [s0, some (.sh (.str LS)), s2, s3, s4, s5, s6, s7, v8] = .ok ((r.filter fun c => !sm c).map fun _ => .int 1) [s0, some (.sh (.str LS)), s2, s3, s4, s5, s6, s7, v] := by
  obtain ⟨δ', e, v, rfl⟩ := lcR_if (Φ := Φ) (cf := cf) (t := .nm false 8) (cs := f__law_tokens_c1) (e := f__law_tokens_e2) (fun δ => ∃ v, δ = [s0, some (.sh (.str LS)), s2, s3, s4, s5, s6, s7, v]) (fun c => !sm c) (fun _ => .int 1) (fun c => D.str [c]) r [s0, some (.sh (.str LS)), s2, s3, s4, s5, s6, s7, v8] (fun c δ _ ⟨v, q⟩ => by
    subst q
    refine ⟨[s0, some (.sh (.str LS)), s2, s3, s4, s5, s6, s7, some (.sh (.str [c]))], ?_, _, rfl⟩
    cases h : sm c <;> simp [f__law_tokens_c1, f__law_tokens_e2, in_LS, h, -in_str]) ⟨v8, rfl⟩
  exact ⟨v, e⟩
theorem filter_nil {r : List Nat} : (r.filter fun c => !sm c) = [] ↔ smA r = true := by
  simp [List.filter_eq_nil_iff, smA]
theorem blank_in {c : Nat} (h : c < 1114112) : inS (.str [c]) (.lst [.str [32], .str [10]]) = some (blk_ c) := by
  rw [in_lst (Pl.ask (k := 0) (pl_str (by simpa using h)) (by omega)) (Pl.ask (k := 1) (pl_lst (k := 0) (by intro x hx; simp at hx; rcases hx with rfl | rfl <;> exact pl_str (by simp))) (by omega))]
  simp only [List.any_cons, List.any_nil, eqv, Bool.or_false, blk_]
  congr 2 <;> rw [decide_eq_decide] <;> simp [eq_comm]
def LTokEnd (cs : List Nat) (acc : List (List Nat × Nat)) (fl : Fl) : Except Nat (List (List Nat × Nat)) → Prop
  | .ok ts => ∃ e v5 v6 v7 v8, fl = .nx [some (.sh (.str cs)), some (.sh (.str LS)), some (.sh (.str LG)), some (.ow (.lst ((acc ++ ts).map tokD))), some (.sh (.int e)), v5, v6, v7, v8]
  | .error a => ∃ δ, fl = .rt (.int a) δ
theorem ltokEnd_cons {cs acc t fl x} (h : LTokEnd cs (acc ++ [t]) fl x) : LTokEnd cs acc fl (x.map (t :: ·)) := by
  cases x with
  | ok ts => obtain ⟨e, v5, v6, v7, v8, h⟩ := h; exact ⟨e, v5, v6, v7, v8, by rw [h]; simp⟩
  | error a => exact h
theorem lt_not_sg {c : Nat} (h : lt_ c = true) : sg c = false ∧ blk_ c = false := by
  have : (97 ≤ c ∧ c ≤ 122) ∨ (65 ≤ c ∧ c ≤ 90) := by simpa [lt_, sm, gr] using h
  constructor
  · simp [sg]; omega
  · simp [blk_]; omega
theorem sg_in (c : Nat) : inS (.str [c]) (.str [40, 41, 44, 59, 124, 48, 49, 50, 51, 52, 53, 54, 55, 56, 57]) = some (sg c) := by
  rw [in_str]; congr 1; simp [sg, Bool.decide_or, Bool.or_assoc]
theorem ltok_whl (cf : CF) {cs : List Nat} (hl : cs.length ≤ 40000) (hx : ∀ c ∈ cs, c < 1114112) : ∀ (k at_ : Nat) (acc : List (List Nat × Nat)) (v5 v6 v7 v8 : Option Sl) (f : Nat), (∀ s, v8 ≠ some (.ow s)) → cs.length - at_ < k → k < f → acc.length ≤ at_ → at_ ≤ cs.length →
    LTokEnd cs acc (whlR Φ cf false f__law_tokens_e1 f__law_tokens_b2 f [some (.sh (.str cs)), some (.sh (.str LS)), some (.sh (.str LG)), some (.ow (.lst (acc.map tokD))), some (.sh (.int at_)), v5, v6, v7, v8]) (toks k at_ (cs.drop at_)) := by
  intro k
  induction k with
  | zero => intro at_ acc v5 v6 v7 v8 f h8 hk; omega
  | succ k ih =>
    intro at_ acc v5 v6 v7 v8 f h8 hk hf ha hle
    obtain ⟨f, rfl⟩ : ∃ f', f = f' + 1 := ⟨f - 1, by omega⟩
    cases hd : cs.drop at_ with
    | nil =>
      have h1 : ¬ (at_ : Int) < cs.length := by have := drop_nil hd; omega
      rw [whl_stop (d := .bl false) (δ1 := [some (.sh (.str cs)), some (.sh (.str LS)), some (.sh (.str LG)), some (.ow (.lst (acc.map tokD))), some (.sh (.int at_)), v5, v6, v7, v8]) (by simp [f__law_tokens_e1, h1]) rfl]
      exact ⟨at_, v5, v6, v7, v8, by simp⟩
    | cons c r =>
      obtain ⟨h2, h3, h4⟩ := len_drop_lt hd
      have h1 : (at_ : Int) < cs.length := by omega
      have hc : c < 1114112 := hx c (List.mem_of_mem_drop (i := at_) (by rw [hd]; exact List.mem_cons_self))
      rw [whl_step (d := .bl true) (δ1 := [some (.sh (.str cs)), some (.sh (.str LS)), some (.sh (.str LG)), some (.ow (.lst (acc.map tokD))), some (.sh (.int at_)), v5, v6, v7, v8]) (by simp [f__law_tokens_e1, h1]) rfl]
      have al : (acc.map tokD).length < 16777216 := by rw [List.length_map]; omega
      simp only [toks]
      cases hlt : lt_ c with
      | false =>
        have hr : row (c :: r) = [] := by rw [row_cons, hlt]; rfl
        have ht : tokS (row (c :: r)) = false := by rw [hr]; rfl
        by_cases hs : sg c = true
        · have hb : blk_ c = false := by
            cases q : blk_ c with
            | false => rfl
            | true =>
              have : c = 32 ∨ c = 10 := by simpa [blk_] using q
              rcases this with rfl | rfl <;> simp [sg] at hs
          rw [if_neg (by simp [hb]), if_pos hs]
          have e : exs Φ cf false f__law_tokens_b2 [some (.sh (.str cs)), some (.sh (.str LS)), some (.sh (.str LG)), some (.ow (.lst (acc.map tokD))), some (.sh (.int at_)), v5, v6, v7, v8] = .nx [some (.sh (.str cs)), some (.sh (.str LS)), some (.sh (.str LG)), some (.ow (.lst ((acc ++ [([c], at_)]).map tokD))), some (.sh (.int ((at_ + 1 : Nat) : Int))), some (.sh (.str [c])), some (.sh (.int ((at_ + 1 : Nat) : Int))), v7, v8] := by
            simp [f__law_tokens_b2, h3, okLSG, in_LSG, hlt, -in_str, sg_in, hs, pm_append al, tokD]
          rw [e, nextR_nx, ← h4]
          exact ltokEnd_cons (ih (at_ + 1) _ _ _ _ _ f h8 (by omega) (by omega) (by simp; omega) (by omega))
        · by_cases hb : blk_ c = true
          · rw [if_pos hb]
            have e : exs Φ cf false f__law_tokens_b2 [some (.sh (.str cs)), some (.sh (.str LS)), some (.sh (.str LG)), some (.ow (.lst (acc.map tokD))), some (.sh (.int at_)), v5, v6, v7, v8] = .nx [some (.sh (.str cs)), some (.sh (.str LS)), some (.sh (.str LG)), some (.ow (.lst (acc.map tokD))), some (.sh (.int ((at_ + 1 : Nat) : Int))), some (.sh (.str [c])), some (.sh (.int ((at_ + 1 : Nat) : Int))), v7, v8] := by
              simp [f__law_tokens_b2, h3, okLSG, in_LSG, hlt, -in_str, sg_in, hs, blank_in hc, hb]
            rw [e, nextR_nx, ← h4]
            exact ih (at_ + 1) _ _ _ _ _ f h8 (by omega) (by omega) (by omega) (by omega)
          · rw [if_neg hb, if_neg hs, if_neg (by simp [ht])]
            have e : ∃ δ, exs Φ cf false f__law_tokens_b2 [some (.sh (.str cs)), some (.sh (.str LS)), some (.sh (.str LG)), some (.ow (.lst (acc.map tokD))), some (.sh (.int at_)), v5, v6, v7, v8] = .rt (.int at_) δ := by
              simp [f__law_tokens_b2, h3, okLSG, in_LSG, hlt, -in_str, sg_in, hs, blank_in hc, hb]
            obtain ⟨δ, e⟩ := e
            rw [e]
            exact ⟨δ, rfl⟩
      | true =>
        obtain ⟨hs, hb⟩ := lt_not_sg hlt
        rw [if_neg (by simp [hb]), if_neg (by simp [hs])]
        have hr : row (c :: r) = c :: row r := by rw [row_cons, hlt]; rfl
        have hw := ltok_in cf hl (some (.ow (.lst (acc.map tokD)))) (some (.sh (.str [c]))) v7 v8 at_ (cs.length - (at_ + 1)) (at_ + 1) FUEL rfl (by omega) (by rw [FUEL_eq]; omega)
        rw [h4] at hw
        have hn : ((at_ + 1 + (row r).length : Nat) : Int) = ((at_ + (row (c :: r)).length : Nat) : Int) := by rw [hr]; simp; omega
        rw [hn] at hw
        have hm := mid_row cs at_
        rw [hd] at hm
        have e2 : ∀ j : Int, j = ((at_ + (row (c :: r)).length : Nat) : Int) → cut cs (some (at_ : Int)) (some j) = c :: row r := fun j e => by rw [e, cut_nn, hm, hr]
        have hn1 : (at_ : Int) + 1 = ((at_ + 1 : Nat) : Int) := by simp
        have htk : tokS (row (c :: r)) = (decide ((row r).length ≤ 7) && smA (row r)) := by rw [hr]; exact tokS_row (by rw [← hr]; exact row_all _)
        have h8' : notOw v8 = true := by
          cases v8 with
          | none => rfl
          | some s => cases s with
            | sh d => rfl
            | ow d => exact absurd rfl (h8 d)
        have hl2 := takeWhile_le (c :: r)
        have hl3 : (c :: r).length = cs.length - at_ := by rw [← hd, List.length_drop]
        have hl4 : (row (c :: r)).length = (row r).length + 1 := by rw [hr]; rfl
        rw [← hn1] at hw
        obtain ⟨E, hE⟩ : ∃ E : Int, E = ((at_ + (row (c :: r)).length : Nat) : Int) := ⟨_, rfl⟩
        rw [← hE] at hw e2
        have e2 : cut cs (some (at_ : Int)) (some E) = c :: row r := e2 _ rfl
        obtain ⟨v, hlc⟩ := ltok_lc cf (row r) (some (.sh (.str cs))) (some (.sh (.str LG))) (some (.ow (.lst (acc.map tokD)))) (some (.sh (.int at_))) (some (.sh (.str [c]))) (some (.sh (.int E))) (some (.sh (.str (c :: row r)))) v8
        have hls : ((row r).filter fun c => !sm c).length ≤ (row r).length := List.length_filter_le _ _
        have hok : okLst (((row r).filter fun c => !sm c).map fun _ => D.int 1) = some (.lst (((row r).filter fun c => !sm c).map fun _ => D.int 1)) := okLst_eq (by rw [List.length_map]; omega)
        have heq : eqS (.lst (((row r).filter fun c => !sm c).map fun _ => D.int 1)) (.lst []) = some (((row r).filter fun c => !sm c).isEmpty) := by
          have := eqS_ints_nil (((row r).filter fun c => !sm c).map fun _ => 1)
          rw [List.map_map] at this
          have e : (D.int ∘ fun (_ : Nat) => (1 : Int)) = fun _ => D.int 1 := rfl
          rw [e] at this
          rw [this]
          cases (row r).filter fun c => !sm c <;> rfl
        by_cases h7 : (row r).length ≤ 7
        · have h7' : ¬ (8 : Int) < (row r).length + 1 := by omega
          cases hsm : smA (row r) with
          | true =>
            rw [if_pos (by rw [htk, hsm]; simp [h7])]
            have hf : ((row r).filter fun c => !sm c) = [] := filter_nil.mpr hsm
            rw [hf] at hlc hok heq
            simp only [List.map_nil] at hlc
            have e : ∃ v8', (∀ s, v8' ≠ some (.ow s)) ∧ exs Φ cf false f__law_tokens_b2 [some (.sh (.str cs)), some (.sh (.str LS)), some (.sh (.str LG)), some (.ow (.lst (acc.map tokD))), some (.sh (.int at_)), v5, v6, v7, v8] = .nx [some (.sh (.str cs)), some (.sh (.str LS)), some (.sh (.str LG)), some (.ow (.lst ((acc ++ [(row (c :: r), at_)]).map tokD))), some (.sh (.int E)), some (.sh (.str [c])), some (.sh (.int E)), some (.sh (.str (c :: row r))), v8'] := by
              refine ⟨v8, h8, ?_⟩
              simp [f__law_tokens_b2, h3, okLSG, in_LSG, hlt, -in_str, hw, e2, h7', cut_1_, h8', hlc, pm_append al, tokD, hr]
            obtain ⟨v8', h8', e⟩ := e
            rw [e, nextR_nx, ← hd, ← drop_add', hd, hE]
            exact ltokEnd_cons (ih (at_ + (row (c :: r)).length) _ _ _ _ _ f h8' (by omega) (by omega) (by simp; omega) (by omega))
          | false =>
            rw [if_neg (by rw [htk, hsm]; simp)]
            have hf : ((row r).filter fun c => !sm c).isEmpty = false := by
              cases q : (row r).filter fun c => !sm c with
              | nil => have := filter_nil.mp q; rw [hsm] at this; cases this
              | cons a b => rfl
            rw [hf] at heq
            have e : ∃ δ, exs Φ cf false f__law_tokens_b2 [some (.sh (.str cs)), some (.sh (.str LS)), some (.sh (.str LG)), some (.ow (.lst (acc.map tokD))), some (.sh (.int at_)), v5, v6, v7, v8] = .rt (.int at_) δ := by
              simp [f__law_tokens_b2, h3, okLSG, in_LSG, hlt, -in_str, hw, e2, h7', cut_1_, h8', hlc, hok, heq]
            obtain ⟨δ, e⟩ := e
            rw [e]
            exact ⟨δ, rfl⟩
        · have h7' : (8 : Int) < (row r).length + 1 := by omega
          rw [if_neg (by rw [htk]; simp [h7])]
          have e : ∃ δ, exs Φ cf false f__law_tokens_b2 [some (.sh (.str cs)), some (.sh (.str LS)), some (.sh (.str LG)), some (.ow (.lst (acc.map tokD))), some (.sh (.int at_)), v5, v6, v7, v8] = .rt (.int at_) δ := by
            simp [f__law_tokens_b2, h3, okLSG, in_LSG, hlt, -in_str, hw, e2, h7']
          obtain ⟨δ, e⟩ := e
          rw [e]
          exact ⟨δ, rfl⟩
theorem s_ltok (n : Nat) {cs : List Nat} (hl : cs.length ≤ 40000) (hx : ∀ c ∈ cs, c < 1114112) : callF Φ (n + 1) 1005 [.str cs] = match toks (cs.length + 1) 0 cs with
    | .ok ts => .rt (.lst (ts.map tokD)) []
    | .error a => .rt (.int a) [] := by
  refine call_run Φ__law_tokens ⟨rfl, by decide⟩ ?_
  have h := ltok_whl (callF Φ n) hl hx (cs.length + 1) 0 [] none none none none FUEL (by simp) (by omega) (by rw [FUEL_eq]; omega) (by simp) (by omega)
  simp only [List.drop_zero, List.map_nil, Int.natCast_zero, LS, LG] at h
  cases q : toks (cs.length + 1) 0 cs with
  | ok ts =>
    rw [q] at h
    obtain ⟨e, v5, v6, v7, v8, h⟩ := h
    simp [f__law_tokens, startE, h]
  | error a =>
    rw [q] at h
    obtain ⟨δ, h⟩ := h
    simp [f__law_tokens, startE, h]
end PyM

set_option Elab.async false
set_option linter.all false
set_option maxRecDepth 100000
namespace PyM
open PyI
theorem s_begun (n : Nat) {ns : List Int} (hl : ns.length ≤ 63) : ∃ d, callF Φ (n + 1) 1000 [.scr ns] = .rt d [] ∧ Drw d := by
  obtain ⟨δ1, e1, v2, rfl⟩ := lcR_if (Φ := Φ) (cf := callF Φ n) (t := .nm false 2) (cs := f__law_begun_c1) (e := f__law_begun_e2) (fun δ => ∃ v, δ = [some (.sh (.scr ns)), none, v]) (fun z => decide ((1000000000000000000 : Int) ≤ if z < 0 then -z else z)) (fun z => .int ((if z < 0 then -z else z) - 1000000000000000000)) D.int ns [some (.sh (.scr ns)), none, none] (fun z δ _ ⟨v, q⟩ => by
    subst q
    refine ⟨[some (.sh (.scr ns)), none, some (.sh (.int z))], ?_, _, rfl⟩
    by_cases h : (1000000000000000000 : Int) ≤ if z < 0 then -z else z <;> simp [f__law_begun_c1, f__law_begun_e2, h]) ⟨none, rfl⟩
  obtain ⟨δ2, e2, w2, rfl⟩ := lcR_each (Φ := Φ) (cf := callF Φ n) (t := .nm false 2) (cs := .nil) (e := f__law_begun_e1) (fun δ => ∃ v, δ = [some (.sh (.scr ns)), none, v]) (fun z => .int (if z < 0 then -z else z)) D.int ns [some (.sh (.scr ns)), none, none] (fun z δ _ ⟨v, q⟩ => by
    subst q
    exact ⟨[some (.sh (.scr ns)), none, some (.sh (.int z))], by simp [f__law_begun_e1], _, rfl⟩) ⟨none, rfl⟩
  have l1 := List.length_filter_le (fun z => decide ((1000000000000000000 : Int) ≤ if z < 0 then -z else z)) ns
  have k1 : immAll ((ns.filter (fun z => decide ((1000000000000000000 : Int) ≤ if z < 0 then -z else z))).map (fun z => D.int ((if z < 0 then -z else z) - 1000000000000000000))) = true := immAll_map _ _ (by simp)
  have k2 : immAll (ns.map (fun z => D.int (if z < 0 then -z else z))) = true := immAll_map _ _ (by simp)
  have o1 := okLst_eq (cs := (ns.filter (fun z => decide ((1000000000000000000 : Int) ≤ if z < 0 then -z else z))).map (fun z => D.int ((if z < 0 then -z else z) - 1000000000000000000))) (by rw [List.length_map]; omega)
  have o2 := okLst_eq (cs := ns.map (fun z => D.int (if z < 0 then -z else z))) (by rw [List.length_map]; omega)
  refine ⟨drw ((ns.filter (fun z => decide ((1000000000000000000 : Int) ≤ if z < 0 then -z else z))).map (fun z => (if z < 0 then -z else z) - 1000000000000000000)) (ns.map (fun z => if z < 0 then -z else z)) 0 0, ?_, _, _, _, _, rfl, by rw [List.length_map]; omega, by rw [List.length_map]; omega⟩
  refine call_run Φ__law_begun ⟨rfl, by decide⟩ ?_
  rw [drw_eq, List.map_map, List.map_map]
  simp [f__law_begun, startE, e1, e2, o1, o2, fin_kids, k1, k2, mkDct, mkDctGo, keyOk, dput, Function.comp_def]
theorem s_pick (n : Nat) {d : D} (hd : Drw d) {xs : List D} (h0 : 0 < xs.length) (hl : xs.length < 1073741824) : ∃ x d', callF Φ (n + 3) 1003 [d, .lst xs] = .rt x [d'] ∧ x ∈ xs ∧ Drw d' := by
  obtain ⟨r, d', e, r0, r1, hd'⟩ := s_take n hd (size := (xs.length : Int)) (by omega) (by omega)
  obtain ⟨k, rfl⟩ := Int.eq_ofNat_of_zero_le r0
  have hk : k < xs.length := by omega
  refine ⟨xs[k], d', ?_, List.getElem_mem _, hd'⟩
  refine call_run (n := n + 2) Φ__law_pick ⟨rfl, by decide⟩ ?_
  have e1 : idxS (.lst xs) (.int (k : Int)) = some xs[k] := by rw [idx_lst, List.getElem?_eq_getElem hk]
  simp [f__law_pick, startE, e, e1, -idx_lst]
mutual
theorem shw_py : ∀ d : D, d.shw = true → ∃ p, d.py = some p
  | .non, _ => by simp [D.py]
  | .bl b, _ => by simp [D.py]
  | .int i, _ => by simp [D.py]
  | .str s, _ => by simp [D.py]
  | .tup xs, h => by
    simp only [D.shw] at h
    obtain ⟨ps, e⟩ := shwAll_py xs h
    simp [D.py, e]
  | .lst xs, h => by
    simp only [D.shw] at h
    obtain ⟨ps, e⟩ := shwAll_py xs h
    simp [D.py, e]
  | .dct _ _, h => by simp [D.shw] at h
  | .exc _ _, h => by simp [D.shw] at h
  | .scr _, h => by simp [D.shw] at h
theorem shwAll_py : ∀ xs : List D, shwAll xs = true → ∃ ps, pyAll xs = some ps
  | [], _ => ⟨[], by simp only [pyAll]⟩
  | x :: xs, h => by
    simp only [shwAll, Bool.and_eq_true] at h
    obtain ⟨p, e⟩ := shw_py x h.1
    obtain ⟨ps, e2⟩ := shwAll_py xs h.2
    exact ⟨p :: ps, by simp only [pyAll, e, e2]⟩
end
/-- it can be shown, so deep, so long -/
structure Shw (k w : Nat) (d : D) : Prop where
  s : d.shw = true
  e : d.deep ≤ k
  l : d.wt ≤ w
theorem Shw.ok {k w : Nat} {d : D} (h : Shw k w d) (hk : k ≤ 60) (hw : w ≤ 16777216) : ∃ s, shownOf d = some s := by
  obtain ⟨p, e⟩ := shw_py d h.s
  have h2 : d.wt ≤ LINE := Nat.le_trans h.l hw
  exact ⟨p.shown.cps.toList, by simp [shownOf, e, h.s, Nat.le_trans h.e hk, h2]⟩
theorem wtI_le (i : Int) : wtI i ≤ 1921 := by unfold wtI; split <;> omega
theorem shw_int {k : Nat} {i : Int} (h : i.natAbs < 2 ^ 1900) : Shw k 1921 (.int i) := ⟨by simp only [D.shw]; exact decide_eq_true h, by simp [D.deep], by simp only [D.wt]; exact wtI_le i⟩
theorem pow1900 : 10000000000000000 ≤ 2 ^ 1900 := Nat.le_trans (by decide : 10000000000000000 ≤ 2 ^ 60) (Nat.pow_le_pow_right (by decide) (by decide))
theorem shw_intN {k : Nat} {i : Nat} (h : i < 10000000000000000) : Shw k 1921 (.int i) := shw_int (by rw [Int.natAbs_natCast]; exact Nat.lt_of_lt_of_le h pow1900)
theorem shw_str {k w : Nat} {cs : List Nat} (h : ∀ c ∈ cs, c < 1114112) (hw : 10 * cs.length + 2 ≤ w) : Shw k w (.str cs) := ⟨by simpa [D.shw] using h, by simp [D.deep], by simpa [D.wt] using hw⟩
theorem shwAll_iff {xs : List D} : shwAll xs = true ↔ ∀ x ∈ xs, x.shw = true := by
  induction xs with
  | nil => simp [shwAll]
  | cons x xs ih => simp [shwAll, ih]
theorem wtAll_le {xs : List D} {w : Nat} (h : ∀ x ∈ xs, x.wt ≤ w) : wtAll xs ≤ xs.length * (w + 2) := by
  induction xs with
  | nil => simp [wtAll]
  | cons x xs ih =>
    simp only [wtAll, List.length_cons, Nat.succ_mul]
    have h1 := h x List.mem_cons_self
    have h2 := ih fun y hy => h y (List.mem_cons_of_mem _ hy)
    omega
theorem shw_lst {k w w' m : Nat} {xs : List D} (h : ∀ x ∈ xs, Shw k w x) (hm : xs.length ≤ m) (hw : m * (w + 2) + 3 ≤ w') : Shw (k + 1) w' (.lst xs) := by
  refine ⟨?_, ?_, ?_⟩
  · simp only [D.shw]; exact shwAll_iff.mpr fun x hx => (h x hx).s
  · simp only [D.deep]; exact Nat.succ_le_succ (deepAll_le fun x hx => (h x hx).e)
  · simp only [D.wt]
    have := wtAll_le fun x hx => (h x hx).l
    have h2 : xs.length * (w + 2) ≤ m * (w + 2) := Nat.mul_le_mul_right _ hm
    omega
theorem shw_tup {k w w' m : Nat} {xs : List D} (h : ∀ x ∈ xs, Shw k w x) (hm : xs.length ≤ m) (hw : m * (w + 2) + 3 ≤ w') : Shw (k + 1) w' (.tup xs) := by
  refine ⟨?_, ?_, ?_⟩
  · simp only [D.shw]; exact shwAll_iff.mpr fun x hx => (h x hx).s
  · simp only [D.deep]; exact Nat.succ_le_succ (deepAll_le fun x hx => (h x hx).e)
  · simp only [D.wt]
    have := wtAll_le fun x hx => (h x hx).l
    have h2 : xs.length * (w + 2) ≤ m * (w + 2) := Nat.mul_le_mul_right _ hm
    omega
theorem s_same (n : Nat) {a b : D} {s t : List Nat} (ha : shownOf a = some s) (hb : shownOf b = some t) : callF Φ (n + 1) 1004 [a, b] = .rt (.bl (decide (s = t))) [] := by
  refine call_run Φ__law_same ⟨rfl, by decide⟩ ?_
  simp [f__law_same, startE, ha, hb]
theorem s_same_eq (n : Nat) {a : D} {k w : Nat} (h : Shw k w a) (hk : k ≤ 60) (hw : w ≤ 16777216) : callF Φ (n + 1) 1004 [a, a] = .rt (.bl true) [] := by
  obtain ⟨s, e⟩ := h.ok hk hw
  rw [s_same n e e]
  simp
end PyM

set_option Elab.async false
set_option linter.all false
set_option maxRecDepth 100000
namespace PyM
open PyI
/-- what tokens are like -/
theorem toks_ok : ∀ (k at_ : Nat) (cs : List Nat), match toks k at_ cs with
    | .ok ts => ts.length ≤ cs.length ∧ ∀ t ∈ ts, t.1.length ≤ cs.length ∧ (∀ c ∈ t.1, c ∈ cs) ∧ t.2 < at_ + cs.length
    | .error a => a < at_ + cs.length := by
  intro k
  induction k with
  | zero => intro at_ cs; simp [toks]
  | succ k ih =>
    intro at_ cs
    cases cs with
    | nil => simp [toks]
    | cons c r =>
      have step : ∀ (j : Nat) (t : List Nat), 0 < j → j ≤ (c :: r).length → t.length ≤ (c :: r).length → (∀ x ∈ t, x ∈ c :: r) → (match (toks k (at_ + j) ((c :: r).drop j)).map ((t, at_) :: ·) with
          | .ok ts => ts.length ≤ (c :: r).length ∧ ∀ t ∈ ts, t.1.length ≤ (c :: r).length ∧ (∀ x ∈ t.1, x ∈ c :: r) ∧ t.2 < at_ + (c :: r).length
          | .error a => a < at_ + (c :: r).length) := by
        intro j t hj hj2 ht hx
        have h := ih (at_ + j) ((c :: r).drop j)
        have hd : ((c :: r).drop j).length = (c :: r).length - j := List.length_drop
        cases q : toks k (at_ + j) ((c :: r).drop j) with
        | ok ts =>
          rw [q] at h
          simp only [exc_map_ok]
          obtain ⟨h1, h2⟩ := h
          refine ⟨by simp only [List.length_cons] at *; omega, fun t' ht' => ?_⟩
          rcases List.mem_cons.mp ht' with rfl | ht'
          · exact ⟨ht, hx, by simp only [List.length_cons]; omega⟩
          · obtain ⟨a1, a2, a3⟩ := h2 t' ht'
            exact ⟨by omega, fun x hx => List.mem_of_mem_drop (a2 x hx), by omega⟩
        | error a =>
          rw [q] at h
          simp only [exc_map_er]
          have h : a < at_ + j + ((c :: r).drop j).length := h
          omega
      simp only [toks]
      by_cases hb : blk_ c = true
      · rw [if_pos hb]
        have h := ih (at_ + 1) r
        cases q : toks k (at_ + 1) r with
        | ok ts =>
          rw [q] at h
          obtain ⟨h1, h2⟩ := h
          refine ⟨by simp only [List.length_cons]; omega, fun t ht => ?_⟩
          obtain ⟨a1, a2, a3⟩ := h2 t ht
          exact ⟨by simp only [List.length_cons]; omega, fun x hx => List.mem_cons_of_mem _ (a2 x hx), by simp only [List.length_cons]; omega⟩
        | error a =>
          rw [q] at h
          have h : a < at_ + 1 + r.length := h
          show a < at_ + (c :: r).length
          simp only [List.length_cons]; omega
      · rw [if_neg hb]
        by_cases hs : sg c = true
        · rw [if_pos hs]
          exact step 1 [c] (by omega) (by simp) (by simp) (by simp)
        · rw [if_neg hs]
          by_cases hr : tokS (row (c :: r)) = true
          · rw [if_pos hr]
            exact step _ _ (tokS_pos hr) (takeWhile_le _) (takeWhile_le _) fun x hx => (List.takeWhile_sublist _).subset hx
          · rw [if_neg hr]
            show at_ < at_ + (c :: r).length
            simp
theorem rep_succ {α : Type} (m : Nat) (xs : List α) : rep (m + 1) xs = xs ++ rep m xs := by simp [rep, List.replicate_succ]
theorem rep_len {α : Type} (m : Nat) (xs : List α) : (rep m xs).length = m * xs.length := by
  induction m with
  | zero => simp [rep]
  | succ m ih => rw [rep_succ, List.length_append, ih, Nat.succ_mul]; omega
/-- the great text -/
theorem toks_great : ∀ (m k at_ : Nat), 4 * m < k → ∃ ts, toks k at_ (rep m [70, 32, 59, 32]) = .ok ts ∧ ts.length = 2 * m := by
  intro m
  induction m with
  | zero => intro k at_ hk; obtain ⟨k, rfl⟩ : ∃ k', k = k' + 1 := ⟨k - 1, by omega⟩; exact ⟨[], by simp [rep, toks], rfl⟩
  | succ m ih =>
    intro k at_ hk
    obtain ⟨k, rfl⟩ : ∃ k', k = k' + 4 := ⟨k - 4, by omega⟩
    obtain ⟨ts, e, l⟩ := ih k (at_ + 4) (by omega)
    refine ⟨([70], at_) :: ([59], at_ + 2) :: ts, ?_, by simp [l]; omega⟩
    have hr : row (70 :: 32 :: 59 :: 32 :: rep m [70, 32, 59, 32]) = [70] := rfl
    rw [rep_succ]
    show toks (k + 3 + 1) at_ (70 :: 32 :: 59 :: 32 :: rep m [70, 32, 59, 32]) = _
    rw [toks]
    simp only [hr, show blk_ 70 = false from rfl, show sg 70 = false from rfl, show tokS [70] = true from rfl, Bool.false_eq_true, if_false, if_true, List.length_singleton, List.drop_succ_cons, List.drop_zero]
    show (toks (k + 2 + 1) (at_ + 1) (32 :: 59 :: 32 :: rep m [70, 32, 59, 32])).map _ = _
    rw [toks]
    simp only [show blk_ 32 = true from rfl, if_true]
    show (toks (k + 1 + 1) (at_ + 1 + 1) (59 :: 32 :: rep m [70, 32, 59, 32])).map _ = _
    rw [toks]
    simp only [show blk_ 59 = false from rfl, show sg 59 = true from rfl, Bool.false_eq_true, if_false, if_true]
    show ((toks (k + 1) (at_ + 1 + 1 + 1) (32 :: rep m [70, 32, 59, 32])).map _).map _ = _
    rw [toks]
    simp only [show blk_ 32 = true from rfl, if_true]
    rw [e]
    rfl
/-- a piece of a drawn text -/
def Piece (cs : List Nat) : Prop := cs.length ≤ 9 ∧ ∀ c ∈ cs, c < 1114112
theorem joinL_nil : ∀ ss : List (List Nat), joinL [] ss = ss.flatten
  | [] => rfl
  | [x] => by simp [joinL]
  | x :: y :: r => by rw [joinL, joinL_nil (y :: r)]; simp
theorem flat_len {m : Nat} : ∀ ss : List (List Nat), (∀ s ∈ ss, s.length ≤ m) → (ss.map (·.length)).sum ≤ ss.length * m
  | [], _ => by simp
  | s :: ss, h => by
    have h1 := h s List.mem_cons_self
    have h2 := flat_len ss fun t ht => h t (List.mem_cons_of_mem _ ht)
    simp only [List.map_cons, List.sum_cons, List.length_cons, Nat.succ_mul]
    omega
def SOME : List (List Nat) := [[105, 100], [115, 119, 97, 112], [100, 111, 116], [97], [98], [107, 105, 110, 100, 115], [70], [71], [77, 109], [40], [41], [44], [59], [124], [48], [49, 50], [55], [32], [10], [32, 32], [120], [97, 98, 99, 100, 101, 102, 103, 104]]
def ODD : List (List Nat) := [[65, 49], [97, 66], [70, 71], [97, 98, 99, 100, 101, 102, 103, 104, 105], [70, 97, 98, 99, 100, 101, 102, 103, 104], [95], [43], [9], [70, 50], [49, 97], [45], [46]]
theorem some_ok : ∀ s ∈ SOME, Piece s := by simp only [SOME, Piece]; decide
theorem odd_ok : ∀ s ∈ ODD, Piece s := by simp only [ODD, Piece]; decide
theorem s_piece (n : Nat) {d : D} (hd : Drw d) (v : Option Sl) : ∃ s d', ev Φ (callF Φ (n + 3)) f__law_pieces_e1 false [some (.ow d), some (.sh (.lst (SOME.map .str))), some (.sh (.lst (ODD.map .str))), v] = .ok (.str s) [some (.ow d'), some (.sh (.lst (SOME.map .str))), some (.sh (.lst (ODD.map .str))), v] ∧ Piece s ∧ Drw d' := by
  obtain ⟨r, d1, e1, _, _, hd1⟩ := s_take (n + 1) hd (size := 9) (by decide) (by decide)
  by_cases h : r = 0
  · obtain ⟨x, d2, e2, hx, hd2⟩ := s_pick n hd1 (xs := ODD.map .str) (by decide) (by decide)
    obtain ⟨s, hs, rfl⟩ := List.mem_map.mp hx
    refine ⟨s, d2, ?_, odd_ok s hs, hd2⟩
    subst h
    simp [f__law_pieces_e1, e1, e2]
  · obtain ⟨x, d2, e2, hx, hd2⟩ := s_pick n hd1 (xs := SOME.map .str) (by decide) (by decide)
    obtain ⟨s, hs, rfl⟩ := List.mem_map.mp hx
    refine ⟨s, d2, ?_, some_ok s hs, hd2⟩
    simp [f__law_pieces_e1, e1, e2, h]
theorem s_pieces (n : Nat) {d : D} (hd : Drw d) : ∃ cs d', callF Φ (n + 4) 1006 [d] = .rt (.str cs) [d'] ∧ cs.length ≤ 117 ∧ (∀ c ∈ cs, c < 1114112) ∧ Drw d' := by
  obtain ⟨r, d1, e1, r0, r1, hd1⟩ := s_take (n + 1) hd (size := 14) (by decide) (by decide)
  obtain ⟨es, δ', e2, i⟩ := lcR_inv (Φ := Φ) (cf := callF Φ (n + 3)) (t := .nm false 3) (cs := .nil) (e := f__law_pieces_e1) (fun rest ds δ => ∃ d v ss, Drw d ∧ δ = [some (.ow d), some (.sh (.lst (SOME.map .str))), some (.sh (.lst (ODD.map .str))), v] ∧ ds = ss.map D.str ∧ (∀ s ∈ ss, Piece s) ∧ ss.length + rest.length ≤ 13) (upTo r.toNat) [] [some (.ow d1), some (.sh (.lst (SOME.map .str))), some (.sh (.lst (ODD.map .str))), none] (fun x xs ds δ ⟨d, v, ss, hd, q, q2, hp, hl⟩ => by
    subst q q2
    obtain ⟨s, d', e, hs, hd'⟩ := s_piece n hd (some (.sh x))
    refine ⟨[.str s], [some (.ow d'), some (.sh (.lst (SOME.map .str))), some (.sh (.lst (ODD.map .str))), some (.sh x)], ?_, d', _, ss ++ [s], hd', rfl, by simp, ?_, ?_⟩
    · simp [e]
    · intro t ht
      rcases List.mem_append.mp ht with ht | ht
      · exact hp t ht
      · rw [List.mem_singleton.mp ht]; exact hs
    · simp at hl ⊢; omega) ⟨d1, none, [], hd1, rfl, rfl, by simp, by simp [upTo]; omega⟩
  obtain ⟨d2, v, ss, hd2, rfl, he, hp, hl⟩ := i
  simp only [List.nil_append] at he
  subst he
  have hs : (ss.map (·.length)).sum ≤ ss.length * 9 := flat_len ss fun s hs => (hp s hs).1
  simp only [List.length_nil, Nat.add_zero] at hl
  have hs2 : ss.flatten.length ≤ 117 := by
    rw [List.length_flatten]
    have : (ss.map List.length).sum = (ss.map (·.length)).sum := rfl
    omega
  refine ⟨ss.flatten, d2, ?_, hs2, ?_, hd2⟩
  · refine call_run (n := n + 3) Φ__law_pieces ⟨rfl, by decide⟩ ?_
    have o1 : okLst (ss.map D.str) = some (.lst (ss.map D.str)) := okLst_eq (by rw [List.length_map]; omega)
    have h1 : -4611686018427387904 ≤ r ∧ r < 4611686018427387904 := by omega
    have h2 : (ss.map (·.length)).sum + ss.length * 0 ≤ 16777216 := by omega
    have e3 : mtS .join (.str []) [.lst (ss.map D.str)] = some (.str ss.flatten) := by
      simp only [mtS, joinS, strsOf_map, Option.bind_some, List.length_nil, h2, decide_true, if_true, joinL_nil]
    simp only [SOME, ODD, List.map_cons, List.map_nil] at e2
    have oS : ∀ xs : List D, xs.length ≤ 22 → okLst xs = some (.lst xs) := fun xs h => okLst_eq (by omega)
    simp [f__law_pieces, startE, oS, e1, h1, e2, o1, e3]
  · intro c hc
    obtain ⟨s, hs, hc⟩ := List.mem_flatten.mp hc
    exact (hp s hs).2 c hc
/-- the tokens of a short text can be shown -/
theorem shw_toks {cs : List Nat} (hl : cs.length ≤ 117) (hx : ∀ c ∈ cs, c < 1114112) {ts : List (List Nat × Nat)} (h : toks (cs.length + 1) 0 cs = .ok ts) : Shw 2 1000000 (.lst (ts.map tokD)) := by
  have q := toks_ok (cs.length + 1) 0 cs
  rw [h] at q
  obtain ⟨h1, h2⟩ := q
  refine shw_lst (k := 1) (w := 4000) (m := 117) (fun x hx' => ?_) (by rw [List.length_map]; omega) (by decide)
  obtain ⟨t, ht, rfl⟩ := List.mem_map.mp hx'
  obtain ⟨a1, a2, a3⟩ := h2 t ht
  refine shw_tup (k := 0) (w := 1921) (m := 2) (fun y hy => ?_) (by simp) (by decide)
  simp only [List.mem_cons, List.not_mem_nil, or_false] at hy
  rcases hy with rfl | rfl
  · exact shw_str (fun c hc => hx c (a2 c hc)) (by omega)
  · exact shw_intN (by omega)
theorem law_turn (n : Nat) {ns : List Int} {d : D} (hd : Drw d) (x : D) (v3 v4 v5 v6 : Option Sl) : ∃ d' w4 w5 w6, exs Φ (callF Φ (n + 4)) false f_law_b1 [some (.sh (.scr ns)), some (.ow d), some (.sh x), v3, v4, v5, v6] = .nx [some (.sh (.scr ns)), some (.ow d'), some (.sh x), v3, w4, w5, w6] ∧ Drw d' := by
  obtain ⟨cs, d1, e1, hl, hx, hd1⟩ := s_pieces n hd
  have e2 := s_ltok (n + 3) (cs := cs) (by omega) hx
  have e3 := s_tokens n (cs := cs) (by omega)
  cases q : toks (cs.length + 1) 0 cs with
  | ok ts =>
    rw [q] at e2 e3
    have hs := shw_toks hl hx q
    have e4 := s_same_eq (n + 3) hs (by omega) (by omega)
    exact ⟨d1, _, _, _, by simp [f_law_b1, e1, e2, e3, e4]; first | exact ⟨rfl, rfl, rfl⟩ | exact ⟨rfl, rfl⟩ | rfl, hd1⟩
  | error a =>
    rw [q] at e2 e3
    have qa := toks_ok (cs.length + 1) 0 cs
    rw [q] at qa
    have qa : a < 0 + cs.length := qa
    have e4 := s_same_eq (n + 3) (a := .int a) (k := 0) (shw_intN (by omega)) (by omega) (by omega)
    exact ⟨d1, _, _, _, by simp [f_law_b1, e1, e2, e3, e4, exFld]; first | exact ⟨rfl, rfl, rfl⟩ | exact ⟨rfl, rfl⟩ | rfl, hd1⟩
theorem bin_mul_si (x : List Nat) (m : Nat) (h : m < 2147483648) : binS .mul (.str x) (.int m) = okStr (rep m x) := by
  have h1 : (m : Int) < 2 ^ 31 := by omega
  have h2 : -(2 ^ 31) < (m : Int) := by omega
  simp only [binS, h1, h2, decide_true, Bool.and_self, if_true, Int.toNat_natCast]
def GREAT : List Nat := rep 10000 [70, 32, 59, 32]
theorem great_len : GREAT.length = 40000 := rep_len 10000 [70, 32, 59, 32]
theorem great_toks : ∃ ts, toks (40000 + 1) 0 GREAT = .ok ts ∧ ts.length = 20000 := toks_great 10000 (40000 + 1) 0 (by omega)
theorem great_mul : binS .mul (.str [70, 32, 59, 32]) (.int 10000) = some (.str GREAT) := by
  have o := okStr_eq (cs := GREAT) (by rw [great_len]; omega)
  exact (bin_mul_si [70, 32, 59, 32] 10000 (by omega)).trans o
theorem law_true' (n : Nat) (ns : List Int) (hl : ns.length ≤ 63) : callF Φ (n + 5) 1007 [.scr ns] = .rt (.bl true) [] := by
  obtain ⟨d0, e0, hd0⟩ := s_begun (n + 3) hl
  obtain ⟨δ', e1, d1, v2, v4, v5, v6, hd1, rfl⟩ := forR_inv (Φ := Φ) (cf := callF Φ (n + 4)) (ro := false) (t := .nm false 2) (b := f_law_b1) (xs := upTo (8 + (if (8 : Int) < ns.length then 8 else (ns.length : Int))).toNat) (fun _ δ => ∃ d v2 v4 v5 v6, Drw d ∧ δ = [some (.sh (.scr ns)), some (.ow d), v2, none, v4, v5, v6]) (fun pre x post δ _ ⟨d, v2, v4, v5, v6, hd, q⟩ => by
    subst q
    obtain ⟨d', w4, w5, w6, e, hd'⟩ := law_turn n (ns := ns) hd x none v4 v5 v6
    exact ⟨_, .inl (by simp [e]; rfl), d', _, w4, w5, w6, hd', rfl⟩) ⟨d0, none, none, none, none, hd0, rfl⟩
  obtain ⟨ts, e2, l2⟩ := great_toks
  have hg := great_len
  have m1 := great_mul
  generalize GREAT = G at *
  have e3 := s_tokens n (cs := G) (by omega)
  rw [hg, e2] at e3
  obtain ⟨x, d2, e4, hx, hd2⟩ := s_pick (n + 1) hd1 (xs := [.str [32], .str [70], .str [43]]) (by decide) (by decide)
  have hx : ∃ c, x = .str [c] := by
    simp only [List.mem_cons, List.not_mem_nil, or_false] at hx
    rcases hx with rfl | rfl | rfl <;> exact ⟨_, rfl⟩
  obtain ⟨c, rfl⟩ := hx
  have e5 := s_tokens_long (n + 3) (cs := G ++ [c]) (by rw [List.length_append, hg]; simp)
  obtain ⟨y, d3, e6, hy, hd3⟩ := s_pick (n + 1) hd2 (xs := [.non, .int 5, .lst [.str [70]], .tup [.str [70]]]) (by decide) (by decide)
  have hy : tyIs y .str = some false := by
    simp only [List.mem_cons, List.not_mem_nil, or_false] at hy
    rcases hy with rfl | rfl | rfl | rfl <;> rfl
  have e7 := s_tokens_no (n + 3) hy
  have e8 := s_tokens n (cs := []) (by decide)
  rw [show toks ([].length + 1) 0 [] = .ok [] from rfl] at e8
  have e9 := s_same_eq (n + 3) (a := .int 0) (k := 0) (shw_intN (i := 0) (by omega)) (by omega) (by omega)
  have m2 : okStr (G ++ [c]) = some (.str (G ++ [c])) := okStr_eq (by rw [List.length_append, hg]; simp)
  have h1 : -4611686018427387904 ≤ (8 : Int) + (if (8 : Int) < ns.length then 8 else (ns.length : Int)) ∧ (8 : Int) + (if (8 : Int) < ns.length then 8 else (ns.length : Int)) < 4611686018427387904 := by split <;> omega
  have h2 : ((ts.length : Nat) : Int) = 20000 := by rw [l2]; rfl
  refine call_run (n := n + 4) Φ_law ⟨rfl, by decide⟩ ?_
  generalize hR : (8 : Int) + (if (8 : Int) < ns.length then 8 else (ns.length : Int)) = R at *
  rw [ow_law, ro_law]
  simp only [f_law]
  generalize (10000 : Int) = M at m1 ⊢
  simp only [Nat.add_assoc, Nat.reduceAdd] at e0 e1 e3 e4 e5 e6 e7 e8 e9
  generalize callF Φ (n + 4) = cf at *
  simp -implicitDefEqProofs [startE, e0, hR, h1, e1, m1, e3, h2, e4, m2, e5, exFld, e6, e7, e8, e9]
theorem law_true : ∀ ns : List Int, ns.length ≤ 63 → (∀ z ∈ ns, PySem.Builtin.Int.intBits z ≤ 1048576) → callF Φ 5 1007 [.scr ns] = .rt (.bl true) [] := fun ns hl _ => law_true' 0 ns hl
end PyM

set_option Elab.async false
set_option linter.all false
set_option maxRecDepth 100000
namespace PyI
open PySem PySem.Spec PyProof.Rows L2

def strV (cs : List Nat) : Str := ⟨cs.toArray⟩
def keyD : Key → D
  | .inl i => .int i
  | .inr s => .str s.cps.toList
/-- tracked, and no code table -/
def trk (H : Hp) (a : Addr) : Prop := ∃ o, H a = some o ∧ ∀ ps, o ≠ .tbl ps
/-- the law's argument -/
def ScrAt (K : PySem.W.Frag) (H : Hp) (a : Addr) (xs : List V) : Prop :=
  (∃ o, H a = some (.frz o (.lst xs))) ∨
    ∃ (o : Obj) (its : Array Value) (n : Nat), K.lookup a = some o ∧ o.cls = .type "list" ∧ o.dict = none ∧ o.data = .seq its n ∧ its.size ≤ sizeLine ∧ Vals xs its.toList
/-- a dict as it stands: its keys, its values -/
def DcO (o : HO) (ks : List D) (ws : List V) : Prop :=
  ∃ kk : List Key, ks = kk.map keyD ∧ kk.length = ws.length ∧ o = .dK (kk.zip ws) ∧ kk.Nodup
def ExcHO (cls : Value) (d : Option Addr) (a : Addr) : HO := .ext fun h => ∃ oe vs, h.get? a = some oe ∧ oe.cls = cls ∧ oe.dict = d ∧ oe.data = .fields vs
structure Wd where
  K : PySem.W.Frag
  /-- where the class of the error number c stands -/
  ca : Nat → Option Addr
variable (W : Wd) (H : Hp)
mutual
/-- v stands for the tree; F: where the parts that may change can stand -/
def Rep (F : Addr → Prop) : D → V → Prop
  | .non, v => v = .non
  | .bl b, v => v = .bl b
  | .int i, v => v = .int i
  | .str cs, v => v = .str (strV cs) ∧ cs.length ≤ sizeLine
  | .tup xs, v => ∃ a vs, v = .ref a ∧ SqT W.K H a vs ∧ vs.length ≤ sizeLine ∧ Reps F xs vs
  | .lst xs, v => ∃ a vs, v = .ref a ∧ F a ∧ H a = some (.lst vs) ∧ vs.length ≤ sizeLine ∧ Reps F xs vs
  | .dct ks ds, v => ∃ a o ws, v = .ref a ∧ F a ∧ Rd H a o ∧ DcO o ks ws ∧ ws.length ≤ sizeLine ∧ Reps F ds ws
  | .exc c fs, v => ∃ a d C, v = .ref a ∧ F a ∧ W.ca c = some C ∧ H a = some (ExcHO (.ref C) d a) ∧ match fs with
    | [] => d = none
    | x :: r => r = [] ∧ ∃ dd f y, d = some dd ∧ F dd ∧ H dd = some (.xd [(f, y)]) ∧ (exFld c).map strV = some f ∧ Rep F x y
  | .scr is, v => ∃ a, v = .ref a ∧ ScrAt W.K H a (is.map .int) ∧ is.length ≤ sizeLine
def Reps (F : Addr → Prop) : List D → List V → Prop
  | [], vs => vs = []
  | x :: xs, vs => ∃ v r, vs = v :: r ∧ Rep F x v ∧ Reps F xs r
end
mutual
/-- v stands for the tree, nothing of it stands elsewhere; F: its parts that may change -/
def Tree : D → V → List Addr → Prop
  | .lst xs, v, F => ∃ a vs F', v = .ref a ∧ H a = some (.lst vs) ∧ vs.length ≤ sizeLine ∧ F = a :: F' ∧ a ∉ F' ∧ Trees xs vs F'
  | .dct ks ds, v, F => ∃ a o ws F', v = .ref a ∧ H a = some o ∧ DcO o ks ws ∧ ws.length ≤ sizeLine ∧ F = a :: F' ∧ a ∉ F' ∧ Trees ds ws F'
  | .tup xs, v, F => ∃ a vs, v = .ref a ∧ SqT W.K H a vs ∧ vs.length ≤ sizeLine ∧ Trees xs vs F
  | .exc _ _, _, _ => False
  | .scr is, v, F => (∃ a, v = .ref a ∧ ScrAt W.K H a (is.map .int) ∧ is.length ≤ sizeLine) ∧ F = []
  | .non, v, F => v = .non ∧ F = []
  | .bl b, v, F => v = .bl b ∧ F = []
  | .int i, v, F => v = .int i ∧ F = []
  | .str cs, v, F => v = .str (strV cs) ∧ cs.length ≤ sizeLine ∧ F = []
def Trees : List D → List V → List Addr → Prop
  | [], vs, F => vs = [] ∧ F = []
  | x :: xs, vs, F => ∃ v r F1 F2, vs = v :: r ∧ F = F1 ++ F2 ∧ Tree x v F1 ∧ Trees xs r F2 ∧ ∀ a ∈ F1, a ∉ F2
end
variable {W H}
theorem trk_of {a : Addr} {o : HO} (h : H a = some o) (n : ∀ ps, o ≠ .tbl ps) : trk H a := ⟨o, h, n⟩
theorem trk_lst {a xs} (h : H a = some (.lst xs)) : trk H a := ⟨_, h, fun _ z => by cases z⟩
theorem DcO.ntbl {o ks ws} (h : DcO o ks ws) : ∀ ps, o ≠ .tbl ps := by
  rintro ps rfl
  obtain ⟨_, _, _, h, _⟩ := h
  cases h
theorem DcO.len {o ks ws} (h : DcO o ks ws) : ks.length = ws.length := by
  obtain ⟨kk, rfl, h, _⟩ := h
  simpa using h
theorem DcO.mut {o ks ws} (h : DcO o ks ws) : Mut (some o) := by
  obtain ⟨_, _, _, rfl, _⟩ := h
  exact True.intro
theorem Reps.len {F : Addr → Prop} : ∀ {xs : List D} {vs : List V}, Reps W H F xs vs → xs.length = vs.length
  | [], vs, h => by simp only [Reps] at h; subst h; rfl
  | x :: xs, vs, h => by
    simp only [Reps] at h
    obtain ⟨v, r, rfl, _, h⟩ := h
    simp [Reps.len h]
theorem Reps.cons {F : Addr → Prop} {x xs v vs} (h : Rep W H F x v) (t : Reps W H F xs vs) : Reps W H F (x :: xs) (v :: vs) := by
  simp only [Reps]; exact ⟨v, vs, rfl, h, t⟩
theorem Reps.nil {F : Addr → Prop} : Reps W H F [] [] := by simp only [Reps]
theorem Reps.append {F : Addr → Prop} : ∀ {xs ys : List D} {vs ws : List V}, Reps W H F xs vs → Reps W H F ys ws → Reps W H F (xs ++ ys) (vs ++ ws)
  | [], ys, vs, ws, h, t => by simp only [Reps] at h; subst h; exact t
  | x :: xs, ys, vs, ws, h, t => by
    simp only [Reps] at h
    obtain ⟨v, r, rfl, h1, h2⟩ := h
    exact Reps.cons h1 (Reps.append h2 t)
theorem Reps.get {F : Addr → Prop} : ∀ {xs : List D} {vs : List V} {i : Nat} {x : D}, Reps W H F xs vs → xs[i]? = some x → ∃ v, vs[i]? = some v ∧ Rep W H F x v
  | [], _, i, x, _, e => by simp at e
  | x :: xs, vs, i, y, h, e => by
    simp only [Reps] at h
    obtain ⟨v, r, rfl, h1, h2⟩ := h
    cases i with
    | zero => simp at e; subst e; exact ⟨v, by simp, h1⟩
    | succ i => simpa using Reps.get (i := i) h2 (by simpa using e)
theorem Reps.getV {F : Addr → Prop} : ∀ {xs : List D} {vs : List V} {i : Nat} {v : V}, Reps W H F xs vs → vs[i]? = some v → ∃ x, xs[i]? = some x ∧ Rep W H F x v
  | [], vs, i, x, h, e => by simp only [Reps] at h; subst h; simp at e
  | x :: xs, vs, i, y, h, e => by
    simp only [Reps] at h
    obtain ⟨v, r, rfl, h1, h2⟩ := h
    cases i with
    | zero => simp at e; subst e; exact ⟨x, by simp, h1⟩
    | succ i => simpa using Reps.getV (i := i) h2 (by simpa using e)
theorem Reps.take {F : Addr → Prop} : ∀ (n : Nat) {xs : List D} {vs : List V}, Reps W H F xs vs → Reps W H F (xs.take n) (vs.take n)
  | 0, xs, vs, h => by simpa using Reps.nil
  | n + 1, [], vs, h => by simp only [Reps] at h; subst h; simpa using Reps.nil
  | n + 1, x :: xs, vs, h => by
    simp only [Reps] at h
    obtain ⟨v, r, rfl, h1, h2⟩ := h
    simpa using Reps.cons h1 (Reps.take n h2)
theorem Reps.drop {F : Addr → Prop} : ∀ (n : Nat) {xs : List D} {vs : List V}, Reps W H F xs vs → Reps W H F (xs.drop n) (vs.drop n)
  | 0, xs, vs, h => by simpa using h
  | n + 1, [], vs, h => by simp only [Reps] at h; subst h; simpa using Reps.nil
  | n + 1, x :: xs, vs, h => by
    simp only [Reps] at h
    obtain ⟨v, r, rfl, h1, h2⟩ := h
    simpa using Reps.drop n h2
theorem Reps.reverse {F : Addr → Prop} : ∀ {xs : List D} {vs : List V}, Reps W H F xs vs → Reps W H F xs.reverse vs.reverse
  | [], vs, h => by simp only [Reps] at h; subst h; simpa using Reps.nil
  | x :: xs, vs, h => by
    simp only [Reps] at h
    obtain ⟨v, r, rfl, h1, h2⟩ := h
    simpa using Reps.append (Reps.reverse h2) (Reps.cons h1 Reps.nil)
theorem Reps.set {F : Addr → Prop} {x v} (hx : Rep W H F x v) : ∀ {xs : List D} {vs : List V} (i : Nat), Reps W H F xs vs → Reps W H F (xs.set i x) (vs.set i v)
  | [], vs, i, h => by simp only [Reps] at h; subst h; simpa using Reps.nil
  | y :: xs, vs, i, h => by
    simp only [Reps] at h
    obtain ⟨w, r, rfl, h1, h2⟩ := h
    cases i with
    | zero => simpa using Reps.cons hx h2
    | succ i => simpa using Reps.cons h1 (Reps.set hx i h2)
theorem Reps.flat {F : Addr → Prop} {xs : List D} {vs : List V} (h : Reps W H F xs vs) : ∀ n, Reps W H F (rep n xs) (rep n vs)
  | 0 => by simpa [rep] using Reps.nil
  | n + 1 => by simpa [rep, List.replicate_succ] using Reps.append h (by simpa [rep] using Reps.flat h n)

theorem sqT_stay {K : PySem.W.Frag} {H H' : Hp} {a xs} (t : ∀ a xs, H a = some (.tup xs) → H' a = some (.tup xs)) (f : ∀ a o u, H a = some (.frz o u) → H' a = some (.frz o u)) (h : SqT K H a xs) : SqT K H' a xs := by
  rcases h with (h | ⟨o, h⟩) | h
  · exact .inl (.inl (t _ _ h))
  · exact .inl (.inr ⟨o, f _ _ _ h⟩)
  · exact .inr h
theorem scr_stay {K : PySem.W.Frag} {H H' : Hp} {a xs} (f : ∀ a o u, H a = some (.frz o u) → H' a = some (.frz o u)) (h : ScrAt K H a xs) : ScrAt K H' a xs :=
  h.imp (fun ⟨o, z⟩ => ⟨o, f _ _ _ z⟩) id
/-- what stays between two heaps, at the places F -/
structure Stay (F : Addr → Prop) (H H' : Hp) : Prop where
  at_ : ∀ a, F a → ∀ o, H a = some o → (∀ ps, o ≠ .tbl ps) → H' a = some o
  tup : ∀ a xs, H a = some (.tup xs) → H' a = some (.tup xs)
  frz : ∀ a o u, H a = some (.frz o u) → H' a = some (.frz o u)
theorem rd_stay {F : Addr → Prop} {H H' : Hp} (s : Stay F H H') {a o} (h : Rd H a o) (fa : F a) (n : ∀ ps, o ≠ .tbl ps) : Rd H' a o := by
  rcases h with h | ⟨ob, h⟩
  · exact .inl (s.at_ _ fa _ h n)
  · exact .inr ⟨ob, s.frz _ _ _ h⟩
mutual
theorem Rep.stay {F F' : Addr → Prop} {H H' : Hp} (s : Stay F H H') (m : ∀ a, F a → F' a) : ∀ {d v}, Rep W H F d v → Rep W H' F' d v
  | .non, v, h => by simpa only [Rep] using h
  | .bl b, v, h => by simpa only [Rep] using h
  | .int i, v, h => by simpa only [Rep] using h
  | .str cs, v, h => by simpa only [Rep] using h
  | .tup xs, v, h => by
    simp only [Rep] at h ⊢
    obtain ⟨a, vs, e, h1, hz, h2⟩ := h
    exact ⟨a, vs, e, sqT_stay s.tup s.frz h1, hz, Reps.stay s m h2⟩
  | .lst xs, v, h => by
    simp only [Rep] at h ⊢
    obtain ⟨a, vs, e, fa, h1, hz, h2⟩ := h
    exact ⟨a, vs, e, m _ fa, s.at_ _ fa _ h1 (fun _ z => by cases z), hz, Reps.stay s m h2⟩
  | .dct ks ds, v, h => by
    simp only [Rep] at h ⊢
    obtain ⟨a, o, ws, e, fa, h1, h2, hz, h3⟩ := h
    exact ⟨a, o, ws, e, m _ fa, rd_stay s h1 fa h2.ntbl, h2, hz, Reps.stay s m h3⟩
  | .exc c fs, v, h => by
    simp only [Rep] at h ⊢
    obtain ⟨a, d, C, e, fa, hC, h1, h2⟩ := h
    refine ⟨a, d, C, e, m _ fa, hC, s.at_ _ fa _ h1 (fun _ z => by unfold ExcHO at z; cases z), ?_⟩
    cases fs with
    | nil => exact h2
    | cons x r =>
      obtain ⟨e1, dd, f, y, e2, fd, h3, h4, h5⟩ := h2
      exact ⟨e1, dd, f, y, e2, m _ fd, s.at_ _ fd _ h3 (fun _ z => by cases z), h4, Rep.stay s m h5⟩
  | .scr is, v, h => by
    simp only [Rep] at h ⊢
    obtain ⟨a, e, h1, hz⟩ := h
    exact ⟨a, e, scr_stay s.frz h1, hz⟩
theorem Reps.stay {F F' : Addr → Prop} {H H' : Hp} (s : Stay F H H') (m : ∀ a, F a → F' a) : ∀ {xs vs}, Reps W H F xs vs → Reps W H' F' xs vs
  | [], vs, h => by simpa only [Reps] using h
  | x :: xs, vs, h => by
    simp only [Reps] at h ⊢
    obtain ⟨v, r, e, h1, h2⟩ := h
    exact ⟨v, r, e, Rep.stay s m h1, Reps.stay s m h2⟩
end
theorem Stay.refl (F : Addr → Prop) (H : Hp) : Stay F H H := ⟨fun _ _ _ h _ => h, fun _ _ h => h, fun _ _ _ h => h⟩
theorem Rep.mono {F F' : Addr → Prop} (m : ∀ a, F a → F' a) {d v} (h : Rep W H F d v) : Rep W H F' d v := h.stay (Stay.refl F H) m
theorem Reps.mono {F F' : Addr → Prop} (m : ∀ a, F a → F' a) {d v} (h : Reps W H F d v) : Reps W H F' d v := h.stay (Stay.refl F H) m
mutual
/-- what can't be changed stands nowhere that changes -/
theorem Rep.imm {F F' : Addr → Prop} : ∀ {d v}, d.imm = true → Rep W H F d v → Rep W H F' d v
  | .non, v, _, h => by simpa only [Rep] using h
  | .bl b, v, _, h => by simpa only [Rep] using h
  | .int i, v, _, h => by simpa only [Rep] using h
  | .str cs, v, _, h => by simpa only [Rep] using h
  | .tup xs, v, i, h => by
    simp only [Rep] at h ⊢
    obtain ⟨a, vs, e, h1, hz, h2⟩ := h
    exact ⟨a, vs, e, h1, hz, Reps.imm (by simpa only [D.imm] using i) h2⟩
  | .lst xs, v, i, h => by simp [D.imm] at i
  | .dct ks ds, v, i, h => by simp [D.imm] at i
  | .exc c fs, v, i, h => by simp [D.imm] at i
  | .scr is, v, i, h => by simpa only [Rep] using h
theorem Reps.imm {F F' : Addr → Prop} : ∀ {xs vs}, immAll xs = true → Reps W H F xs vs → Reps W H F' xs vs
  | [], vs, _, h => by simpa only [Reps] using h
  | x :: xs, vs, i, h => by
    simp only [immAll, Bool.and_eq_true] at i
    simp only [Reps] at h ⊢
    obtain ⟨v, r, e, h1, h2⟩ := h
    exact ⟨v, r, e, Rep.imm i.1 h1, Reps.imm i.2 h2⟩
end
mutual
theorem Tree.stay {H H' : Hp} : ∀ {d v F}, Stay (fun a => a ∈ F) H H' → Tree W H d v F → Tree W H' d v F
  | .non, v, F, _, h => by simpa only [Tree] using h
  | .bl b, v, F, _, h => by simpa only [Tree] using h
  | .int i, v, F, _, h => by simpa only [Tree] using h
  | .str cs, v, F, _, h => by simpa only [Tree] using h
  | .tup xs, v, F, s, h => by
    simp only [Tree] at h ⊢
    obtain ⟨a, vs, e, h1, hz, h2⟩ := h
    exact ⟨a, vs, e, sqT_stay s.tup s.frz h1, hz, Trees.stay s h2⟩
  | .lst xs, v, F, s, h => by
    simp only [Tree] at h ⊢
    obtain ⟨a, vs, F', e, h1, hz, rfl, n, h2⟩ := h
    exact ⟨a, vs, F', e, s.at_ a List.mem_cons_self _ h1 (fun _ z => by cases z), hz, rfl, n, Trees.stay ⟨fun b hb => s.at_ b (List.mem_cons_of_mem _ hb), s.tup, s.frz⟩ h2⟩
  | .dct ks ds, v, F, s, h => by
    simp only [Tree] at h ⊢
    obtain ⟨a, o, ws, F', e, h1, h2, hz, rfl, n, h3⟩ := h
    exact ⟨a, o, ws, F', e, s.at_ a List.mem_cons_self _ h1 h2.ntbl, h2, hz, rfl, n, Trees.stay ⟨fun b hb => s.at_ b (List.mem_cons_of_mem _ hb), s.tup, s.frz⟩ h3⟩
  | .exc c fs, v, F, _, h => by simp only [Tree] at h
  | .scr is, v, F, s, h => by
    simp only [Tree] at h ⊢
    obtain ⟨⟨a, e, h1, hz⟩, h2⟩ := h
    exact ⟨⟨a, e, scr_stay s.frz h1, hz⟩, h2⟩
theorem Trees.stay {H H' : Hp} : ∀ {xs vs F}, Stay (fun a => a ∈ F) H H' → Trees W H xs vs F → Trees W H' xs vs F
  | [], vs, F, _, h => by simpa only [Trees] using h
  | x :: xs, vs, F, s, h => by
    simp only [Trees] at h ⊢
    obtain ⟨v, r, F1, F2, e, rfl, h1, h2, n⟩ := h
    exact ⟨v, r, F1, F2, e, rfl, Tree.stay ⟨fun b hb => s.at_ b (List.mem_append_left _ hb), s.tup, s.frz⟩ h1, Trees.stay ⟨fun b hb => s.at_ b (List.mem_append_right _ hb), s.tup, s.frz⟩ h2, n⟩
end
mutual
theorem Tree.rep : ∀ {d v F}, Tree W H d v F → Rep W H (fun a => a ∈ F) d v
  | .non, v, F, h => by simp only [Tree] at h; simpa only [Rep] using h.1
  | .bl b, v, F, h => by simp only [Tree] at h; simpa only [Rep] using h.1
  | .int i, v, F, h => by simp only [Tree] at h; simpa only [Rep] using h.1
  | .str cs, v, F, h => by simp only [Tree] at h; simpa only [Rep] using ⟨h.1, h.2.1⟩
  | .tup xs, v, F, h => by
    simp only [Tree] at h
    obtain ⟨a, vs, e, h1, hz, h2⟩ := h
    simp only [Rep]
    exact ⟨a, vs, e, h1, hz, Trees.rep h2⟩
  | .lst xs, v, F, h => by
    simp only [Tree] at h
    obtain ⟨a, vs, F', e, h1, hz, rfl, n, h2⟩ := h
    simp only [Rep]
    exact ⟨a, vs, e, List.mem_cons_self, h1, hz, (Trees.rep h2).mono fun b hb => List.mem_cons_of_mem _ hb⟩
  | .dct ks ds, v, F, h => by
    simp only [Tree] at h
    obtain ⟨a, o, ws, F', e, h1, h2, hz, rfl, n, h3⟩ := h
    simp only [Rep]
    exact ⟨a, o, ws, e, List.mem_cons_self, .inl h1, h2, hz, (Trees.rep h3).mono fun b hb => List.mem_cons_of_mem _ hb⟩
  | .exc c fs, v, F, h => by simp only [Tree] at h
  | .scr is, v, F, h => by
    simp only [Tree] at h
    simp only [Rep]
    exact h.1
theorem Trees.rep : ∀ {xs vs F}, Trees W H xs vs F → Reps W H (fun a => a ∈ F) xs vs
  | [], vs, F, h => by simp only [Trees] at h; simpa only [Reps] using h.1
  | x :: xs, vs, F, h => by
    simp only [Trees] at h
    obtain ⟨v, r, F1, F2, rfl, rfl, h1, h2, n⟩ := h
    exact .cons ((Tree.rep h1).mono fun b hb => List.mem_append_left _ hb) ((Trees.rep h2).mono fun b hb => List.mem_append_right _ hb)
end
mutual
theorem Rep.tree {F : Addr → Prop} : ∀ {d v}, d.imm = true → Rep W H F d v → Tree W H d v []
  | .non, v, _, h => by simp only [Rep] at h; simp only [Tree]; exact ⟨h, trivial⟩
  | .bl b, v, _, h => by simp only [Rep] at h; simp only [Tree]; exact ⟨h, trivial⟩
  | .int i, v, _, h => by simp only [Rep] at h; simp only [Tree]; exact ⟨h, trivial⟩
  | .str cs, v, _, h => by simp only [Rep] at h; simp only [Tree]; exact ⟨h.1, h.2, trivial⟩
  | .tup xs, v, i, h => by
    simp only [Rep] at h
    obtain ⟨a, vs, e, h1, hz, h2⟩ := h
    simp only [Tree]
    exact ⟨a, vs, e, h1, hz, Reps.trees (by simpa only [D.imm] using i) h2⟩
  | .lst xs, v, i, h => by simp [D.imm] at i
  | .dct ks ds, v, i, h => by simp [D.imm] at i
  | .exc c fs, v, i, h => by simp [D.imm] at i
  | .scr is, v, i, h => by simp only [Rep] at h; simp only [Tree]; exact ⟨h, trivial⟩
theorem Reps.trees {F : Addr → Prop} : ∀ {xs vs}, immAll xs = true → Reps W H F xs vs → Trees W H xs vs []
  | [], vs, _, h => by simp only [Reps] at h; simp only [Trees]; exact ⟨h, trivial⟩
  | x :: xs, vs, i, h => by
    simp only [immAll, Bool.and_eq_true] at i
    simp only [Reps] at h
    obtain ⟨v, r, e, h1, h2⟩ := h
    simp only [Trees]
    exact ⟨v, r, [], [], e, rfl, Rep.tree i.1 h1, Reps.trees i.2 h2, fun _ z => by simp at z⟩
end
mutual
/-- an own tree's places are tracked -/
theorem Tree.trk : ∀ {d v F}, Tree W H d v F → ∀ a ∈ F, ∃ o, H a = some o ∧ (∀ ps, o ≠ .tbl ps) ∧ (∀ xs, o ≠ .tup xs) ∧ ∀ ob u, o ≠ .frz ob u
  | .non, v, F, h, a, m => by simp only [Tree] at h; rw [h.2] at m; cases m
  | .bl b, v, F, h, a, m => by simp only [Tree] at h; rw [h.2] at m; cases m
  | .int i, v, F, h, a, m => by simp only [Tree] at h; rw [h.2] at m; cases m
  | .str cs, v, F, h, a, m => by simp only [Tree] at h; rw [h.2.2] at m; cases m
  | .tup xs, v, F, h, a, m => by
    simp only [Tree] at h
    obtain ⟨_, vs, e, h1, hz, h2⟩ := h
    exact Trees.trk h2 a m
  | .lst xs, v, F, h, a, m => by
    simp only [Tree] at h
    obtain ⟨b, vs, F', e, h1, hz, rfl, n, h2⟩ := h
    rcases List.mem_cons.mp m with rfl | m
    · exact ⟨_, h1, (fun _ z => by cases z), (fun _ z => by cases z), fun _ _ z => by cases z⟩
    · exact Trees.trk h2 a m
  | .dct ks ds, v, F, h, a, m => by
    simp only [Tree] at h
    obtain ⟨b, o, ws, F', e, h1, h2, hz, rfl, n, h3⟩ := h
    rcases List.mem_cons.mp m with rfl | m
    · refine ⟨_, h1, h2.ntbl, ?_, ?_⟩
      · rintro xs rfl
        obtain ⟨_, _, _, z, _⟩ := h2
        cases z
      · rintro ob u rfl
        obtain ⟨_, _, _, z, _⟩ := h2
        cases z
    · exact Trees.trk h3 a m
  | .exc c fs, v, F, h, _, _ => by simp only [Tree] at h
  | .scr is, v, F, h, a, m => by simp only [Tree] at h; rw [h.2] at m; cases m
theorem Trees.trk : ∀ {xs vs F}, Trees W H xs vs F → ∀ a ∈ F, ∃ o, H a = some o ∧ (∀ ps, o ≠ .tbl ps) ∧ (∀ xs, o ≠ .tup xs) ∧ ∀ ob u, o ≠ .frz ob u
  | [], vs, F, h, a, m => by simp only [Trees] at h; rw [h.2] at m; cases m
  | x :: xs, vs, F, h, a, m => by
    simp only [Trees] at h
    obtain ⟨v, r, F1, F2, rfl, rfl, h1, h2, n⟩ := h
    rcases List.mem_append.mp m with m | m
    · exact Tree.trk h1 a m
    · exact Trees.trk h2 a m
end
end PyI

set_option Elab.async false
set_option linter.all false
set_option maxRecDepth 100000
namespace PyI
open PySem PySem.Spec PyProof.Rows L2 LamX

/-- sets of slots -/
def Slots := Nat → Prop
instance : Membership Nat Slots := ⟨fun M i => M i⟩
/-- which places are shared, which belong to a slot -/
structure Own where
  fs : Addr → Prop
  fo : Nat → List Addr
structure Rel (W : Wd) (T : List (Addr × Str)) (Ψ : Own) (δ : Env) (σ : L2.St) (H : Hp) : Prop where
  len : δ.length = σ.length
  sh : ∀ i d, slot δ i = some (.sh d) → ∃ v, σ[i]? = some (some v) ∧ Rep W H Ψ.fs d v
  ow : ∀ i d, slot δ i = some (.ow d) → ∃ v, σ[i]? = some (some v) ∧ Tree W H d v (Ψ.fo i)
  no : ∀ i, (∀ d, slot δ i ≠ some (.ow d)) → Ψ.fo i = []
  fs : ∀ a, Ψ.fs a → trk H a
  ns : ∀ i a, a ∈ Ψ.fo i → ¬ Ψ.fs a
  dj : ∀ i j a, i ≠ j → a ∈ Ψ.fo i → a ∉ Ψ.fo j
  tb : Tabs T H
/-- what a run may do that changes the slots M alone -/
structure Step (M : Slots) (Ψ : Own) (H : Hp) (Ψ' : Own) (H' : Hp) : Prop where
  keep : ∀ a o, H a = some o → (∀ ps, o ≠ .tbl ps) → (∀ i ∈ M, a ∉ Ψ.fo i) → H' a = some o
  trk : ∀ a, trk H a → trk H' a
  tup : ∀ a xs, H a = some (.tup xs) → H' a = some (.tup xs)
  frz : ∀ a o u, H a = some (.frz o u) → H' a = some (.frz o u)
  fsL : ∀ a, Ψ.fs a → Ψ'.fs a
  fsR : ∀ a, Ψ'.fs a → Ψ.fs a ∨ ¬ PyI.trk H a ∨ ∃ i ∈ M, a ∈ Ψ.fo i
  foN : ∀ i, i ∉ M → Ψ'.fo i = Ψ.fo i
  foM : ∀ i ∈ M, ∀ a ∈ Ψ'.fo i, ¬ PyI.trk H a ∨ ∃ j ∈ M, a ∈ Ψ.fo j
/-- places that nobody else has -/
structure Pend (Ψ : Own) (H : Hp) (F : List Addr) : Prop where
  trk : ∀ a ∈ F, trk H a
  ns : ∀ a ∈ F, ¬ Ψ.fs a
  no : ∀ a ∈ F, ∀ i, a ∉ Ψ.fo i
/-- how a value is had -/
inductive Md where
  | sh | ow | bo (i : Nat)
  deriving DecidableEq
def Md.o : Md → Bool
  | .ow => true
  | _ => false
/-- the value v of the tree d, told at (Ψ', H') of a run that began at (Ψ, H) -/
def RP (W : Wd) (m : Md) (M : Slots) (Ψ : Own) (H : Hp) (Ψ' : Own) (H' : Hp) (d : D) (v : V) : Prop := match m with
  | .sh => Rep W H' Ψ'.fs d v
  | .ow => ∃ F, Tree W H' d v F ∧ Pend Ψ' H' F ∧ ∀ a ∈ F, ¬ trk H a ∨ ∃ j ∈ M, a ∈ Ψ.fo j
  | .bo i => Rep W H' (fun a => Ψ'.fs a ∨ a ∈ Ψ'.fo i) d v
section
variable {W : Wd} {T : List (Addr × Str)} {M M' : Slots} {Ψ Ψ1 Ψ2 : Own} {H H1 H2 : Hp} {δ δ' : Env} {σ : L2.St}
theorem Step.refl : Step M Ψ H Ψ H :=
  ⟨fun _ _ h _ _ => h, fun _ h => h, fun _ _ h => h, fun _ _ _ h => h, fun _ h => h, fun _ h => .inl h, fun _ _ => rfl, fun i hi a ha => .inr ⟨i, hi, ha⟩⟩
theorem Step.trans (s : Step M Ψ H Ψ1 H1) (t : Step M Ψ1 H1 Ψ2 H2) : Step M Ψ H Ψ2 H2 := by
  have back : ∀ i ∈ M, ∀ a ∈ Ψ1.fo i, ¬ PyI.trk H a ∨ ∃ j ∈ M, a ∈ Ψ.fo j := s.foM
  refine ⟨fun a o h n k => ?_, fun a h => t.trk a (s.trk a h), fun a xs h => t.tup _ _ (s.tup _ _ h), fun a o u h => t.frz _ _ _ (s.frz _ _ _ h), fun a h => t.fsL a (s.fsL a h), fun a h => ?_, fun i hi => (t.foN i hi).trans (s.foN i hi), fun i hi a ha => ?_⟩
  · refine t.keep a o (s.keep a o h n k) n fun i hi ha => ?_
    rcases s.foM i hi a ha with z | ⟨j, hj, z⟩
    · exact z ⟨o, h, n⟩
    · exact k j hj z
  · rcases t.fsR a h with z | z | ⟨i, hi, z⟩
    · exact s.fsR a z
    · exact .inr (.inl fun q => z (s.trk a q))
    · exact .inr (s.foM i hi a z)
  · rcases t.foM i hi a ha with z | ⟨j, hj, z⟩
    · exact .inl fun q => z (s.trk a q)
    · exact s.foM j hj a z
theorem Step.mono (s : Step M Ψ H Ψ1 H1) (h : ∀ i ∈ M, i ∈ M') : Step M' Ψ H Ψ1 H1 := by
  refine ⟨fun a o e n k => s.keep a o e n fun i hi => k i (h i hi), s.trk, s.tup, s.frz, s.fsL, fun a q => (s.fsR a q).imp id (Or.imp id fun ⟨i, hi, z⟩ => ⟨i, h i hi, z⟩), fun i hi => s.foN i fun z => hi (h i z), fun i hi a ha => ?_⟩
  by_cases hm : i ∈ M
  · exact (s.foM i hm a ha).imp id fun ⟨j, hj, z⟩ => ⟨j, h j hj, z⟩
  · rw [s.foN i hm] at ha
    exact .inr ⟨i, hi, ha⟩
theorem Rel.fo_trk (r : Rel W T Ψ δ σ H) {i a} (h : a ∈ Ψ.fo i) : ∃ o, H a = some o ∧ (∀ ps, o ≠ .tbl ps) ∧ (∀ xs, o ≠ .tup xs) ∧ ∀ ob u, o ≠ .frz ob u := by
  cases e : slot δ i with
  | none => rw [r.no i (by rw [e]; exact fun _ z => by cases z)] at h; cases h
  | some s =>
    cases s with
    | sh d => rw [r.no i (by rw [e]; exact fun _ z => by cases z)] at h; cases h
    | ow d =>
      obtain ⟨v, _, t⟩ := r.ow i d e
      exact t.trk a h
/-- what is not of M stays -/
theorem Step.stay (s : Step M Ψ H Ψ1 H1) {F : Addr → Prop} (h : ∀ a, F a → ∀ i ∈ M, a ∉ Ψ.fo i) : Stay F H H1 :=
  ⟨fun a fa o e n => s.keep a o e n (h a fa), s.tup, s.frz⟩
theorem Rel.stay_fs (r : Rel W T Ψ δ σ H) (s : Step M Ψ H Ψ1 H1) : Stay Ψ.fs H H1 := s.stay fun _ fa i _ z => r.ns i _ z fa
theorem Pend.step {F : List Addr} (p : Pend Ψ H F) (s : Step M Ψ H Ψ1 H1) : Pend Ψ1 H1 F := by
  refine ⟨fun a ha => s.trk a (p.trk a ha), fun a ha z => ?_, fun a ha i z => ?_⟩
  · rcases s.fsR a z with z | z | ⟨i, _, z⟩
    · exact p.ns a ha z
    · exact z (p.trk a ha)
    · exact p.no a ha i z
  · by_cases hm : i ∈ M
    · rcases s.foM i hm a z with z | ⟨j, _, z⟩
      · exact z (p.trk a ha)
      · exact p.no a ha j z
    · rw [s.foN i hm] at z
      exact p.no a ha i z
theorem Pend.stay {F : List Addr} (p : Pend Ψ H F) (s : Step M Ψ H Ψ1 H1) : Stay (fun a => a ∈ F) H H1 := s.stay fun _ fa i _ z => p.no _ fa i z
/-- a value told is told behind a further run, too -/
theorem RP.step {m : Md} {d v} (r : Rel W T Ψ1 δ σ H1) (p : RP W m M Ψ H Ψ1 H1 d v) (s : Step M' Ψ1 H1 Ψ2 H2) (hb : ∀ i, m = .bo i → i ∉ M') : RP W m M Ψ H Ψ2 H2 d v := by
  cases m with
  | sh => exact Rep.stay (r.stay_fs s) s.fsL p
  | ow =>
    obtain ⟨F, t, pe, b⟩ := p
    exact ⟨F, t.stay (pe.stay s), pe.step s, b⟩
  | bo i =>
    have hi := hb i rfl
    refine Rep.stay (s.stay fun a fa j hj z => ?_) (fun a fa => ?_) p
    · rcases fa with fa | fa
      · exact r.ns j a z fa
      · by_cases e : j = i
        · exact hi (e ▸ hj)
        · exact r.dj j i a e z fa
    · rcases fa with fa | fa
      · exact .inl (s.fsL a fa)
      · exact .inr (by rw [s.foN i hi]; exact fa)
/-- told from an earlier beginning -/
theorem RP.shift {m : Md} {d v} (s : Step M Ψ H Ψ1 H1) (p : RP W m M Ψ1 H1 Ψ2 H2 d v) : RP W m M Ψ H Ψ2 H2 d v := by
  cases m with
  | sh => exact p
  | bo i => exact p
  | ow =>
    obtain ⟨F, t, pe, b⟩ := p
    refine ⟨F, t, pe, fun a ha => ?_⟩
    rcases b a ha with z | ⟨j, hj, z⟩
    · exact .inl fun q => z (s.trk a q)
    · exact s.foM j hj a z
theorem RP.more {m : Md} {d v} (p : RP W m M Ψ H Ψ1 H1 d v) (h : ∀ i ∈ M, i ∈ M') : RP W m M' Ψ H Ψ1 H1 d v := by
  cases m with
  | sh => exact p
  | bo i => exact p
  | ow =>
    obtain ⟨F, t, pe, b⟩ := p
    exact ⟨F, t, pe, fun a ha => (b a ha).imp id fun ⟨j, hj, z⟩ => ⟨j, h j hj, z⟩⟩
/-- the heap grew (tables may have changed) -/
def Own.ext (Ψ : Own) (H H' : Hp) : Own := ⟨fun a => Ψ.fs a ∨ (¬ trk H a ∧ trk H' a), Ψ.fo⟩
structure Grow (H H' : Hp) : Prop where
  ext : ExtN H H'
  tup : ∀ a xs, H a = some (.tup xs) → H' a = some (.tup xs)
theorem ExtN.grow (e : ExtN H H1) : Grow H H1 := ⟨e, fun a xs h => e _ _ h fun _ z => by cases z⟩
theorem Same.grow (e : Same H H1) : Grow H H1 := ExtN.grow (ExtN.of e)
theorem Grow.trk (g : Grow H H1) {a} (h : trk H a) : PyI.trk H1 a := by
  obtain ⟨o, e, n⟩ := h
  exact ⟨o, g.ext _ _ e n, n⟩
theorem Grow.stay (g : Grow H H1) (F : Addr → Prop) : Stay F H H1 := ⟨fun a _ o e n => g.ext _ _ e n, g.tup, fun a o u h => g.ext _ _ h fun _ z => by cases z⟩
theorem Grow.step (g : Grow H H1) : Step M Ψ H (Ψ.ext H H1) H1 :=
  ⟨fun a o h n _ => g.ext _ _ h n, fun a h => g.trk h, g.tup, fun a o u h => g.ext _ _ h (fun _ z => by cases z), fun a h => .inl h, fun a h => h.imp id fun z => .inl z.1, fun _ _ => rfl, fun i hi a ha => .inr ⟨i, hi, ha⟩⟩
theorem Rel.grow (r : Rel W T Ψ δ σ H) (g : Grow H H1) (t : Tabs T H1) : Rel W T (Ψ.ext H H1) δ σ H1 := by
  refine ⟨r.len, fun i d h => ?_, fun i d h => ?_, r.no, fun a h => ?_, fun i a ha h => ?_, r.dj, t⟩
  · obtain ⟨v, e, p⟩ := r.sh i d h
    exact ⟨v, e, Rep.stay (g.stay _) (fun a z => .inl z) p⟩
  · obtain ⟨v, e, p⟩ := r.ow i d h
    exact ⟨v, e, Tree.stay (g.stay _) p⟩
  · rcases h with h | h
    · exact g.trk (r.fs a h)
    · exact h.2
  · rcases h with h | h
    · exact r.ns i a ha h
    · obtain ⟨o, e, n, _⟩ := r.fo_trk ha
      exact h.1 ⟨o, e, n⟩
/-- .. nothing of what is new is shared -/
theorem Grow.step0 (g : Grow H H1) : Step M Ψ H Ψ H1 :=
  ⟨fun a o h n _ => g.ext _ _ h n, fun a h => g.trk h, g.tup, fun a o u h => g.ext _ _ h (fun _ z => by cases z), fun a h => h, fun a h => .inl h, fun _ _ => rfl, fun i hi a ha => .inr ⟨i, hi, ha⟩⟩
theorem Rel.grow0 (r : Rel W T Ψ δ σ H) (g : Grow H H1) (t : Tabs T H1) : Rel W T Ψ δ σ H1 := by
  refine ⟨r.len, fun i d h => ?_, fun i d h => ?_, r.no, fun a h => g.trk (r.fs a h), r.ns, r.dj, t⟩
  · obtain ⟨v, e, p⟩ := r.sh i d h
    exact ⟨v, e, Rep.stay (g.stay _) (fun a z => z) p⟩
  · obtain ⟨v, e, p⟩ := r.ow i d h
    exact ⟨v, e, Tree.stay (g.stay _) p⟩
theorem Rel.same0 (r : Rel W T Ψ δ σ H) (e : Same H H1) : Rel W T Ψ δ σ H1 := r.grow0 (Same.grow e) (r.tb.ext e)
theorem Rel.same (r : Rel W T Ψ δ σ H) (e : Same H H1) : Rel W T (Ψ.ext H H1) δ σ H1 := r.grow (Same.grow e) (r.tb.ext e)
end
/-- the exception x, in the air -/
def ExV (W : Wd) (x : D) (cls : Value) (dd : Option Addr) (H : Hp) (F : Addr → Prop) : Prop := match x with
  | .exc c fs => (∃ C, W.ca c = some C ∧ cls = .ref C) ∧ match fs with
    | [] => dd = none
    | y :: r => r = [] ∧ ∃ d f v, dd = some d ∧ F d ∧ H d = some (.xd [(f, v)]) ∧ (exFld c).map strV = some f ∧ Rep W H F y v
  | _ => False
section
variable (W : Wd) (T : List (Addr × Str)) (XW : WX)
def Post (m : Md) (M : Slots) (Ψ : Own) (H : Hp) (σ : L2.St) (out : Out) (Q : V → Hp → Prop) : Prop := match out with
  | .ok d δ' => ∀ v H' Ψ', Step M Ψ H Ψ' H' → Rel W T Ψ' δ' σ H' → RP W m M Ψ H Ψ' H' d v → Q v H'
  | .er x δ' => ∀ cls dd H' Ψ', Step M Ψ H Ψ' H' → Rel W T Ψ' δ' σ H' → ExV W x cls dd H' Ψ'.fs → XW cls dd σ H'
  | .bad => False
/-- several values, each with its own way -/
def RPs (W : Wd) (M : Slots) (Ψ : Own) (H : Hp) (Ψ' : Own) (H' : Hp) : List Md → List D → List V → Prop
  | [], ds, vs => ds = [] ∧ vs = []
  | m :: ms, ds, vs => ∃ d ds' v vs', ds = d :: ds' ∧ vs = v :: vs' ∧ RP W m M Ψ H Ψ' H' d v ∧ RPs W M Ψ H Ψ' H' ms ds' vs'
/-- several values: none owned, or all -/
def RPL (W : Wd) (o : Bool) (ms : List Md) (M : Slots) (Ψ : Own) (H : Hp) (Ψ' : Own) (H' : Hp) (ds : List D) (vs : List V) : Prop :=
  if o then ∃ F, Trees W H' ds vs F ∧ Pend Ψ' H' F ∧ ∀ a ∈ F, ¬ trk H a ∨ ∃ j ∈ M, a ∈ Ψ.fo j else RPs W M Ψ H Ψ' H' ms ds vs
def PostL (o : Bool) (ms : List Md) (M : Slots) (Ψ : Own) (H : Hp) (σ : L2.St) (out : OutL) (Q : List V → Hp → Prop) : Prop := match out with
  | .ok ds δ' => ∀ vs H' Ψ', Step M Ψ H Ψ' H' → Rel W T Ψ' δ' σ H' → RPL W o ms M Ψ H Ψ' H' ds vs → Q vs H'
  | .er x δ' => ∀ cls dd H' Ψ', Step M Ψ H Ψ' H' → Rel W T Ψ' δ' σ H' → ExV W x cls dd H' Ψ'.fs → XW cls dd σ H'
  | .bad => False
end
section
variable {W : Wd} {T : List (Addr × Str)} {XW : WX} {m m1 : Md} {M M1 : Slots} {Ψ Ψ1 : Own} {H H1 : Hp} {σ : L2.St} {out : Out} {Q : V → Hp → Prop}
/-- the rest of a run, told from where it begins -/
theorem Post.shift (s : Step M Ψ H Ψ1 H1) (h : Post W T XW m M Ψ H σ out Q) : Post W T XW m M Ψ1 H1 σ out Q := by
  cases out with
  | ok d δ' => exact fun v H' Ψ' t r p => h v H' Ψ' (s.trans t) r (p.shift s)
  | er x δ' => exact fun cls dd H' Ψ' t r p => h cls dd H' Ψ' (s.trans t) r p
  | bad => exact h
/-- a part, then the rest -/
theorem Post.seq {f : D → Env → Out} {R : V → Hp → Prop} (hM : ∀ i ∈ M1, i ∈ M) (h : Post W T XW m M Ψ H σ (out.then f) Q)
    (k : ∀ d δ1 v H1 Ψ1, Step M1 Ψ H Ψ1 H1 → Rel W T Ψ1 δ1 σ H1 → RP W m1 M1 Ψ H Ψ1 H1 d v → Post W T XW m M Ψ1 H1 σ (f d δ1) Q → R v H1) : Post W T XW m1 M1 Ψ H σ out R := by
  cases out with
  | ok d δ1 => exact fun v H1 Ψ1 s r p => k d δ1 v H1 Ψ1 s r p (Post.shift (s.mono hM) h)
  | er x δ1 => exact fun cls dd H' Ψ' s r p => h cls dd H' Ψ' (s.mono hM) r p
  | bad => exact h
end
end PyI

set_option Elab.async false
set_option linter.all false
set_option maxRecDepth 100000
namespace PyI
open PySem PySem.Spec PyProof.Rows L2 LamX

/-- a new thing's root -/
def RN (H H' : Hp) (z : D) (v : V) : Prop := match z with
  | .lst _ => ∃ p vs, v = .ref p ∧ H p = none ∧ H' p = some (.lst vs) ∧ vs.length ≤ sizeLine
  | .dct ks _ => ∃ p o ws, v = .ref p ∧ H p = none ∧ H' p = some o ∧ DcO o ks ws ∧ ws.length ≤ sizeLine
  | _ => True
/-- what follows an operation whose result is z; fr: a list or dict is new -/
def Res (W : Wd) (fr : Bool) (F : Addr → Prop) (H : Hp) (z : D) (Q : VK) : Prop :=
  ∀ v H', Same H H' → Rep W H' (fun a => F a ∨ (¬ trk H a ∧ trk H' a)) z v → (fr = true → RN H H' z v) → Q v H'
section
variable {W : Wd} {fr : Bool} {F : Addr → Prop} {H : Hp} {z : D} {Q : VK}
theorem Res.now (r : Res W fr F H z Q) {v : V} (h : Rep W H F z v) (n : fr = true → RN H H z v) : Q v H := r v H (Same.refl H) (h.mono fun _ => .inl) n
theorem Res.int {i : Int} (r : Res W fr F H (.int i) Q) : Q (.int i) H := r.now (by simp only [Rep]) fun _ => trivial
theorem Res.bl {i : Bool} (r : Res W fr F H (.bl i) Q) : Q (.bl i) H := r.now (by simp only [Rep]) fun _ => trivial
theorem Res.str {cs : List Nat} (r : Res W fr F H (.str cs) Q) (h : cs.length ≤ sizeLine) : Q (.str (strV cs)) H := r.now (by simp only [Rep]; exact ⟨trivial, h⟩) fun _ => trivial
theorem same_new {p : Addr} {o : HO} (h : H p = none) : Same H (upd H p o) := fun b u e => by rw [upd_ne (ne_of_none e h)]; exact e
theorem not_trk {p : Addr} (h : H p = none) : ¬ trk H p := fun ⟨o, e, _⟩ => by rw [h] at e; cases e
theorem Res.lst {xs : List D} {vs : List V} (r : Res W fr F H (.lst xs) Q) (h : Reps W H F xs vs) (hz : vs.length ≤ sizeLine) {p : Addr} (hp : H p = none) : Q (.ref p) (upd H p (.lst vs)) := by
  refine r _ _ (same_new hp) ?_ fun _ => ?_
  · simp only [Rep]
    exact ⟨p, vs, rfl, .inr ⟨not_trk hp, trk_lst upd_same⟩, upd_same, hz, h.stay (Grow.stay (Same.grow (same_new hp)) F) fun _ => .inl⟩
  · exact ⟨p, vs, rfl, hp, upd_same, hz⟩
theorem Res.tup {xs : List D} {vs : List V} (r : Res W fr F H (.tup xs) Q) (h : Reps W H F xs vs) (hz : vs.length ≤ sizeLine) {p : Addr} (hp : H p = none) : Q (.ref p) (upd H p (.tup vs)) := by
  refine r _ _ (same_new hp) ?_ fun _ => trivial
  simp only [Rep]
  exact ⟨p, vs, rfl, SqT.of upd_same, hz, h.stay (Grow.stay (Same.grow (same_new hp)) F) fun _ => .inl⟩
theorem Res.dct {ks xs : List D} {ws : List V} {o : HO} (r : Res W fr F H (.dct ks xs) Q) (h : Reps W H F xs ws) (ho : DcO o ks ws) (hz : ws.length ≤ sizeLine) {p : Addr} (hp : H p = none) : Q (.ref p) (upd H p o) := by
  refine r _ _ (same_new hp) ?_ fun _ => ?_
  · simp only [Rep]
    exact ⟨p, o, ws, rfl, .inr ⟨not_trk hp, trk_of upd_same ho.ntbl⟩, .inl upd_same, ho, hz, h.stay (Grow.stay (Same.grow (same_new hp)) F) fun _ => .inl⟩
  · exact ⟨p, o, ws, rfl, hp, upd_same, ho, hz⟩
end
theorem LINE_eq : LINE = sizeLine := by rw [sizeLine_eq]; rfl
theorem fits_le {n : Nat} (h : fits n = true) : n ≤ sizeLine := by rw [← LINE_eq]; exact of_decide_eq_true h
theorem okStr_some {cs : List Nat} {z : D} (h : okStr cs = some z) : z = .str cs ∧ cs.length ≤ sizeLine := by
  unfold okStr at h
  split at h
  · rename_i k; exact ⟨(Option.some.inj h).symm, fits_le k⟩
  · cases h
theorem okTup_some {cs : List D} {z : D} (h : okTup cs = some z) : z = .tup cs ∧ cs.length ≤ sizeLine := by
  unfold okTup at h
  split at h
  · rename_i k; exact ⟨(Option.some.inj h).symm, fits_le k⟩
  · cases h
theorem okLst_some {cs : List D} {z : D} (h : okLst cs = some z) : z = .lst cs ∧ cs.length ≤ sizeLine := by
  unfold okLst at h
  split at h
  · rename_i k; exact ⟨(Option.some.inj h).symm, fits_le k⟩
  · cases h
theorem strV_append (a b : List Nat) : strV a ++ strV b = strV (a ++ b) := by
  show (⟨a.toArray ++ b.toArray⟩ : Str) = ⟨(a ++ b).toArray⟩
  simp
theorem strV_length (a : List Nat) : (strV a).length = a.length := by
  show a.toArray.size = a.length
  simp
theorem strV_cps (a : List Nat) : (strV a).cps.toList = a := by simp [strV]
/-- two operands, a result -/
def rB (W : Wd) (g : D → D → Option D) (fr : Bool) : R2 := fun x y H Q => ∃ F d e z, (∀ a, F a → trk H a) ∧ Rep W H F d x ∧ Rep W H F e y ∧ g d e = some z ∧ Res W fr F H z Q
def bOp : BOp → Operator
  | .add => .Add | .sub => .Sub | .mul => .Mult | .fdiv => .FloorDiv | .mod => .Mod | .pow => .Pow
theorem smallI_mul {i j : Int} (h : (smallI i || smallI j) = true) : CMul i j := by
  rcases Bool.or_eq_true_iff.mp h with h | h
  · exact .inl (of_decide_eq_true h)
  · exact .inr (of_decide_eq_true h)
theorem rep_len {α : Type} (n : Nat) (xs : List α) : (rep n xs).length = xs.length * n := by
  unfold rep
  induction n with
  | zero => simp
  | succ n ih => rw [List.replicate_succ, List.flatten_cons, List.length_append, ih, Nat.mul_succ, Nat.add_comm]
theorem op_mul_str {X : Cx} : OpR X (binaryOp .Mult) (fun x y H Q => ∃ (i : Str) (k : Int), x = .str i ∧ y = .int k ∧ -(2 ^ 31) < k ∧ k < 2 ^ 31 ∧ i.length * k.toNat ≤ sizeLine ∧ Q (.str (strV (rep k.toNat i.cps.toList))) H) := by
  intro pins s σ H x y v u Q I rx ry h
  obtain ⟨i, k, rfl, rfl, h1, h2, hz, q⟩ := h
  obtain ⟨t, rfl⟩ := rx
  obtain ⟨t', rfl⟩ := ry
  have hl := sizeLine_eq
  by_cases hk : k < 1
  · refine P.mul_str_none hk (by omega) ⟨.str _, H, I.tok _, ⟨_, rfl⟩, ?_⟩
    have e : k.toNat = 0 := by omega
    rw [e] at q
    exact q
  · refine P.mul_str ?_ (fun _ _ => ?_) (fun _ _ => ?_) ?_
    · rw [decide_eq_false (by omega), decide_eq_false (by omega)]; rfl
    · intro hh
      have hk2 : (0 : Int) < k := by omega
      have a1 : (i.length : Int) * k ≤ 16777216 := by
        have : ((i.length * k.toNat : Nat) : Int) ≤ 16777216 := by omega
        rw [Int.natCast_mul, Int.toNat_of_nonneg (by omega)] at this
        exact this
      have a2 : (2 ^ 63 - 1 : Int) / k * k ≤ 2 ^ 63 - 1 := Int.ediv_mul_le _ (by omega)
      have a3 : (2 ^ 63 - 1 : Int) / k + 1 ≤ i.length := by omega
      have a4 : ((2 ^ 63 - 1 : Int) / k + 1) * k ≤ i.length * k := Int.mul_le_mul_of_nonneg_right a3 (by omega)
      have a5 : (2 ^ 63 - 1 : Int) < ((2 ^ 63 - 1 : Int) / k + 1) * k := Int.lt_ediv_add_one_mul_self _ hk2
      omega
    · unfold Builtin.Str.tooLong
      rw [decide_eq_false]
      omega
    · rw [if_neg hk]
      have e0 : rep k.toNat i.cps.toList = ((List.replicate k.toNat i.cps).foldl (fun x1 x2 => x1 ++ x2) #[]).toList := by
        have g : ∀ (n : Nat) (acc : Array Nat), (List.foldl (fun x1 x2 => x1 ++ x2) acc (List.replicate n i.cps)).toList = acc.toList ++ rep n i.cps.toList := by
          intro n
          induction n with
          | zero => intro acc; simp [rep]
          | succ n ih => intro acc; rw [List.replicate_succ, List.foldl_cons, ih]; simp [rep, List.replicate_succ]
        rw [g]; simp
      by_cases h1 : (k == 1 || i.length == 0) = true
      · rw [if_pos h1]
        have e : strV (rep k.toNat i.cps.toList) = i := by
          rcases Bool.or_eq_true_iff.mp h1 with h | h
          · have e1 : k = 1 := by simpa using h
            subst e1
            simp [rep, strV]
          · have e1 : i.cps.toList = [] := by
              have : i.cps.size = 0 := by simpa [Str.length] using h
              simpa using this
            have e2 : ∀ n, rep n ([] : List Nat) = [] := fun n => List.length_eq_zero_iff.mp (by rw [rep_len]; simp)
            rw [e1, e2]
            show (⟨#[]⟩ : Str) = i
            cases i with
            | mk c => simp at e1; rw [e1]
        rw [e] at q
        exact ⟨.str i, H, I, ⟨_, rfl⟩, q⟩
      · rw [if_neg h1]
        refine ⟨?_, .str _, H, I.tok _, ⟨_, rfl⟩, ?_⟩
        · show (List.foldl (fun x1 x2 => x1 ++ x2) #[] (List.replicate k.toNat i.cps)).size ≤ sizeLine
          rw [← Array.length_toList, ← e0, rep_len, Array.length_toList]
          exact hz
        · rw [e0] at q
          exact q
theorem sqT_of {K : PySem.W.Frag} {H : Hp} {a : Addr} {xs : List V} (h : SqT K H a xs) : SqT K H a xs := h
theorem res_cat {fr : Bool} {W : Wd} {F : Addr → Prop} {H : Hp} {Q : VK} {x y : List D} {a b : Addr} {xs ys : List V} (r : Res W fr F H (.tup (x ++ y)) Q) (ha : SqT W.K H a xs) (hb : SqT W.K H b ys) (rx : Reps W H F x xs) (ry : Reps W H F y ys) (hz : xs.length + ys.length ≤ sizeLine) :
    rCatA W.K (.ref a) (.ref b) H Q := by
  refine ⟨a, b, xs, ys, rfl, rfl, ha, hb, hz, fun e => ?_, fun _ e => ?_, fun _ _ p hp => ?_⟩
  · subst e
    have : x = [] := List.length_eq_zero_iff.mp rx.len
    subst this
    refine r.now ?_ fun _ => trivial
    simp only [Rep, List.nil_append]
    exact ⟨b, ys, rfl, hb, by simpa using hz, ry⟩
  · subst e
    have : y = [] := List.length_eq_zero_iff.mp ry.len
    subst this
    refine r.now ?_ fun _ => trivial
    simp only [Rep, List.append_nil]
    exact ⟨a, xs, rfl, ha, by simpa using hz, rx⟩
  · exact r.tup (rx.append ry) (by rw [List.length_append]; exact hz) hp
theorem op_binS {X : Cx} {W : Wd} (hK : W.K = X.K) (op : BOp) : OpR X (binaryOp (bOp op)) (rB W (binS op) true) := by
  intro pins s σ H x y v u Q I rx ry h
  obtain ⟨F, d, e, z, hF, hd, he, hg, r⟩ := h
  have hl := sizeLine_eq
  cases op <;> cases d <;> cases e <;> simp only [binS] at hg <;> first | cases hg | skip
  · simp only [Rep] at hd he
    subst hd he
    exact op_add pins s σ H _ _ v u Q I rx ry ⟨_, _, rfl, rfl, r.int⟩
  · simp only [Rep] at hd he
    obtain ⟨rfl, h1⟩ := hd
    obtain ⟨rfl, h2⟩ := he
    obtain ⟨rfl, hz⟩ := okStr_some hg
    have q := r.str hz
    rw [← strV_append] at q
    exact op_add_str pins s σ H _ _ v u Q I rx ry ⟨_, _, rfl, rfl, by rw [strV_length, strV_length]; simpa using hz, q⟩
  · simp only [Rep] at hd he
    obtain ⟨a, xs, rfl, h1, h2, h3⟩ := hd
    obtain ⟨b, ys, rfl, k1, k2, k3⟩ := he
    obtain ⟨rfl, hz⟩ := okTup_some hg
    rw [hK] at h1 k1
    refine op_catA pins s σ H _ _ v u Q I rx ry ?_
    rw [← hK] at h1 k1 ⊢
    exact res_cat r h1 k1 h3 k3 (by rw [List.length_append, h3.len, k3.len] at hz; exact hz)
  · simp only [Rep] at hd he
    obtain ⟨a, xs, rfl, fa, h1, h2, h3⟩ := hd
    obtain ⟨b, ys, rfl, fb, k1, k2, k3⟩ := he
    obtain ⟨rfl, hz⟩ := okLst_some hg
    have hz' : xs.length + ys.length ≤ sizeLine := by rw [List.length_append, h3.len, k3.len] at hz; exact hz
    exact op_cat pins s σ H _ _ v u Q I rx ry ⟨a, b, xs, ys, rfl, rfl, h1, k1, hz', fun p hp => r.lst (h3.append k3) (by rw [List.length_append]; exact hz') hp⟩
  · simp only [Rep] at hd he
    subst hd he
    exact op_sub pins s σ H _ _ v u Q I rx ry ⟨_, _, rfl, rfl, r.int⟩
  · simp only [Rep] at hd he
    subst hd he
    split at hg
    · rename_i k
      cases hg
      exact op_mul pins s σ H _ _ v u Q I rx ry ⟨_, _, rfl, rfl, smallI_mul k, r.int⟩
    · cases hg
  · rename_i i j
    simp only [Rep] at hd he
    subst he
    obtain ⟨rfl, h1⟩ := hd
    split at hg
    · rename_i k
      obtain ⟨k1, k2⟩ := Bool.and_eq_true_iff.mp k
      obtain ⟨rfl, hz⟩ := okStr_some hg
      refine op_mul_str pins s σ H _ _ v u Q I rx ry ⟨_, _, rfl, rfl, of_decide_eq_true k2, of_decide_eq_true k1, ?_, ?_⟩
      · rw [strV_length]
        rw [rep_len] at hz
        exact hz
      · rw [strV_cps]
        exact r.str hz
    · cases hg
  · rename_i i j
    simp only [Rep] at hd he
    subst he
    obtain ⟨a, xs, rfl, h1, h2, h3⟩ := hd
    split at hg
    · rename_i k
      obtain ⟨k0, k3⟩ := Bool.and_eq_true_iff.mp k
      obtain ⟨k1, k2⟩ := Bool.and_eq_true_iff.mp k0
      have k1 := of_decide_eq_true k1
      have k3 := of_decide_eq_true k3
      cases hg
      have hxs : xs.length = i.length := h3.len.symm
      rw [hK] at h1
      refine op_repT pins s σ H _ _ v u Q I rx ry ⟨a, j, xs, rfl, rfl, h1, ?_, k1.1, k1.2, by omega, fun p hp => ?_⟩
      · rintro rfl
        have : i = [] := List.length_eq_zero_iff.mp h3.len
        rw [this] at k2
        cases k2
      · refine r.tup (h3.flat j.toNat) ?_ hp
        rw [rep_len, hxs, hl]
        have : j.toNat ≤ 1000 := by omega
        calc i.length * j.toNat ≤ 1000 * 1000 := Nat.mul_le_mul k3 this
          _ ≤ 16777216 := by decide
    · cases hg
  · rename_i i j
    simp only [Rep] at hd he
    subst he
    obtain ⟨a, xs, rfl, fa, h1, h2, h3⟩ := hd
    split at hg
    · rename_i k
      obtain ⟨k1, k2⟩ := Bool.and_eq_true_iff.mp k
      have k1 := of_decide_eq_true k1
      have k2 := of_decide_eq_true k2
      obtain ⟨rfl, hz⟩ := okLst_some hg
      rw [rep_len, h3.len] at hz
      refine op_rep pins s σ H _ _ v u Q I rx ry ⟨a, j, xs, rfl, rfl, h1, by omega, by omega, hz, fun p hp => ?_⟩
      exact r.lst (h3.flat j.toNat) (by rw [rep_len]; exact hz) hp
    · cases hg
  · simp only [Rep] at hd he
    subst hd he
    rename_i i j
    split at hg
    · rename_i k
      cases hg
      have k : 0 < j ∧ j < 1073741824 := of_decide_eq_true k
      exact op_fdiv pins s σ H _ _ v u Q I rx ry ⟨_, _, rfl, rfl, k, r.int⟩
    · cases hg
  · simp only [Rep] at hd he
    subst hd he
    split at hg
    · rename_i k
      cases hg
      exact op_mod pins s σ H _ _ v u Q I rx ry ⟨_, _, rfl, rfl, of_decide_eq_true k, r.int⟩
    · cases hg
  · rename_i i j
    simp only [Rep] at hd he
    subst hd he
    split at hg
    · rename_i k
      obtain ⟨k1, k2⟩ := Bool.and_eq_true_iff.mp k
      have k1 := of_decide_eq_true k1
      have k2 : -(2 ^ 64) < i ∧ i < 2 ^ 64 := of_decide_eq_true k2
      cases hg
      exact op_pow pins s σ H _ _ v u Q I rx ry ⟨_, _, rfl, rfl, ⟨k1.1, by omega, by omega⟩, r.int⟩
    · cases hg
end PyI

set_option Elab.async false
set_option linter.all false
set_option maxRecDepth 100000
namespace PyI
open PySem PySem.Spec PyProof.Rows L2 LamX
mutual
theorem Rep.dat {W : Wd} {H : Hp} {F : Addr → Prop} : ∀ {d : D} {v : V}, d.plain = true → Rep W H F d v → ∃ p, d.py = some p ∧ Dp W.K H v p ∧ p.canLay0 = true ∧ p.depth = d.deep
  | .non, v, _, h => by simp only [Rep] at h; subst h; exact ⟨.none, rfl, .non, rfl, rfl⟩
  | .bl b, v, _, h => by simp only [Rep] at h; subst h; exact ⟨.bool b, rfl, .bl b, rfl, rfl⟩
  | .int i, v, _, h => by simp only [Rep] at h; subst h; exact ⟨.int i, rfl, .int i, rfl, rfl⟩
  | .str cs, v, p, h => by
    simp only [Rep] at h
    obtain ⟨rfl, hz⟩ := h
    refine ⟨.str (strV cs), rfl, .str _, ?_, rfl⟩
    simp only [D.plain] at p
    show (strV cs).cps.all (· < 0x110000) = true
    unfold strV
    simpa using p
  | .tup xs, v, p, h => by
    simp only [Rep] at h
    obtain ⟨a, vs, rfl, h1, hz, h2⟩ := h
    obtain ⟨ps, e, q, c, z⟩ := Reps.dat (by simpa only [D.plain] using p) h2
    exact ⟨.tuple ps, by simp only [D.py, e]; rfl, .tup h1 q, by simpa only [PyData.canLay0] using c, by simp only [PyData.depth, D.deep, z]⟩
  | .lst xs, v, p, h => by
    simp only [Rep] at h
    obtain ⟨a, vs, rfl, fa, h1, hz, h2⟩ := h
    obtain ⟨ps, e, q, c, z⟩ := Reps.dat (by simpa only [D.plain] using p) h2
    exact ⟨.list ps, by simp only [D.py, e]; rfl, .lst (SqL.of h1) q, by simpa only [PyData.canLay0] using c, by simp only [PyData.depth, D.deep, z]⟩
  | .dct _ _, _, p, _ => by simp [D.plain] at p
  | .exc _ _, _, p, _ => by simp [D.plain] at p
  | .scr _, _, p, _ => by simp [D.plain] at p
theorem Reps.dat {W : Wd} {H : Hp} {F : Addr → Prop} : ∀ {ds : List D} {vs : List V}, plainAll ds = true → Reps W H F ds vs → ∃ ps, pyAll ds = some ps ∧ DpAll W.K H vs ps ∧ PyData.canLayAll0 ps = true ∧ PyData.depthAll ps = deepAll ds
  | [], vs, _, h => by simp only [Reps] at h; subst h; exact ⟨[], rfl, .nil, rfl, rfl⟩
  | d :: ds, vs, p, h => by
    simp only [Reps] at h
    obtain ⟨v, r, rfl, h1, h2⟩ := h
    simp only [plainAll, Bool.and_eq_true] at p
    obtain ⟨p1, e1, q1, c1, z1⟩ := Rep.dat p.1 h1
    obtain ⟨p2, e2, q2, c2, z2⟩ := Reps.dat p.2 h2
    exact ⟨p1 :: p2, by simp only [pyAll, e1, e2], .cons q1 q2, by simp only [PyData.canLayAll0, c1, c2, Bool.and_self], by simp only [PyData.depthAll, deepAll, z1, z2]⟩
end
theorem strV_inj {a b : List Nat} (h : strV a = strV b) : a = b := by
  have := congrArg (fun s : Str => s.cps.toList) h
  simpa [strV] using this
theorem strV_beq (a b : List Nat) : (strV a == strV b) = decide (a = b) := by
  by_cases h : a = b
  · subst h; simp
  · rw [decide_eq_false h]
    exact beq_eq_false_iff_ne.mpr fun e => h (strV_inj e)
mutual
theorem eqv_py : ∀ (a b : D) (p q : PyData), a.plain = true → b.plain = true → a.py = some p → b.py = some q → PyData.eqv p q = eqv a b
  | .dct _ _, _, _, _, h, _, _, _ => by simp [D.plain] at h
  | .exc _ _, _, _, _, h, _, _, _ => by simp [D.plain] at h
  | .scr _, _, _, _, h, _, _, _ => by simp [D.plain] at h
  | .non, b, p, q, _, hb, e1, e2 => by
    cases b <;> simp only [D.py, Option.some.injEq, Option.map_eq_some_iff] at e1 e2 <;> first | (simp [D.plain] at hb; done) | skip
    all_goals first | (subst e1 e2; simp [PyData.eqv, eqv]; done) | (obtain ⟨r, _, e2⟩ := e2; subst e1 e2; simp [PyData.eqv, eqv])
  | .bl x, b, p, q, _, hb, e1, e2 => by
    cases b <;> simp only [D.py, Option.some.injEq, Option.map_eq_some_iff] at e1 e2 <;> first | (simp [D.plain] at hb; done) | skip
    all_goals first | (subst e1 e2; simp [PyData.eqv, eqv]; done) | (obtain ⟨r, _, e2⟩ := e2; subst e1 e2; simp [PyData.eqv, eqv])
  | .int x, b, p, q, _, hb, e1, e2 => by
    cases b <;> simp only [D.py, Option.some.injEq, Option.map_eq_some_iff] at e1 e2 <;> first | (simp [D.plain] at hb; done) | skip
    all_goals first | (subst e1 e2; simp [PyData.eqv, eqv]; done) | (obtain ⟨r, _, e2⟩ := e2; subst e1 e2; simp [PyData.eqv, eqv])
  | .str x, b, p, q, _, hb, e1, e2 => by
    cases b <;> simp only [D.py, Option.some.injEq, Option.map_eq_some_iff] at e1 e2 <;> first | (simp [D.plain] at hb; done) | skip
    all_goals first | (subst e1 e2; simp [PyData.eqv, eqv]; done) | (subst e1 e2; exact strV_beq _ _) | (obtain ⟨r, _, e2⟩ := e2; subst e1 e2; simp [PyData.eqv, eqv])
  | .tup xs, b, p, q, ha, hb, e1, e2 => by
    simp only [D.py, Option.map_eq_some_iff] at e1
    obtain ⟨ps, h1, rfl⟩ := e1
    cases b <;> simp only [D.py, Option.some.injEq, Option.map_eq_some_iff] at e2 <;> first | (simp [D.plain] at hb; done) | skip
    all_goals first
      | (obtain ⟨r, h2, e2⟩ := e2; subst e2; simp only [PyData.eqv, eqv]; exact eqvs_py _ _ _ _ (by simpa only [D.plain] using ha) (by simpa only [D.plain] using hb) h1 h2)
      | (obtain ⟨r, _, e2⟩ := e2; subst e2; simp [PyData.eqv, eqv]; done)
      | (subst e2; simp [PyData.eqv, eqv]; done)
  | .lst xs, b, p, q, ha, hb, e1, e2 => by
    simp only [D.py, Option.map_eq_some_iff] at e1
    obtain ⟨ps, h1, rfl⟩ := e1
    cases b <;> simp only [D.py, Option.some.injEq, Option.map_eq_some_iff] at e2 <;> first | (simp [D.plain] at hb; done) | skip
    all_goals first
      | (obtain ⟨r, h2, e2⟩ := e2; subst e2; simp only [PyData.eqv, eqv]; exact eqvs_py _ _ _ _ (by simpa only [D.plain] using ha) (by simpa only [D.plain] using hb) h1 h2)
      | (obtain ⟨r, _, e2⟩ := e2; subst e2; simp [PyData.eqv, eqv]; done)
      | (subst e2; simp [PyData.eqv, eqv]; done)
theorem eqvs_py : ∀ (a b : List D) (p q : List PyData), plainAll a = true → plainAll b = true → pyAll a = some p → pyAll b = some q → PyData.eqvAll p q = eqvs a b
  | [], [], p, q, _, _, e1, e2 => by simp only [pyAll, Option.some.injEq] at e1 e2; subst e1 e2; simp [PyData.eqvAll, eqvs]
  | [], b :: bs, p, q, _, _, e1, e2 => by
    simp only [pyAll, Option.some.injEq] at e1 e2
    split at e2 <;> cases e2
    subst e1
    simp [PyData.eqvAll, eqvs]
  | a :: as, [], p, q, _, _, e1, e2 => by
    simp only [pyAll, Option.some.injEq] at e1 e2
    split at e1 <;> cases e1
    subst e2
    simp [PyData.eqvAll, eqvs]
  | a :: as, b :: bs, p, q, ha, hb, e1, e2 => by
    simp only [pyAll] at e1 e2
    simp only [plainAll, Bool.and_eq_true] at ha hb
    split at e1 <;> cases e1
    split at e2 <;> cases e2
    simp only [PyData.eqvAll, eqvs]
    rw [eqv_py a b _ _ ha.1 hb.1 (by assumption) (by assumption), eqvs_py as bs _ _ ha.2 hb.2 (by assumption) (by assumption)]
end
theorem Rep.ask {W : Wd} {H : Hp} {F : Addr → Prop} {d : D} {v : V} (h : askable d = true) (r : Rep W H F d v) : d.plain = true ∧ ∃ p, d.py = some p ∧ Dp W.K H v p ∧ SeqAt.shaped p = true := by
  unfold askable at h
  obtain ⟨h1, h2⟩ := Bool.and_eq_true_iff.mp h
  obtain ⟨p, e, q, c, z⟩ := r.dat h1
  refine ⟨h1, p, e, q, ?_⟩
  unfold SeqAt.shaped
  rw [c, z, decide_eq_true (by have := of_decide_eq_true h2; omega)]
  rfl
theorem any_py (d : D) (p : PyData) (hd : d.plain = true) (ep : d.py = some p) : ∀ (xs : List D) (ps : List PyData), plainAll xs = true → pyAll xs = some ps → (ps.any fun z => PyData.eqv z p) = xs.any fun x => eqv x d
  | [], ps, _, e => by simp only [pyAll, Option.some.injEq] at e; subst e; rfl
  | x :: xs, ps, h, e => by
    simp only [pyAll] at e
    simp only [plainAll, Bool.and_eq_true] at h
    split at e <;> cases e
    rw [List.any_cons, List.any_cons, eqv_py x d _ p h.1 hd (by assumption) ep, any_py d p hd ep xs _ h.2 (by assumption)]
theorem flat_V {W : Wd} {H : Hp} {F : Addr → Prop} {d : D} {v : V} (h : isFlat d = true) (r : Rep W H F d v) : flatV v = true := by
  cases d <;> simp only [isFlat] at h <;> first | cases h | skip
  all_goals simp only [Rep] at r
  · subst r; rfl
  · subst r; rfl
  · subst r; rfl
  · obtain ⟨rfl, _⟩ := r; rfl
theorem flat_all {W : Wd} {H : Hp} {F : Addr → Prop} : ∀ {ds : List D} {vs : List V}, ds.all isFlat = true → Reps W H F ds vs → vs.all flatV = true
  | [], vs, _, r => by simp only [Reps] at r; subst r; rfl
  | d :: ds, vs, h, r => by
    simp only [Reps] at r
    obtain ⟨v, t, rfl, r1, r2⟩ := r
    rw [List.all_cons, Bool.and_eq_true] at h
    rw [List.all_cons, flat_V h.1 r1, flat_all h.2 r2]
    rfl
theorem eqV_flat {W : Wd} {H : Hp} {F : Addr → Prop} {a b : D} {x y : V} (ha : isFlat a = true) (hb : isFlat b = true) (ra : Rep W H F a x) (rb : Rep W H F b y) : eqV x y = eqv a b := by
  cases a <;> simp only [isFlat] at ha <;> first | cases ha | skip
  all_goals cases b <;> simp only [isFlat] at hb <;> first | cases hb | skip
  all_goals simp only [Rep] at ra rb
  all_goals first
    | (subst ra rb; simp [eqV, eqv]; done)
    | (obtain ⟨rfl, _⟩ := ra; obtain ⟨rfl, _⟩ := rb; exact strV_beq _ _)
    | (obtain ⟨rfl, _⟩ := ra; subst rb; simp [eqV, eqv]; done)
    | (obtain ⟨rfl, _⟩ := rb; subst ra; simp [eqV, eqv]; done)
theorem inV_flat {W : Wd} {H : Hp} {F : Addr → Prop} {d : D} {x : V} (hd : isFlat d = true) (rd : Rep W H F d x) : ∀ {ds : List D} {vs : List V}, ds.all isFlat = true → Reps W H F ds vs → inV x vs = ds.any fun z => eqv z d
  | [], vs, _, r => by simp only [Reps] at r; subst r; rfl
  | e :: ds, vs, h, r => by
    simp only [Reps] at r
    obtain ⟨v, t, rfl, r1, r2⟩ := r
    rw [List.all_cons, Bool.and_eq_true] at h
    show ((v :: t).any fun y => eqV y x) = _
    rw [List.any_cons, List.any_cons, eqV_flat h.1 hd r1 rd]
    have := inV_flat hd rd h.2 r2
    unfold inV at this
    rw [this]
theorem ltList_lt : ∀ a b : List Nat, ltList a b = decide (a < b)
  | [], [] => by simp [ltList]
  | [], b :: bs => by simp [ltList]
  | a :: as, [] => by simp [ltList]
  | a :: as, b :: bs => by
    simp only [ltList, List.cons_lt_cons_iff]
    by_cases h : a < b
    · simp [h]
    · by_cases e : a = b
      · simp [e, ltList_lt as bs]
      · simp [h, e]
/-- a dict's key -/
theorem key_Rep {W : Wd} {H : Hp} {F : Addr → Prop} {d : D} {v : V} (h : keyOk d = true) (r : Rep W H F d v) : ∃ k : Key, d = keyD k ∧ v = kV k := by
  cases d <;> simp only [keyOk] at h <;> first | cases h | skip
  all_goals simp only [Rep] at r
  · exact ⟨.inl _, rfl, r⟩
  · exact ⟨.inr (strV _), by simp [keyD, strV], r.1⟩
theorem keyD_inj {a b : Key} (h : keyD a = keyD b) : a = b := by
  cases a <;> cases b <;> simp only [keyD, D.int.injEq, D.str.injEq, reduceCtorEq] at h
  · rw [h]
  · rename_i x y
    congr 1
    cases x; cases y
    simp at h
    rw [h]
theorem dhas_key (k : Key) : ∀ (kk : List Key) (ws : List V), kk.length = ws.length → dhas (kk.map keyD) (keyD k) = (valV (kk.zip ws) k).isSome
  | [], _, _ => rfl
  | a :: kk, [], h => by simp at h
  | a :: kk, w :: ws, h => by
    rw [List.zip_cons_cons]
    by_cases e : a = k
    · subst e
      rw [valV_pos rfl]
      simp [dhas]
    · rw [valV_neg e, ← dhas_key k kk ws (by simpa using h)]
      have : ¬ keyD a = keyD k := fun z => e (keyD_inj z)
      simp [dhas, this]
theorem dget_key {W : Wd} {H : Hp} {F : Addr → Prop} (k : Key) : ∀ {kk : List Key} {ds : List D} {ws : List V}, kk.length = ws.length → Reps W H F ds ws → (∀ z, dget (kk.map keyD) ds (keyD k) = some z → ∃ v, valV (kk.zip ws) k = some v ∧ Rep W H F z v) ∧ (dget (kk.map keyD) ds (keyD k) = none → valV (kk.zip ws) k = none)
  | [], ds, ws, h, r => by simp [dget, valV]
  | a :: kk, [], ws, h, r => by
    simp only [Reps] at r
    subst r
    simp at h
  | a :: kk, d :: ds, ws, h, r => by
    simp only [Reps] at r
    obtain ⟨v, t, rfl, r1, r2⟩ := r
    rw [List.zip_cons_cons, List.map_cons]
    by_cases e : a = k
    · subst e
      rw [valV_pos rfl]
      simp only [dget, if_pos]
      exact ⟨fun z hz => ⟨v, rfl, by cases hz; exact r1⟩, fun z => by cases z⟩
    · have hn : ¬ keyD a = keyD k := fun z => e (keyD_inj z)
      rw [valV_neg e]
      simp only [dget, if_neg hn]
      exact dget_key k (by simpa using h) r2
/-- a test of two values -/
def rCm (W : Wd) (g : D → D → Option Bool) : R2 := fun x y H Q => ∃ F d e z, (∀ a, F a → trk H a) ∧ Rep W H F d x ∧ Rep W H F e y ∧ g d e = some z ∧ Q (.bl z) H
def cOp : COp → CmpOp
  | .eq => .Eq | .ne => .NotEq | .lt => .Lt | .le => .LtE | .gt => .Gt | .ge => .GtE | .is => .Is | .isn => .IsNot | .in_ => .In | .nin => .NotIn
section
variable {X : Cx} {W : Wd} {pins : List (Addr × Obj)} {s : Shared} {σ : L2.St} {H : Hp} {x y : V} {v u : Value} {Q : VK} {F : Addr → Prop} {d e : D}
theorem eqS_ok (hK : W.K = X.K) (hu : X.A.units + 64 < cLine) (I : Inv X pins σ H s) (rx : RelV x v) (ry : RelV y u) (hd : Rep W H F d x) (he : Rep W H F e y) {z : Bool} (h : eqS d e = some z) :
    (Q (.bl z) H → wpAny (model X.prog X.w) X.A (compareOp .Eq v u) (EP X pins σ Q) X.xe s) ∧ (Q (.bl (!z)) H → wpAny (model X.prog X.w) X.A (compareOp .NotEq v u) (EP X pins σ Q) X.xe s) := by
  unfold eqS at h
  split at h
  · rename_i a b
    cases h
    simp only [Rep] at hd he
    obtain ⟨rfl, _⟩ := hd
    obtain ⟨rfl, _⟩ := he
    have e : decide (V.str (strV a) = V.str (strV b)) = decide (a = b) := by
      by_cases k : a = b
      · subst k; simp
      · rw [decide_eq_false k]
        exact decide_eq_false fun z => k (strV_inj (V.str.inj z))
    exact ⟨fun q => op_eq pins s σ H _ _ v u Q I rx ry ⟨rfl, by rw [e]; exact q⟩, fun q => op_ne pins s σ H _ _ v u Q I rx ry ⟨rfl, by rw [e]; exact q⟩⟩
  · split at h
    · rename_i k
      obtain ⟨k1, k2⟩ := Bool.and_eq_true_iff.mp k
      cases h
      obtain ⟨p1, p, e1, q1, s1⟩ := hd.ask k1
      obtain ⟨p2, q, e2, q2, s2⟩ := he.ask k2
      rw [hK] at q1 q2
      have ee := eqv_py d e p q p1 p2 e1 e2
      exact ⟨fun g => op_eqD hu pins s σ H _ _ v u Q I rx ry ⟨p, q, q1, q2, s1, s2, by rw [ee]; exact g⟩, fun g => op_neD hu pins s σ H _ _ v u Q I rx ry ⟨p, q, q1, q2, s1, s2, by rw [ee]; exact g⟩⟩
    · cases h
theorem inS_ok (hK : W.K = X.K) (hu : X.A.units + 65 < cLine) (I : Inv X pins σ H s) (rx : RelV x v) (ry : RelV y u) (hd : Rep W H F d x) (he : Rep W H F e y) {z : Bool} (h : inS d e = some z) :
    (Q (.bl z) H → wpAny (model X.prog X.w) X.A (compareOp .In v u) (EP X pins σ Q) X.xe s) ∧ (Q (.bl (!z)) H → wpAny (model X.prog X.w) X.A (compareOp .NotIn v u) (EP X pins σ Q) X.xe s) := by
  cases e <;> simp only [inS] at h <;> first | cases h | skip
  · rename_i cs
    split at h
    · rename_i c
      cases h
      simp only [Rep] at hd he
      obtain ⟨rfl, _⟩ := hd
      obtain ⟨rfl, _⟩ := he
      exact ⟨fun q => op_in_sign pins s σ H _ _ v u Q I rx ry ⟨c, strV cs, rfl, rfl, by rw [strV_cps]; exact q⟩, fun q => op_notIn_sign pins s σ H _ _ v u Q I rx ry ⟨c, strV cs, rfl, rfl, by rw [strV_cps]; exact q⟩⟩
    · cases h
  · rename_i xs
    split at h
    · rename_i k
      obtain ⟨k1, k2⟩ := Bool.and_eq_true_iff.mp k
      cases h
      simp only [Rep] at he
      obtain ⟨a, vs, rfl, h1, hz, h2⟩ := he
      rw [hK] at h1
      have e1 := flat_V k1 hd
      have e2 := flat_all k2 h2
      have e3 := inV_flat k1 hd k2 h2
      exact ⟨fun q => op_in_seq pins s σ H _ _ v u Q I rx ry ⟨a, vs, rfl, .inr h1, e1, e2, by rw [if_neg Bool.false_ne_true, e3]; exact q⟩, fun q => op_notIn_seq pins s σ H _ _ v u Q I rx ry ⟨a, vs, rfl, .inr h1, e1, e2, by rw [if_pos rfl, e3]; exact q⟩⟩
    · cases h
  · rename_i xs
    split at h
    · rename_i k
      obtain ⟨k1, k2⟩ := Bool.and_eq_true_iff.mp k
      cases h
      obtain ⟨p1, p, e1, q1, s1⟩ := hd.ask k1
      obtain ⟨p2, q, e2, q2, s2⟩ := he.ask k2
      simp only [D.py, Option.map_eq_some_iff] at e2
      obtain ⟨ps, h2, rfl⟩ := e2
      have ee := any_py d p p1 e1 xs ps (by simpa only [D.plain] using p2) h2
      rw [hK] at q1 q2
      exact ⟨fun g => op_inD hu pins s σ H _ _ v u Q I rx ry ⟨p, ps, q1, q2, s1, s2, by rw [ee]; exact g⟩, fun g => op_notInD hu pins s σ H _ _ v u Q I rx ry ⟨p, ps, q1, q2, s1, s2, by rw [ee]; exact g⟩⟩
    · cases h
  · rename_i ks ds
    split at h
    · rename_i k
      cases h
      obtain ⟨kk, rfl, rfl⟩ := key_Rep k hd
      simp only [Rep] at he
      obtain ⟨a, o, ws, rfl, fa, h1, ⟨ky, rfl, hl, rfl, nd⟩, hz, h2⟩ := he
      have g : DGet H a (kV kk) (valV (ky.zip ws) kk) := .inl ⟨_, _, h1, rfl, rfl⟩
      cases ry
      rw [dhas_key kk ky ws hl]
      exact ⟨fun q => d_in (by omega) I g rx fun s' I' => ⟨.bl _, H, I', rfl, q⟩, fun q => d_notIn (by omega) I g rx fun s' I' => ⟨.bl _, H, I', rfl, q⟩⟩
    · cases h
theorem op_cmpS (hK : W.K = X.K) (hu : X.A.units + 65 < cLine) (op : COp) : OpR X (compareOp (cOp op)) (rCm W (cmpS op)) := by
  intro pins s σ H x y v u Q I rx ry h
  obtain ⟨F, d, e, z, hF, hd, he, hg, q⟩ := h
  have hn : ∀ {a : D} {x : V}, Rep W H F a x → decide (x = .non) = decide (a = .non) := by
    intro a x r
    cases a <;> simp only [Rep] at r
    · subst r; simp
    · subst r; simp
    · subst r; simp
    · obtain ⟨rfl, _⟩ := r; simp
    · obtain ⟨_, _, rfl, _⟩ := r; simp
    · obtain ⟨_, _, rfl, _⟩ := r; simp
    · obtain ⟨_, _, _, rfl, _⟩ := r; simp
    · obtain ⟨_, _, _, rfl, _⟩ := r; simp
    · obtain ⟨_, rfl, _⟩ := r; simp
  cases op
  · exact (eqS_ok hK (by omega) I rx ry hd he hg).1 q
  · simp only [cmpS, Option.map_eq_some_iff] at hg
    obtain ⟨b, hb, rfl⟩ := hg
    exact (eqS_ok hK (by omega) I rx ry hd he hb).2 q
  · simp only [cmpS] at hg
    split at hg <;> cases hg <;> simp only [Rep] at hd he
    · subst hd he
      exact op_lt pins s σ H _ _ v u Q I rx ry ⟨_, _, rfl, rfl, q⟩
    · obtain ⟨rfl, _⟩ := hd
      obtain ⟨rfl, _⟩ := he
      rw [ltList_lt] at q
      exact op_lt_str pins s σ H _ _ v u Q I rx ry ⟨_, _, rfl, rfl, by rw [strV_cps, strV_cps]; exact q⟩
  · simp only [cmpS] at hg
    split at hg <;> cases hg <;> simp only [Rep] at hd he
    subst hd he
    exact op_le pins s σ H _ _ v u Q I rx ry ⟨_, _, rfl, rfl, q⟩
  · simp only [cmpS] at hg
    split at hg <;> cases hg <;> simp only [Rep] at hd he
    subst hd he
    exact op_gt pins s σ H _ _ v u Q I rx ry ⟨_, _, rfl, rfl, q⟩
  · simp only [cmpS] at hg
    split at hg <;> cases hg <;> simp only [Rep] at hd he
    subst hd he
    exact op_ge pins s σ H _ _ v u Q I rx ry ⟨_, _, rfl, rfl, q⟩
  · simp only [cmpS] at hg
    split at hg <;> cases hg <;> simp only [Rep] at he
    subst he
    exact op_isN pins s σ H _ _ v u Q I rx ry ⟨rfl, by rw [hn hd]; exact q⟩
  · simp only [cmpS] at hg
    split at hg <;> cases hg <;> simp only [Rep] at he
    subst he
    exact op_notN pins s σ H _ _ v u Q I rx ry ⟨rfl, by rw [hn hd]; exact q⟩
  · exact (inS_ok hK hu I rx ry hd he hg).1 q
  · simp only [cmpS, Option.map_eq_some_iff] at hg
    obtain ⟨b, hb, rfl⟩ := hg
    exact (inS_ok hK hu I rx ry hd he hb).2 q
end
end PyI

set_option Elab.async false
set_option linter.all false
set_option maxRecDepth 100000
namespace PyI
open PySem PySem.Spec PyProof.Rows L2 LamX
theorem place_ixN (n : Nat) (i : Int) : place n i = ixN n i := by
  unfold place ixN
  by_cases h : 0 ≤ i
  · rw [if_pos h, if_pos h]
    by_cases k : i.toNat < n
    · rw [if_pos k, if_pos (by omega)]
    · rw [if_neg k, if_neg (by omega)]
  · rw [if_neg h, if_neg h]
    by_cases k : 0 ≤ i + n
    · rw [if_pos k, if_pos (by omega)]
    · rw [if_neg k, if_neg (by omega)]
theorem atI_get' {α : Type} {xs : List α} {i : Int} {k : Nat} {x : α} (h : place xs.length i = some k) (e : xs[k]? = some x) : atI xs i = some x := by
  unfold atI
  rw [← place_ixN, h]
  exact e
/-- a place's value -/
def rIxD (W : Wd) : R2 := fun x y H Q => ∃ F d e z, (∀ a, F a → trk H a) ∧ Rep W H F d x ∧ Rep W H F e y ∧ idxS d e = some z ∧ ∀ v, Rep W H F z v → Q v H
theorem ix_D {X : Cx} {W : Wd} (hK : W.K = X.K) (hu : X.A.units + 1 < cLine) : IxR X (rIxD W) := by
  intro value slice pins s σ H x y v u Q I rx ry h hs
  obtain ⟨F, d, e, z, hF, hd, he, hg, q⟩ := h
  cases d <;> simp only [idxS] at hg <;> first | cases hg | skip
  · cases e <;> first | cases hg | skip
    rename_i cs i
    obtain ⟨k, hk, hg⟩ := Option.bind_eq_some_iff.mp hg
    obtain ⟨c, hc, rfl⟩ := Option.map_eq_some_iff.mp hg
    simp only [Rep] at hd he
    obtain ⟨rfl, hz⟩ := hd
    subst he
    refine ix_str value slice pins s σ H _ _ v u Q I rx ry ⟨strV cs, i, c, rfl, rfl, by rw [strV_length]; exact hz, ?_, q _ ?_⟩ hs
    · rw [strV_cps]; exact atI_get' hk hc
    · simp only [Rep]; exact ⟨rfl, by rw [sizeLine_eq, List.length_singleton]; decide⟩
  · cases e <;> first | cases hg | skip
    rename_i xs i
    obtain ⟨k, hk, hc⟩ := Option.bind_eq_some_iff.mp hg
    simp only [Rep] at hd he
    obtain ⟨a, vs, rfl, h1, hz, h2⟩ := hd
    subst he
    obtain ⟨w, e1, r1⟩ := h2.get hc
    rw [h2.len] at hk
    rw [hK] at h1
    exact ix_tup value slice pins s σ H _ _ v u Q I rx ry ⟨a, vs, i, w, rfl, rfl, h1, atI_get' hk e1, q _ r1⟩ hs
  · cases e <;> first | cases hg | skip
    rename_i xs i
    obtain ⟨k, hk, hc⟩ := Option.bind_eq_some_iff.mp hg
    simp only [Rep] at hd he
    obtain ⟨a, vs, rfl, fa, h1, hz, h2⟩ := hd
    subst he
    obtain ⟨w, e1, r1⟩ := h2.get hc
    rw [h2.len] at hk
    exact ix_list value slice pins s σ H _ _ v u Q I rx ry ⟨a, vs, i, w, rfl, rfl, SqL.of h1, atI_get' hk e1, q _ r1⟩ hs
  · rename_i ks ds
    split at hg
    · rename_i k
      obtain ⟨kk, rfl, rfl⟩ := key_Rep k he
      simp only [Rep] at hd
      obtain ⟨a, o, ws, rfl, fa, h1, ⟨ky, rfl, hl, rfl, nd⟩, hz, h2⟩ := hd
      obtain ⟨w, e1, r1⟩ := (dget_key kk hl h2).1 z hg
      have g : DGet H a (kV kk) (some w) := .inl ⟨_, _, h1, rfl, e1.symm⟩
      cases rx
      have hT := dict_typeIs I g
      unfold subscriptTail
      refine wpAny_bind ?_
      rw [getitemInPython_of_ne hT.not_modules]
      refine wpAny_bind (wpAny_specialOf hT PySem.F.slot_dict_getitem.lookup ?_)
      have fin : wpAny (model X.prog X.w) X.A (subscripted slice false (.ref a) u) (fun r s₃ => wpAny (model X.prog X.w) X.A (letTemporaryGo value (.ref a) r >>= fun _ => pure r) (EP X pins σ Q) X.xe s₃) X.xe s := by
        rw [hs]
        exact wpAny_operating (wpAny_mono (d_getItem (Q := EP X pins σ Q) hu I g ry fun w' s3 I3 rw' => ⟨w, H, I3, rw', q _ r1⟩) (fun r s₃ h₃ => wpAny_bind (wpAny_letTemporaryGo (wpAny_pure h₃))) fun _ _ x => x)
      first
        | exact wpAny_pure (wpAny_bind fin)
        | exact wpAny_bind (wpAny_pure (wpAny_bind fin))
        | exact wpAny_bind fin
    · cases hg

theorem clamp_sIx (n d : Nat) (i : Int) : clampS n i = HT.sIx n d (some i) := by
  unfold clampS
  show _ = (if i < 0 then (i + (n : Int)).toNat else min i.toNat n)
  by_cases h : 0 ≤ i
  · rw [if_pos h, if_neg (by omega)]
  · rw [if_neg h, if_pos (by omega)]
theorem cut_eq {α : Type} (xs : List α) (lo hi : Option Int) : cut xs lo hi = (xs.drop (HT.sIx xs.length 0 lo)).take (HT.sIx xs.length xs.length hi - HT.sIx xs.length 0 lo) := by
  unfold cut
  rw [List.drop_take]
  cases lo <;> cases hi <;> simp only [HT.sIx_none, clamp_sIx xs.length 0, clamp_sIx xs.length xs.length] <;> rfl
theorem Reps.cutV {W : Wd} {H : Hp} {F : Addr → Prop} {xs : List D} {vs : List V} (h : Reps W H F xs vs) (lo hi : Option Int) : Reps W H F (cut xs lo hi) (cutV vs lo hi) := by
  unfold L2.cutV
  rw [cut_eq, h.len]
  exact (h.drop _).take _
theorem cutV_len (vs : List V) (lo hi : Option Int) : (cutV vs lo hi).length ≤ vs.length := by
  unfold L2.cutV
  rw [List.length_take, List.length_drop]
  omega
def rSlD (W : Wd) : V → Option Int → Option Int → Hp → VK → Prop := fun x lo hi H Q => ∃ F d z, (∀ a, F a → trk H a) ∧ Rep W H F d x ∧ slcS d lo hi = some z ∧ Res W true F H z Q
theorem sl_D {X : Cx} {W : Wd} (hK : W.K = X.K) : SlR X (rSlD W) := by
  intro pins s σ H x v vl vu lo hi sl Q I rx hs pl pu h
  obtain ⟨F, d, z, hF, hd, hg, r⟩ := h
  cases d <;> simp only [slcS] at hg <;> cases hg <;> simp only [Rep] at hd
  · obtain ⟨rfl, hz⟩ := hd
    rename_i cs
    have e : cutS (strV cs) lo hi = strV (cut cs lo hi) := by
      unfold cutS
      rw [strV_cps, strV_length, cut_eq]
      rfl
    have l := cutS_length (strV cs) lo hi
    rw [e, strV_length, strV_length] at l
    exact sl_str pins s σ H _ v vl vu lo hi sl Q I rx hs pl pu ⟨strV cs, rfl, by rw [strV_length]; exact hz, by rw [e]; exact r.str (Nat.le_trans l hz)⟩
  · obtain ⟨a, vs, rfl, h1, hz, h2⟩ := hd
    rename_i xs
    have h1' := h1
    rw [hK] at h1'
    refine sl_tupA pins s σ H _ v vl vu lo hi sl Q I rx hs pl pu ⟨a, vs, rfl, h1', fun hw => r.now ?_ fun _ => trivial, fun hw p hp => r.tup (h2.cutV lo hi) (Nat.le_trans (cutV_len _ _ _) hz) hp⟩
    have e : cut xs lo hi = xs := by
      rw [cut_eq, h2.len, hw.1, hw.2, List.drop_zero, Nat.sub_zero, ← h2.len, List.take_length]
    simp only [Rep, e]
    exact ⟨a, vs, rfl, h1, hz, h2⟩
  · obtain ⟨a, vs, rfl, fa, h1, hz, h2⟩ := hd
    exact sl_list pins s σ H _ v vl vu lo hi sl Q I rx hs pl pu ⟨a, vs, rfl, SqL.of h1, fun p hp => r.lst (h2.cutV lo hi) (Nat.le_trans (cutV_len _ _ _) hz) hp⟩

theorem scr_sql {K : PySem.W.Frag} {H : Hp} {a : Addr} {xs : List V} (h : ScrAt K H a xs) : SqL K H a xs := by
  rcases h with ⟨o, h⟩ | h
  · exact .inl (.inr ⟨o, h⟩)
  · exact .inr h
theorem Reps.ints {W : Wd} {H : Hp} {F : Addr → Prop} : ∀ {xs : List D} {vs : List V} {is : List Int}, intsOf xs = some is → Reps W H F xs vs → vs = is.map V.int ∧ xs = is.map D.int
  | [], vs, is, e, h => by simp only [intsOf, Option.some.injEq] at e; subst e; simp only [Reps] at h; subst h; exact ⟨rfl, rfl⟩
  | x :: xs, vs, is, e, h => by
    cases x <;> simp only [intsOf] at e <;> first | cases e | skip
    obtain ⟨t, e1, rfl⟩ := Option.map_eq_some_iff.mp e
    simp only [Reps, Rep] at h
    obtain ⟨v, r, rfl, rfl, h2⟩ := h
    obtain ⟨e2, e3⟩ := Reps.ints e1 h2
    rw [e2, e3]
    exact ⟨rfl, rfl⟩
theorem Reps.bools {W : Wd} {H : Hp} {F : Addr → Prop} : ∀ {xs : List D} {vs : List V} {is : List Bool}, boolsOf xs = some is → Reps W H F xs vs → vs = is.map V.bl
  | [], vs, is, e, h => by simp only [boolsOf, Option.some.injEq] at e; subst e; simp only [Reps] at h; subst h; rfl
  | x :: xs, vs, is, e, h => by
    cases x <;> simp only [boolsOf] at e <;> first | cases e | skip
    obtain ⟨t, e1, rfl⟩ := Option.map_eq_some_iff.mp e
    simp only [Reps, Rep] at h
    obtain ⟨v, r, rfl, rfl, h2⟩ := h
    rw [Reps.bools e1 h2]
    rfl
theorem Reps.strs {W : Wd} {H : Hp} {F : Addr → Prop} : ∀ {xs : List D} {vs : List V} {is : List (List Nat)}, strsOf xs = some is → Reps W H F xs vs → vs = (is.map strV).map V.str
  | [], vs, is, e, h => by simp only [strsOf, Option.some.injEq] at e; subst e; simp only [Reps] at h; subst h; rfl
  | x :: xs, vs, is, e, h => by
    cases x <;> simp only [strsOf] at e <;> first | cases e | skip
    obtain ⟨t, e1, rfl⟩ := Option.map_eq_some_iff.mp e
    simp only [Reps, Rep] at h
    obtain ⟨v, r, rfl, ⟨rfl, _⟩, h2⟩ := h
    rw [Reps.strs e1 h2]
    rfl
theorem reps_ints {W : Wd} {H : Hp} {F : Addr → Prop} : ∀ is : List Int, Reps W H F (is.map D.int) (is.map V.int)
  | [] => Reps.nil
  | i :: is => Reps.cons (by simp only [Rep]) (reps_ints is)
theorem insI_perm (x : Int) : ∀ l, (insI x l).Perm (x :: l)
  | [] => by unfold insI; exact List.Perm.refl _
  | y :: ys => by
    unfold insI
    split
    · exact List.Perm.refl _
    · exact ((insI_perm x ys).cons y).trans (List.Perm.swap x y ys)
theorem sortI_perm : ∀ l, (sortI l).Perm l
  | [] => List.Perm.refl _
  | x :: xs => (insI_perm x (sortI xs)).trans ((sortI_perm xs).cons x)
theorem insI_sorted (x : Int) : ∀ l : List Int, l.Pairwise (· ≤ ·) → (insI x l).Pairwise (· ≤ ·)
  | [], _ => by unfold insI; simp
  | y :: ys, h => by
    have h' := List.pairwise_cons.mp h
    unfold insI
    split
    · rename_i k
      refine List.pairwise_cons.mpr ⟨fun z hz => ?_, h⟩
      rcases List.mem_cons.mp hz with rfl | hz
      · exact k
      · exact Int.le_trans k (h'.1 z hz)
    · rename_i k
      refine List.pairwise_cons.mpr ⟨fun z hz => ?_, insI_sorted x ys h'.2⟩
      rcases List.mem_cons.mp ((insI_perm x ys).mem_iff.mp hz) with rfl | hz
      · omega
      · exact h'.1 z hz
theorem sortI_sorted : ∀ l : List Int, (sortI l).Pairwise (· ≤ ·)
  | [] => List.Pairwise.nil
  | x :: xs => insI_sorted x _ (sortI_sorted xs)
theorem sorted_unique {a b : List Int} (p : a.Perm b) (ha : a.Pairwise (· ≤ ·)) (hb : b.Pairwise (· ≤ ·)) : a = b :=
  p.eq_of_pairwise (fun x y _ _ h1 h2 => Int.le_antisymm h1 h2) ha hb
theorem joinL_str (sep : List Nat) : ∀ ss : List (List Nat), Str.join (strV sep) (ss.map strV) = strV (joinL sep ss)
  | [] => rfl
  | [x] => rfl
  | x :: y :: r => by
    have ih := joinL_str sep (y :: r)
    show strV x ++ strV sep ++ Str.join (strV sep) ((y :: r).map strV) = _
    rw [ih, strV_append, strV_append]
    rfl
theorem joinL_join (sep : List Nat) (ss : List (List Nat)) : Txt.join (strV sep) (ss.map strV) = strV (joinL sep ss) := by
  unfold Txt.join
  rw [StrLaws.glued_eq_join, joinL_str]
end PyI

set_option Elab.async false
set_option linter.all false
set_option maxRecDepth 100000
namespace PyI
open PySem PySem.Spec PyProof.Rows L2 LamX
theorem log2_lt {i : Int} {k : Nat} (hk : 0 < k) (h : i.natAbs < 2 ^ k) : i.natAbs.log2 < k := by
  by_cases e : i.natAbs = 0
  · rw [e]; exact hk
  · exact (Nat.log2_lt e).mpr h
theorem wtI_ok {i : Int} (h : i.natAbs < 2 ^ 1900) : (Str.ofString (toString i)).length ≤ wtI i := by
  unfold wtI
  split
  · rename_i k
    exact PyData.shown_int_le (i := i) (by omega)
  · exact int_text_len_1921 (Nat.lt_of_lt_of_le (log2_lt (by decide) h) (by decide))
mutual
/-- what is shown, and how long it is -/
theorem shw_ok : ∀ {d : D} {p : PyData}, d.py = some p → d.shw = true → p.showable = true ∧ p.shown.length ≤ d.wt ∧ p.canLay0 = true ∧ p.depth = d.deep ∧ d.plain = true
  | .non, p, e, _ => by simp only [D.py, Option.some.injEq] at e; subst e; exact ⟨rfl, by decide, rfl, rfl, rfl⟩
  | .bl b, p, e, _ => by simp only [D.py, Option.some.injEq] at e; subst e; exact ⟨rfl, by cases b <;> decide, rfl, rfl, rfl⟩
  | .int i, p, e, h => by
    simp only [D.py, Option.some.injEq] at e; subst e
    simp only [D.shw] at h
    have h := of_decide_eq_true h
    refine ⟨?_, wtI_ok h, rfl, rfl, rfl⟩
    simp only [PyData.showable]
    exact decide_eq_true (Nat.lt_of_lt_of_le (log2_lt (by decide) h) (by decide))
  | .str cs, p, e, h => by
    simp only [D.py, Option.some.injEq] at e; subst e
    simp only [D.shw] at h
    refine ⟨rfl, ?_, ?_, rfl, by simpa only [D.plain] using h⟩
    · show (reprText (strV cs)).length ≤ 10 * cs.length + 2
      have := StrLaws.reprText_len (strV cs) (fun c hc => by
        rw [strV_cps] at hc
        have := of_decide_eq_true (List.all_eq_true.mp h c hc)
        exact Nat.lt_of_lt_of_le this (by decide))
      rw [strV_length] at this
      exact this
    · show (strV cs).cps.all (· < 0x110000) = true
      unfold strV
      simpa using h
  | .tup xs, p, e, h => by
    simp only [D.py, Option.map_eq_some_iff] at e
    obtain ⟨ps, e, rfl⟩ := e
    simp only [D.shw] at h
    obtain ⟨a, b, c, d, f, g⟩ := shws_ok e h
    refine ⟨by simpa only [PyData.showable] using a, ?_, by simpa only [PyData.canLay0] using c, by simp only [PyData.depth, D.deep, d], by simpa only [D.plain] using f⟩
    have := tupleText_len_le (PyData.shownAll ps)
    simp only [PyData.shown, D.wt]
    omega
  | .lst xs, p, e, h => by
    simp only [D.py, Option.map_eq_some_iff] at e
    obtain ⟨ps, e, rfl⟩ := e
    simp only [D.shw] at h
    obtain ⟨a, b, c, d, f, g⟩ := shws_ok e h
    refine ⟨by simpa only [PyData.showable] using a, ?_, by simpa only [PyData.canLay0] using c, by simp only [PyData.depth, D.deep, d], by simpa only [D.plain] using f⟩
    have := listText_len_le (PyData.shownAll ps)
    simp only [PyData.shown, D.wt]
    omega
  | .dct _ _, _, _, h => by simp [D.shw] at h
  | .exc _ _, _, _, h => by simp [D.shw] at h
  | .scr _, _, _, h => by simp [D.shw] at h
theorem shws_ok : ∀ {ds : List D} {ps : List PyData}, pyAll ds = some ps → shwAll ds = true → PyData.showableAll ps = true ∧ ((PyData.shownAll ps).map (·.length)).sum + 2 * (PyData.shownAll ps).length ≤ wtAll ds ∧ PyData.canLayAll0 ps = true ∧ PyData.depthAll ps = deepAll ds ∧ plainAll ds = true ∧ True
  | [], ps, e, _ => by simp only [pyAll, Option.some.injEq] at e; subst e; exact ⟨rfl, by simp [PyData.shownAll, wtAll], rfl, rfl, rfl, trivial⟩
  | d :: ds, ps, e, h => by
    simp only [pyAll] at e
    split at e <;> cases e
    rename_i p q e1 e2
    simp only [shwAll, Bool.and_eq_true] at h
    obtain ⟨a, b, c, d, f⟩ := shw_ok e1 h.1
    obtain ⟨a', b', c', d', f', _⟩ := shws_ok e2 h.2
    refine ⟨by simp only [PyData.showableAll, a, a', Bool.and_self], ?_, by simp only [PyData.canLayAll0, c, c', Bool.and_self], by simp only [PyData.depthAll, deepAll, d, d'], by simp only [plainAll, f, f', Bool.and_self], trivial⟩
    simp only [PyData.shownAll, List.map_cons, List.sum_cons, List.length_cons, wtAll]
    omega
end
/-- several operands, a result -/
def rN (W : Wd) (g : List D → Option D) (fr : Bool) : List V → Hp → VK → Prop := fun xs H Q => ∃ F ds z, (∀ a, F a → trk H a) ∧ Reps W H F ds xs ∧ g ds = some z ∧ Res W fr F H z Q
theorem Reps.one {W : Wd} {H : Hp} {F : Addr → Prop} {d : D} {xs : List V} (h : Reps W H F [d] xs) : ∃ v, xs = [v] ∧ Rep W H F d v := by
  simp only [Reps] at h
  obtain ⟨v, r, rfl, h1, rfl⟩ := h
  exact ⟨v, rfl, h1⟩
theorem Reps.two {W : Wd} {H : Hp} {F : Addr → Prop} {d e : D} {xs : List V} (h : Reps W H F [d, e] xs) : ∃ v w, xs = [v, w] ∧ Rep W H F d v ∧ Rep W H F e w := by
  simp only [Reps] at h
  obtain ⟨v, r, rfl, h1, w, r', rfl, h2, rfl⟩ := h
  exact ⟨v, w, rfl, h1, h2⟩
section
variable {X : Cx} {W : Wd}
/-- one operand -/
def Bi.two : Bi → Bool
  | .max2 | .min2 => true
  | _ => false
theorem bi1 {b : Bi} {ds : List D} {z : D} (hb : b.two = false) (h : biS b ds = some z) : ∃ d, ds = [d] ∧ biS b [d] = some z := by
  unfold biS at h
  split at h
  · exact ⟨_, rfl, h⟩
  · cases b <;> simp only [Bi.two] at hb <;> cases hb <;> cases h
  · cases h
theorem bi2 {b : Bi} {ds : List D} {z : D} (hb : b.two = true) (h : biS b ds = some z) : ∃ d e, ds = [d, e] ∧ biS b [d, e] = some z := by
  unfold biS at h
  split at h
  · cases b <;> simp only [Bi.two] at hb <;> cases hb <;> cases h
  · exact ⟨_, _, rfl, h⟩
  · cases h
theorem call_len1 (hK : W.K = X.K) : CallR X (.builtin "len") (rN W (biS .len) false) := by
  intro pins s σ H xs us Q I r h
  obtain ⟨F, ds, z, hF, hd, hg, q⟩ := h
  obtain ⟨d, rfl, hg⟩ := bi1 (by decide) hg
  replace hg : lenS d = some z := hg
  obtain ⟨v, rfl, h1⟩ := hd.one
  cases d <;> simp only [lenS] at hg <;> cases hg <;> simp only [Rep] at h1
  · obtain ⟨rfl, hz⟩ := h1
    refine call_len pins s σ H _ us Q I r ⟨_, _, rfl, ⟨by rw [strV_length]; exact hz, rfl⟩, ?_⟩
    rw [strV_length]
    exact q.int
  · obtain ⟨a, vs, rfl, k1, hz, k2⟩ := h1
    rw [hK] at k1
    rw [k2.len] at q
    exact call_len pins s σ H _ us Q I r ⟨_, _, rfl, .inr ⟨vs, k1, rfl⟩, q.int⟩
  · obtain ⟨a, vs, rfl, fa, k1, hz, k2⟩ := h1
    rw [k2.len] at q
    exact call_len pins s σ H _ us Q I r ⟨_, _, rfl, .inl ⟨vs, SqL.of k1, rfl⟩, q.int⟩
  · obtain ⟨a, o, ws, rfl, fa, k1, ⟨ky, rfl, hl, rfl, nd⟩, hz, k2⟩ := h1
    obtain ⟨u, rfl, ru⟩ := vals1 r
    cases ru
    refine d_len I k1 fun t s' I' => ⟨.int _, H, I', ⟨t, rfl⟩, ?_⟩
    have e : (ky.zip ws).length = (ky.map keyD).length := by simp [hl]
    rw [e]
    exact q.int
  · obtain ⟨a, rfl, k1, hz⟩ := h1
    rw [hK] at k1
    refine call_len pins s σ H _ us Q I r ⟨_, _, rfl, .inl ⟨_, scr_sql k1, rfl⟩, ?_⟩
    rw [List.length_map]
    exact q.int
theorem call_list1 (hK : W.K = X.K) : CallR X (.type "list") (rN W (biS .list) true) := by
  intro pins s σ H xs us Q I r h
  obtain ⟨F, ds, z, hF, hd, hg, q⟩ := h
  obtain ⟨d, rfl, hg⟩ := bi1 (by decide) hg
  replace hg : listS d = some z := hg
  obtain ⟨ys, h2, rfl⟩ := Option.map_eq_some_iff.mp hg
  obtain ⟨v, rfl, h1⟩ := hd.one
  cases d <;> simp only [seqOf] at h2 <;> cases h2 <;> simp only [Rep] at h1
  · obtain ⟨a, vs, rfl, k1, hz, k2⟩ := h1
    rw [hK] at k1
    exact call_list_of pins s σ H _ us Q I r ⟨a, vs, rfl, .inr k1, fun l hl => q.lst k2 hz hl⟩
  · obtain ⟨a, vs, rfl, fa, k1, hz, k2⟩ := h1
    exact call_list_of pins s σ H _ us Q I r ⟨a, vs, rfl, .inl (SqL.of k1), fun l hl => q.lst k2 hz hl⟩
theorem call_tuple1 (hK : W.K = X.K) : CallR X (.type "tuple") (rN W (biS .tuple) false) := by
  intro pins s σ H xs us Q I r h
  obtain ⟨F, ds, z, hF, hd, hg, q⟩ := h
  obtain ⟨d, rfl, hg⟩ := bi1 (by decide) hg
  replace hg : tupleS d = some z := hg
  obtain ⟨v, rfl, h1⟩ := hd.one
  cases d <;> simp only [tupleS] at hg <;> cases hg
  simp only [Rep] at h1
  obtain ⟨a, vs, rfl, fa, k1, hz, k2⟩ := h1
  exact call_tuple_of pins s σ H _ us Q I r ⟨a, vs, rfl, .inl ⟨SqL.of k1, fun l hl => q.tup k2 hz hl⟩⟩
theorem call_sorted1 (hK : W.K = X.K) : CallR X (.builtin "sorted") (rN W (biS .sorted) true) := by
  intro pins s σ H xs us Q I r h
  obtain ⟨F, ds, z, hF, hd, hg, q⟩ := h
  obtain ⟨d, rfl, hg⟩ := bi1 (by decide) hg
  replace hg : sortedS1 d = some z := hg
  obtain ⟨v, rfl, h1⟩ := hd.one
  cases d <;> simp only [sortedS1] at hg <;> first | (cases hg; done) | skip
  obtain ⟨is, h2, rfl⟩ := Option.map_eq_some_iff.mp hg
  simp only [Rep] at h1
  obtain ⟨a, vs, rfl, fa, k1, hz, k2⟩ := h1
  obtain ⟨rfl, rfl⟩ := k2.ints h2
  refine cr_sortedI pins s σ H _ us Q I r ⟨a, is, rfl, SqL.of k1, fun ns p hp hs hn => ?_⟩
  obtain rfl := sorted_unique (hp.trans (sortI_perm is).symm) hs (sortI_sorted is)
  refine q.lst (reps_ints _) ?_ hn
  rw [List.length_map] at hz ⊢
  rw [hp.length_eq]
  exact hz
theorem call_sum1 (hc : X.calm = true) : CallR X (.builtin "sum") (rN W (biS .sum) false) := by
  intro pins s σ H xs us Q I r h
  obtain ⟨F, ds, z, hF, hd, hg, q⟩ := h
  obtain ⟨d, rfl, hg⟩ := bi1 (by decide) hg
  replace hg : sumS d = some z := hg
  obtain ⟨v, rfl, h1⟩ := hd.one
  cases d <;> simp only [sumS] at hg <;> first | (cases hg; done) | skip
  obtain ⟨is, h2, rfl⟩ := Option.map_eq_some_iff.mp hg
  simp only [Rep] at h1
  obtain ⟨a, vs, rfl, fa, k1, hz, k2⟩ := h1
  obtain ⟨rfl, _⟩ := k2.ints h2
  exact cr_sum hc pins s σ H _ us Q I r ⟨a, is, rfl, SqL.of k1, q.int⟩
theorem call_max2D (hc : X.calm = true) : CallR X (.builtin "max") (rN W (biS .max2) false) := by
  intro pins s σ H xs us Q I r h
  obtain ⟨F, ds, z, hF, hd, hg, q⟩ := h
  obtain ⟨d, e, rfl, hg⟩ := bi2 (by decide) hg
  obtain ⟨v, w, rfl, h1, h2⟩ := hd.two
  replace hg : max2S d e = some z := hg
  unfold max2S at hg
  split at hg <;> cases hg
  simp only [Rep] at h1 h2
  subst h1 h2
  exact call_max2 hc pins s σ H _ us Q I r ⟨_, _, rfl, q.int⟩
theorem call_min2D (hc : X.calm = true) : CallR X (.builtin "min") (rN W (biS .min2) false) := by
  intro pins s σ H xs us Q I r h
  obtain ⟨F, ds, z, hF, hd, hg, q⟩ := h
  obtain ⟨d, e, rfl, hg⟩ := bi2 (by decide) hg
  obtain ⟨v, w, rfl, h1, h2⟩ := hd.two
  replace hg : min2S d e = some z := hg
  unfold min2S at hg
  split at hg <;> cases hg
  simp only [Rep] at h1 h2
  subst h1 h2
  exact call_min2 hc pins s σ H _ us Q I r ⟨_, _, rfl, q.int⟩
theorem call_all1 (hc : X.calm = true) : CallR X (.builtin "all") (rN W (biS .all) false) := by
  intro pins s σ H xs us Q I r h
  obtain ⟨F, ds, z, hF, hd, hg, q⟩ := h
  obtain ⟨d, rfl, hg⟩ := bi1 (by decide) hg
  replace hg : allS d = some z := hg
  obtain ⟨v, rfl, h1⟩ := hd.one
  cases d <;> simp only [allS] at hg <;> first | (cases hg; done) | skip
  obtain ⟨is, h2, rfl⟩ := Option.map_eq_some_iff.mp hg
  simp only [Rep] at h1
  obtain ⟨a, vs, rfl, fa, k1, hz, k2⟩ := h1
  obtain rfl := k2.bools h2
  exact cr_all hc pins s σ H _ us Q I r ⟨a, is, rfl, SqL.of k1, q.bl⟩
theorem call_any1 (hc : X.calm = true) : CallR X (.builtin "any") (rN W (biS .any) false) := by
  intro pins s σ H xs us Q I r h
  obtain ⟨F, ds, z, hF, hd, hg, q⟩ := h
  obtain ⟨d, rfl, hg⟩ := bi1 (by decide) hg
  replace hg : anyS d = some z := hg
  obtain ⟨v, rfl, h1⟩ := hd.one
  cases d <;> simp only [anyS] at hg <;> first | (cases hg; done) | skip
  obtain ⟨is, h2, rfl⟩ := Option.map_eq_some_iff.mp hg
  simp only [Rep] at h1
  obtain ⟨a, vs, rfl, fa, k1, hz, k2⟩ := h1
  obtain rfl := k2.bools h2
  exact cr_any hc pins s σ H _ us Q I r ⟨a, is, rfl, SqL.of k1, q.bl⟩
theorem call_int1D : CallR X (.type "int") (rN W (biS .int) false) := by
  intro pins s σ H xs us Q I r h
  obtain ⟨F, ds, z, hF, hd, hg, q⟩ := h
  obtain ⟨d, rfl, hg⟩ := bi1 (by decide) hg
  replace hg : intS d = some z := hg
  obtain ⟨v, rfl, h1⟩ := hd.one
  cases d <;> simp only [intS] at hg <;> cases hg
  simp only [Rep] at h1
  subst h1
  exact call_int1 pins s σ H _ us Q I r (.inl ⟨_, rfl, q.int⟩)
theorem call_abs1 : CallR X (.builtin "abs") (rN W (biS .abs) false) := by
  intro pins s σ H xs us Q I r h
  obtain ⟨F, ds, z, hF, hd, hg, q⟩ := h
  obtain ⟨d, rfl, hg⟩ := bi1 (by decide) hg
  replace hg : absS d = some z := hg
  obtain ⟨v, rfl, h1⟩ := hd.one
  cases d <;> simp only [absS] at hg <;> cases hg
  simp only [Rep] at h1
  subst h1
  exact call_abs pins s σ H _ us Q I r ⟨_, rfl, q.int⟩
theorem call_repr1 (hK : W.K = X.K) (hG : X.A.guards = some []) (hu : X.A.units + 65 < cLine) : CallR X (.builtin "repr") (rN W (biS .repr) false) := by
  intro pins s σ H xs us Q I r h
  obtain ⟨F, ds, z, hF, hd, hg, q⟩ := h
  obtain ⟨d, rfl, hg⟩ := bi1 (by decide) hg
  replace hg : reprS d = some z := hg
  obtain ⟨v, rfl, h1⟩ := hd.one
  obtain ⟨cs, h2, rfl⟩ := Option.map_eq_some_iff.mp hg
  unfold shownOf at h2
  split at h2
  · rename_i p ep
    split at h2
    · rename_i k
      cases h2
      obtain ⟨k0, k3⟩ := Bool.and_eq_true_iff.mp k
      obtain ⟨k1, k2⟩ := Bool.and_eq_true_iff.mp k0
      have k2 := of_decide_eq_true k2
      have k3 := of_decide_eq_true k3
      rw [LINE_eq] at k3
      obtain ⟨a1, a2, a3, a4, a5⟩ := shw_ok ep k1
      have hsz := Nat.le_trans a2 k3
      obtain ⟨p', ep', dp, _, _⟩ := h1.dat a5
      rw [ep] at ep'
      cases ep'
      obtain ⟨u, rfl, ru⟩ := vals1 r
      have fin : Q (.str p.shown) H := by
        have := q.str (cs := p.shown.cps.toList) (by rw [Array.length_toList]; exact hsz)
        exact this
      rw [hK] at dp
      have done : ∀ t s', Inv X pins σ H s' → EP X pins σ Q (.str p.shown t) s' := fun t s' I' => ⟨.str p.shown, H, I', ⟨t, rfl⟩, fin⟩
      obtain ⟨as, rd⟩ := Dp.reads I p v u dp ru
      cases rd with
      | none => exact P.repr_of_none (done _ _ (I.tok _))
      | bool b => exact P.repr_of_bool (done _ _ (I.tok _))
      | int i t =>
        refine P.repr_of_int ?_ (done _ _ (I.tok _))
        simpa only [PyData.showable, decide_eq_true_eq] using a1
      | str x t => exact P.repr_of_str (done _ _ (I.tok _)) hsz
      | list h1 h2 h3 h4 => exact repr_of_reads' (.list h1 h2 h3 h4) a1 (PyData.noDict_hsm (PyData.hasDict_of_canLay _ a3)) hG (by rw [a4]; omega) (fun _ _ e => e) (fun h' t tk hk => done _ _ (I.kept hk)) hsz
      | tuple h1 h2 h3 h4 => exact repr_of_reads' (.tuple h1 h2 h3 h4) a1 (PyData.noDict_hsm (PyData.hasDict_of_canLay _ a3)) hG (by rw [a4]; omega) (fun _ _ e => e) (fun h' t tk hk => done _ _ (I.kept hk)) hsz
      | dict h1 h2 h3 h4 h5 => simp [PyData.canLay0] at a3
    · cases h2
  · cases h2
theorem mt_join1 (hK : W.K = X.K) : MtR X "str.join" (fun x xs H Q => ∃ F d ds z, (∀ a, F a → trk H a) ∧ Rep W H F d x ∧ Reps W H F ds xs ∧ mtS .join d ds = some z ∧ Res W false F H z Q) := by
  intro pins s σ H x xs v us Q I rx r h
  obtain ⟨F, d, ds, z, hF, hx, hd, hg, q⟩ := h
  rcases ds with _ | ⟨d2, _ | ⟨_, _⟩⟩
  · cases hg
  rotate_left
  · cases hg
  replace hg : joinS d d2 = some z := hg
  obtain ⟨w, rfl, h1⟩ := hd.one
  unfold joinS at hg
  split at hg <;> first | (cases hg; done) | skip
  obtain ⟨ss, h2, hg⟩ := Option.bind_eq_some_iff.mp hg
  split at hg
  · rename_i k
    cases hg
    have k := of_decide_eq_true k
    simp only [Rep] at hx h1
    obtain ⟨rfl, _⟩ := hx
    obtain ⟨a, vs, rfl, fa, k1, hz, k2⟩ := h1
    obtain rfl := k2.strs h2
    rename_i sep _ _ _
    have k' : ((ss.map strV).map (·.length)).sum + (ss.map strV).length * (strV sep).length ≤ 16777216 := by
      rw [List.map_map, List.length_map, strV_length]
      have : (Str.length ∘ strV) = fun c : List Nat => c.length := by
        funext c
        exact strV_length c
      show (ss.map (Str.length ∘ strV)).sum + _ ≤ _
      rw [this]
      exact k
    refine mt_join pins s σ H _ _ v us Q I rx r ⟨strV sep, a, ss.map strV, rfl, rfl, .inl (SqL.of k1), k', ?_⟩
    rw [joinL_join]
    refine q.str ?_
    have e := StrLaws.join_length_le (strV sep) (ss.map strV)
    rw [joinL_str, strV_length] at e
    rw [sizeLine_eq]
    exact Nat.le_trans e k'
  · cases hg
end
end PyI

set_option Elab.async false
set_option linter.all false
set_option maxRecDepth 100000
namespace PyI
open PySem PySem.Spec PyProof.Rows L2 LamX
mutual
def Ex.mods : Ex → List Nat
  | .cst _ | .bor _ => []
  | .var i => [i]
  | .bin _ a b | .and_ a b | .or_ a b | .cmp _ a b | .idx a b => a.mods ++ b.mods
  | .neg a | .not_ a | .rev a | .isi a _ | .fld a _ | .caught a => a.mods
  | .chn _ _ a b c | .ite a b c => a.mods ++ b.mods ++ c.mods
  | .tup es | .lst es | .bi _ es => es.mods
  | .dct _ kv => kv.mods
  | .call _ es => es.mods
  | .mt _ a es => a.mods ++ es.mods
  | .pm _ p es => p.root :: es.mods
  | .slc a lo hi => a.mods ++ lo.mods ++ hi.mods
  | .lc t it cs e => it.mods ++ tgSlots t ++ cs.mods ++ e.mods
  | .lc2 t it t' it' cs e => it.mods ++ tgSlots t ++ it'.mods ++ tgSlots t' ++ cs.mods ++ e.mods
  | .dc _ t it cs k v => it.mods ++ tgSlots t ++ cs.mods ++ k.mods ++ v.mods
def Exs.mods : Exs → List Nat
  | .nil => []
  | .cons e es => e.mods ++ es.mods
def Kv.mods : Kv → List Nat
  | .nil => []
  | .cons k v r => k.mods ++ v.mods ++ r.mods
def As.mods : As → List Nat
  | .nil => []
  | .val e r => e.mods ++ r.mods
  | .io p r => p.root :: r.mods
def It.mods : It → List Nat
  | .over e | .enu e | .items e | .vals e | .rng1 e => e.mods
  | .rng2 a b | .zip a b => a.mods ++ b.mods
  | .rng3 a b c => a.mods ++ b.mods ++ c.mods
end
def sl (l : List Nat) : Slots := fun i => i ∈ l
theorem mem_sl {l : List Nat} {i : Nat} : i ∈ sl l ↔ i ∈ l := Iff.rfl
/-- how an expression's value is had -/
def Ex.md (e : Ex) (o : Bool) : Md := if o then .ow else match e with
  | .bor p => .bo p.root
  | _ => .sh
def Exs.mds : Exs → Bool → List Md
  | .nil, _ => []
  | .cons e es, o => e.md o :: es.mds o
/-- the slot that is lent -/
def Ex.lent : Ex → Option Nat
  | .bor p => some p.root
  | _ => none
/-- what e lends is not touched by l -/
def Ex.off (e : Ex) (l : List Nat) : Bool := match e with
  | .bor p => !l.contains p.root
  | _ => true
def Exs.sep : Exs → Bool
  | .nil => true
  | .cons e es => e.off es.mods && es.sep
theorem Ex.off_bo {e : Ex} {l : List Nat} {o : Bool} (h : e.off l = true) : ∀ i, e.md o = .bo i → i ∉ sl l := by
  intro i hi hm
  unfold Ex.md at hi
  cases o with
  | true => cases hi
  | false =>
    cases e <;> simp only [Ex.off] at h hi <;> first | (cases hi; done) | skip
    rw [if_neg Bool.false_ne_true] at hi
    cases hi
    rw [mem_sl] at hm
    simp [hm] at h
theorem Ex.md_sh {e : Ex} (h : isBor e = false) : e.md false = .sh := by
  cases e <;> first | rfl | cases h
theorem Ex.md_ow {e : Ex} : e.md true = .ow := rfl
section
variable (W : Wd) (T : List (Addr × Str)) (Φ : Nat → Option Fn) (cf : CF) (XW : WX)
/-- the reading of an expression -/
def tE (e : Ex) (o : Bool) : TE := fun σ H Q => ∃ δ Ψ, Rel W T Ψ δ σ H ∧ Post W T XW (e.md o) (sl e.mods) Ψ H σ (ev Φ cf e o δ) Q
def tEs (es : Exs) (o : Bool) : TA := fun σ H Q => ∃ δ Ψ, Rel W T Ψ δ σ H ∧ PostL W T XW o (es.mds o) (sl es.mods) Ψ H σ (evs Φ cf es o δ) Q
/-- a test's end -/
def PostB (M : Slots) (Ψ : Own) (H : Hp) (σ : L2.St) (out : Out) (Q : Bool → Hp → Prop) : Prop := match out with
  | .ok d δ' => ∃ b, truth d = some b ∧ ∀ H' Ψ', Step M Ψ H Ψ' H' → Rel W T Ψ' δ' σ H' → Q b H'
  | .er x δ' => ∀ cls dd H' Ψ', Step M Ψ H Ψ' H' → Rel W T Ψ' δ' σ H' → ExV W x cls dd H' Ψ'.fs → XW cls dd σ H'
  | .bad => False
def tT (e : Ex) : TT := fun σ H Q => ∃ δ Ψ, Rel W T Ψ δ σ H ∧ PostB W T XW (sl e.mods) Ψ H σ (ev Φ cf e false δ) Q
end
section
variable {W : Wd} {T : List (Addr × Str)} {Φ : Nat → Option Fn} {cf : CF} {XW : WX} {X : Cx} {σ : L2.St} {Ψ Ψ1 Ψ2 : Own} {H H1 H2 : Hp} {δ δ1 : Env} {m : Md} {M M1 : Slots} {Q : VK}
theorem _root_.L2.PE.weak {a : Expr} {t t' : TE} (h : PE X a t) (k : ∀ σ H Q, t' σ H Q → t σ H Q) : PE X a t' := ⟨fun pins s σ H Q I q => h.run pins s σ H Q I (k σ H Q q)⟩
theorem _root_.L2.PT.weak {a : Expr} {t t' : TT} (h : PT X a t) (k : ∀ σ H Q, t' σ H Q → t σ H Q) : PT X a t' := ⟨fun pins s σ H Q I q => h.run pins s σ H Q I (k σ H Q q)⟩
theorem _root_.L2.PA.weak {a : List Expr} {t t' : TA} (h : PA X a t) (k : ∀ σ H Q, t' σ H Q → t σ H Q) : PA X a t' := ⟨fun pos pins s σ H Q I q => h.run pos pins s σ H Q I (k σ H Q q)⟩
/-- a part, then the rest -/
theorem tE.seq {e : Ex} {o : Bool} {f : D → Env → Out} {R : V → Hp → Prop} (r : Rel W T Ψ δ σ H) (hM : ∀ i ∈ sl e.mods, i ∈ M) (h : Post W T XW m M Ψ H σ ((ev Φ cf e o δ).then f) Q)
    (k : ∀ d δ1 v H1 Ψ1, Step (sl e.mods) Ψ H Ψ1 H1 → Rel W T Ψ1 δ1 σ H1 → RP W (e.md o) (sl e.mods) Ψ H Ψ1 H1 d v → Post W T XW m M Ψ1 H1 σ (f d δ1) Q → R v H1) : tE W T Φ cf XW e o σ H R :=
  ⟨δ, Ψ, r, Post.seq hM h k⟩
/-- told from where the run begins -/
theorem Post.here {d : D} (h : Post W T XW m M Ψ H σ (.ok d δ) Q) (r : Rel W T Ψ δ σ H) {v : V} (p : RP W m M Ψ H Ψ H d v) : Q v H := h v H Ψ Step.refl r p
/-- the addresses that all slots own, and the shared ones -/
def FA (Ψ : Own) : Addr → Prop := fun a => Ψ.fs a ∨ ∃ i, a ∈ Ψ.fo i
theorem Rel.fa (r : Rel W T Ψ δ σ H) : ∀ a, FA Ψ a → trk H a := by
  rintro a (h | ⟨i, h⟩)
  · exact r.fs a h
  · obtain ⟨o, e, n, _⟩ := r.fo_trk h
    exact ⟨o, e, n⟩
/-- where the parts of a value stand -/
def FB (b : Bool) (Ψ : Own) : Addr → Prop := if b then FA Ψ else Ψ.fs
theorem Rel.fb (r : Rel W T Ψ δ σ H) (b : Bool) : ∀ a, FB b Ψ a → trk H a := by
  cases b
  · exact r.fs
  · exact r.fa
theorem RP.rep {e : Ex} {d : D} {v : V} (p : RP W (e.md false) M Ψ H Ψ1 H1 d v) {b : Bool} (hb : isBor e = true → b = true) : Rep W H1 (FB b Ψ1) d v := by
  cases he : isBor e with
  | false =>
    rw [Ex.md_sh he] at p
    cases b
    · exact p
    · exact Rep.mono (fun a h => .inl h) p
  | true =>
    rw [hb he]
    cases e <;> first | (cases he; done) | skip
    exact Rep.mono (fun a h => h.imp id fun z => ⟨_, z⟩) p
theorem unbor {F G : Addr → Prop} {z : D} {v : V} {fr : Bool} (rn : fr = true → RN H H1 z v) (hk : (if fr then z.kids else z.imm) = true) (h : Rep W H1 F z v) (hG : ∀ a, ¬ trk H a → trk H1 a → G a) : Rep W H1 G z v := by
  cases fr with
  | false => exact h.imm hk
  | true =>
    have hk : z.kids = true := hk
    have rn := rn rfl
    cases z <;> simp only [D.kids] at hk <;> first | (cases hk; done) | skip
    all_goals simp only [Rep] at h ⊢
    · exact h
    · exact h
    · exact h
    · exact h
    · obtain ⟨a, vs, e, h1, hz, h2⟩ := h
      exact ⟨a, vs, e, h1, hz, h2.imm hk⟩
    · obtain ⟨a, vs, rfl, fa, h1, hz, h2⟩ := h
      obtain ⟨p, ws, e, hp, hp', _⟩ := rn
      cases e
      exact ⟨a, vs, rfl, hG a (not_trk hp) (trk_lst hp'), h1, hz, h2.imm hk⟩
    · obtain ⟨a, o, ws, rfl, fa, h1, h2, hz, h3⟩ := h
      obtain ⟨p, o', us, e, hp, hp', ho, _⟩ := rn
      cases e
      rw [Bool.and_eq_true] at hk
      exact ⟨a, o, ws, rfl, hG a (not_trk hp) (trk_of hp' ho.ntbl), h1, h2, hz, h3.imm hk.2⟩
    · exact h
/-- the end of an operation -/
theorem fin_res {z : D} {o fr b : Bool} {δ : Env} (r : Rel W T Ψ δ σ H) (hb : b = true → (if fr then z.kids else z.imm) = true) (h : Post W T XW (if o then .ow else .sh) M Ψ H σ (fin o fr z δ) Q) : Res W fr (FB b Ψ) H z Q := by
  intro v H' sm rep rn
  have g := Same.grow sm
  cases o with
  | false =>
    rw [fin_false] at h
    refine h v H' (Ψ.ext H H') g.step (r.same sm) ?_
    show Rep W H' (Ψ.ext H H').fs z v
    cases b with
    | false => exact rep
    | true => exact unbor rn (hb rfl) rep fun a h1 h2 => .inr ⟨h1, h2⟩
  | true =>
    have hk : (if fr = true then z.kids else z.imm) = true := by
      cases e : (if fr = true then z.kids else z.imm) with
      | true => rfl
      | false => unfold fin at h; rw [e] at h; exact h.elim
    have ef : fin true fr z δ = .ok z δ := by
      unfold fin
      rw [hk]
      rfl
    rw [ef] at h
    refine h v H' Ψ g.step0 (r.same0 sm) ?_
    show RP W .ow M Ψ H Ψ H' z v
    cases hi : z.imm with
    | true =>
      refine ⟨[], rep.tree hi, ⟨?_, ?_, ?_⟩, ?_⟩ <;> intro a ha
      · exact absurd ha List.not_mem_nil
      · exact absurd ha List.not_mem_nil
      · exact absurd ha List.not_mem_nil
      · exact absurd ha List.not_mem_nil
    | false =>
      cases fr with
      | false => rw [if_neg Bool.false_ne_true, hi] at hk; cases hk
      | true =>
        have hk : z.kids = true := hk
        have rn := rn rfl
        have pend : ∀ {p : Addr}, H p = none → trk H' p → Pend Ψ H' [p] ∧ ∀ a ∈ [p], ¬ trk H a ∨ ∃ j ∈ M, a ∈ Ψ.fo j := fun {p} hp ht => by
          refine ⟨⟨fun a ha => ?_, fun a ha hf => ?_, fun a ha i hi => ?_⟩, fun a ha => ?_⟩
          · rw [List.mem_singleton.mp ha]; exact ht
          · rw [List.mem_singleton.mp ha] at hf; exact not_trk hp (r.fs p hf)
          · rw [List.mem_singleton.mp ha] at hi
            obtain ⟨o, e, _⟩ := r.fo_trk hi
            rw [hp] at e; cases e
          · rw [List.mem_singleton.mp ha]; exact .inl (not_trk hp)
        cases z <;> simp only [D.kids] at hk <;> first | (cases hk; done) | skip
        all_goals first
          | (simp only [D.imm] at hi; first | (cases hi; done) | (rw [hk] at hi; cases hi; done))
          | skip
        · simp only [Rep] at rep
          obtain ⟨a, vs, rfl, fa, h1, hz, h2⟩ := rep
          obtain ⟨p, ws, e, hp, hp', _⟩ := rn
          cases e
          obtain ⟨q1, q2⟩ := pend hp (trk_lst hp')
          refine ⟨[a], ?_, q1, q2⟩
          simp only [Tree]
          exact ⟨a, vs, [], rfl, h1, hz, rfl, by simp, h2.trees hk⟩
        · simp only [Rep] at rep
          obtain ⟨a, o, ws, rfl, fa, h1, h2, hz, h3⟩ := rep
          obtain ⟨p, o', us, e, hp, hp', ho, _⟩ := rn
          cases e
          rw [Bool.and_eq_true] at hk
          obtain ⟨q1, q2⟩ := pend hp (trk_of hp' ho.ntbl)
          have h1' : H' a = some o := by
            rcases h1 with h1 | ⟨ob, h1⟩
            · exact h1
            · rw [hp'] at h1
              obtain ⟨_, _, _, rfl, _⟩ := ho
              cases h1
          refine ⟨[a], ?_, q1, q2⟩
          simp only [Tree]
          exact ⟨a, o, ws, [], rfl, h1', h2, hz, rfl, by simp, h3.trees hk.2⟩
end
end PyI

set_option Elab.async false
set_option linter.all false
set_option maxRecDepth 100000
namespace PyI
open PySem PySem.Spec PyProof.Rows L2 LamX
section
variable {W : Wd} {T : List (Addr × Str)} {Φ : Nat → Option Fn} {cf : CF} {XW : WX} {X : Cx} {σ : L2.St} {Ψ Ψ1 Ψ2 : Own} {H H1 H2 : Hp} {δ δ1 : Env} {m : Md} {M M1 : Slots} {Q : VK} {pos : Pos}
theorem pend_nil {Ψ : Own} {H : Hp} : Pend Ψ H [] := by
  refine ⟨?_, ?_, ?_⟩ <;> intro a ha <;> exact absurd ha List.not_mem_nil
theorem rp_imm {d : D} {v : V} {F : Addr → Prop} (hi : d.imm = true) (h : Rep W H1 F d v) : RP W m M Ψ H Ψ1 H1 d v := by
  cases m with
  | sh => exact h.imm hi
  | bo i => exact h.imm hi
  | ow => exact ⟨[], h.tree hi, pend_nil, fun a ha => absurd ha List.not_mem_nil⟩
/-- a value that stands always -/
def Fast (W : Wd) (d : D) (v : V) : Prop := ∀ H F, Rep W H F d v
theorem te_cst {d : D} {v : V} {o : Bool} (hi : d.imm = true) (hf : Fast W d v) (h : (tE W T Φ cf XW (.cst d) o) σ H Q) : Q v H := by
  obtain ⟨δ, Ψ, r, h⟩ := h
  exact Post.here (d := d) h r (rp_imm (F := fun _ => False) hi (hf _ _))
theorem pe_of_c {a : Expr} {d : D} {v : V} {o : Bool} (hi : d.imm = true) (hf : Fast W d v) (h : PE X a (tC v)) : PE X a (tE W T Φ cf XW (.cst d) o) := h.weak fun _ _ _ q => te_cst hi hf q
theorem fast_int (i : Int) : Fast W (.int i) (.int i) := fun _ _ => by simp only [Rep]
theorem fast_bl (i : Bool) : Fast W (.bl i) (.bl i) := fun _ _ => by simp only [Rep]
theorem fast_non : Fast W .non .non := fun _ _ => by simp only [Rep]
theorem fast_str {cs : List Nat} (h : cs.length ≤ sizeLine) : Fast W (.str cs) (.str (strV cs)) := fun _ _ => by simp only [Rep]; exact ⟨trivial, h⟩
theorem slot_set {δ : Env} {i j : Nat} {s : Option Sl} : slot (δ.set i s) j = if i = j then (if i < δ.length then s else none) else slot δ j := by
  unfold slot
  rw [List.getElem?_set]
  by_cases h : i = j
  · subst h
    rw [if_pos rfl, if_pos rfl]
    by_cases k : i < δ.length
    · rw [if_pos k, if_pos k]
    · rw [if_neg k, if_neg k]
  · rw [if_neg h, if_neg h]
theorem slot_lt {δ : Env} {i : Nat} {s : Sl} (h : slot δ i = some s) : i < δ.length := by
  unfold slot at h
  by_cases k : i < δ.length
  · exact k
  · rw [List.getElem?_eq_none (by omega)] at h; cases h
/-- an own variable is shared from now on -/
def Own.share (Ψ : Own) (i : Nat) : Own := ⟨fun a => Ψ.fs a ∨ a ∈ Ψ.fo i, fun j => if j = i then [] else Ψ.fo j⟩
/-- an own variable gives away what it has -/
def Own.drop (Ψ : Own) (i : Nat) : Own := ⟨Ψ.fs, fun j => if j = i then [] else Ψ.fo j⟩
theorem Rel.share {i : Nat} {d : D} (r : Rel W T Ψ δ σ H) (h : slot δ i = some (.ow d)) : Rel W T (Ψ.share i) (δ.set i (some (.sh d))) σ H := by
  have hl := slot_lt h
  refine ⟨by rw [List.length_set]; exact r.len, fun j e hj => ?_, fun j e hj => ?_, fun j hj => ?_, fun a ha => ?_, fun j a ha hs => ?_, fun j k a hne hj hk => ?_, r.tb⟩
  · rw [slot_set] at hj
    by_cases q : i = j
    · subst q
      rw [if_pos rfl, if_pos hl] at hj
      cases hj
      obtain ⟨v, e1, t⟩ := r.ow i d h
      exact ⟨v, e1, t.rep.mono fun a ha => .inr ha⟩
    · rw [if_neg q] at hj
      obtain ⟨v, e1, t⟩ := r.sh j e hj
      exact ⟨v, e1, t.mono fun a ha => .inl ha⟩
  · rw [slot_set] at hj
    by_cases q : i = j
    · subst q
      rw [if_pos rfl, if_pos hl] at hj
      cases hj
    · rw [if_neg q] at hj
      obtain ⟨v, e1, t⟩ := r.ow j e hj
      refine ⟨v, e1, ?_⟩
      show Tree W H e v (if j = i then [] else Ψ.fo j)
      rw [if_neg (Ne.symm q)]
      exact t
  · show (if j = i then [] else Ψ.fo j) = []
    by_cases q : j = i
    · rw [if_pos q]
    · rw [if_neg q]
      refine r.no j fun e he => hj e ?_
      rw [slot_set, if_neg (Ne.symm q)]
      exact he
  · rcases ha with ha | ha
    · exact r.fs a ha
    · obtain ⟨o, e, n, _⟩ := r.fo_trk ha
      exact ⟨o, e, n⟩
  · have ha' : a ∈ (if j = i then [] else Ψ.fo j) := ha
    by_cases q : j = i
    · rw [if_pos q] at ha'; exact absurd ha' List.not_mem_nil
    · rw [if_neg q] at ha'
      rcases hs with hs | hs
      · exact r.ns j a ha' hs
      · exact r.dj j i a q ha' hs
  · have hj' : a ∈ (if j = i then [] else Ψ.fo j) := hj
    have hk' : a ∈ (if k = i then [] else Ψ.fo k) := hk
    by_cases q : j = i
    · rw [if_pos q] at hj'; exact absurd hj' List.not_mem_nil
    · by_cases q2 : k = i
      · rw [if_pos q2] at hk'; exact absurd hk' List.not_mem_nil
      · rw [if_neg q] at hj'; rw [if_neg q2] at hk'; exact r.dj j k a hne hj' hk'
theorem step_share {i : Nat} (hm : i ∈ M) : Step M Ψ H (Ψ.share i) H := by
  refine ⟨fun _ _ h _ _ => h, fun _ h => h, fun _ _ h => h, fun _ _ _ h => h, fun _ h => .inl h, fun a h => ?_, fun j hj => ?_, fun j hj a ha => ?_⟩
  · exact h.imp id fun z => .inr ⟨i, hm, z⟩
  · show (if j = i then [] else Ψ.fo j) = Ψ.fo j
    rw [if_neg fun z => hj (by rw [z]; exact hm)]
  · have ha' : a ∈ (if j = i then [] else Ψ.fo j) := ha
    by_cases q : j = i
    · rw [if_pos q] at ha'; exact absurd ha' List.not_mem_nil
    · rw [if_neg q] at ha'; exact .inr ⟨j, hj, ha'⟩
theorem Rel.drop {i : Nat} {d : D} (r : Rel W T Ψ δ σ H) (h : slot δ i = some (.ow d)) : Rel W T (Ψ.drop i) (δ.set i none) σ H := by
  have hl := slot_lt h
  refine ⟨by rw [List.length_set]; exact r.len, fun j e hj => ?_, fun j e hj => ?_, fun j hj => ?_, r.fs, fun j a ha hs => ?_, fun j k a hne hj hk => ?_, r.tb⟩
  · rw [slot_set] at hj
    by_cases q : i = j
    · subst q
      rw [if_pos rfl, if_pos hl] at hj
      cases hj
    · rw [if_neg q] at hj
      exact r.sh j e hj
  · rw [slot_set] at hj
    by_cases q : i = j
    · subst q
      rw [if_pos rfl, if_pos hl] at hj
      cases hj
    · rw [if_neg q] at hj
      obtain ⟨v, e1, t⟩ := r.ow j e hj
      refine ⟨v, e1, ?_⟩
      show Tree W H e v (if j = i then [] else Ψ.fo j)
      rw [if_neg (Ne.symm q)]
      exact t
  · show (if j = i then [] else Ψ.fo j) = []
    by_cases q : j = i
    · rw [if_pos q]
    · rw [if_neg q]
      refine r.no j fun e he => hj e ?_
      rw [slot_set, if_neg (Ne.symm q)]
      exact he
  · have ha' : a ∈ (if j = i then [] else Ψ.fo j) := ha
    by_cases q : j = i
    · rw [if_pos q] at ha'; exact absurd ha' List.not_mem_nil
    · rw [if_neg q] at ha'
      exact r.ns j a ha' hs
  · have hj' : a ∈ (if j = i then [] else Ψ.fo j) := hj
    have hk' : a ∈ (if k = i then [] else Ψ.fo k) := hk
    by_cases q : j = i
    · rw [if_pos q] at hj'; exact absurd hj' List.not_mem_nil
    · by_cases q2 : k = i
      · rw [if_pos q2] at hk'; exact absurd hk' List.not_mem_nil
      · rw [if_neg q] at hj'; rw [if_neg q2] at hk'; exact r.dj j k a hne hj' hk'
theorem step_drop {i : Nat} (hm : i ∈ M) : Step M Ψ H (Ψ.drop i) H := by
  refine ⟨fun _ _ h _ _ => h, fun _ h => h, fun _ _ h => h, fun _ _ _ h => h, fun _ h => h, fun a h => .inl h, fun j hj => ?_, fun j hj a ha => ?_⟩
  · show (if j = i then [] else Ψ.fo j) = Ψ.fo j
    rw [if_neg fun z => hj (by rw [z]; exact hm)]
  · have ha' : a ∈ (if j = i then [] else Ψ.fo j) := ha
    by_cases q : j = i
    · rw [if_pos q] at ha'; exact absurd ha' List.not_mem_nil
    · rw [if_neg q] at ha'; exact .inr ⟨j, hj, ha'⟩
theorem te_var {i : Nat} {o : Bool} (h : (tE W T Φ cf XW (.var i) o) σ H Q) : tVar i σ H Q := by
  obtain ⟨δ, Ψ, r, h⟩ := h
  simp only [ev] at h
  cases e : slot δ i with
  | none => rw [e] at h; exact h.elim
  | some s =>
    cases s with
    | sh d =>
      rw [e] at h
      simp only at h
      obtain ⟨v, e1, rp⟩ := r.sh i d e
      refine ⟨v, e1, ?_⟩
      cases o with
      | false =>
        rw [fin_false] at h
        exact Post.here h r rp
      | true =>
        have hi : d.imm = true := by
          cases q : d.imm with
          | true => rfl
          | false => unfold fin at h; rw [if_neg Bool.false_ne_true, q] at h; exact h.elim
        have ef : fin true false d δ = .ok d δ := by unfold fin; rw [if_neg Bool.false_ne_true, hi]; rfl
        rw [ef] at h
        exact Post.here h r (rp_imm hi rp)
    | ow d =>
      rw [e] at h
      obtain ⟨v, e1, t⟩ := r.ow i d e
      refine ⟨v, e1, ?_⟩
      cases o with
      | false =>
        have h : Post W T XW .sh (sl [i]) Ψ H σ (.ok d (δ.set i (some (.sh d)))) Q := h
        exact h v H (Ψ.share i) (step_share (mem_sl.mpr List.mem_cons_self)) (r.share e) (t.rep.mono fun a ha => .inr ha)
      | true =>
        have h : Post W T XW .ow (sl [i]) Ψ H σ (.ok d (δ.set i none)) Q := h
        refine h v H (Ψ.drop i) (step_drop (mem_sl.mpr List.mem_cons_self)) (r.drop e) ⟨Ψ.fo i, t, ⟨fun a ha => ?_, fun a ha => r.ns i a ha, fun a ha j hj => ?_⟩, fun a ha => .inr ⟨i, mem_sl.mpr List.mem_cons_self, ha⟩⟩
        · obtain ⟨o, e2, n, _⟩ := r.fo_trk ha
          exact ⟨o, e2, n⟩
        · have hj' : a ∈ (if j = i then [] else Ψ.fo j) := hj
          by_cases q : j = i
          · rw [if_pos q] at hj'; exact absurd hj' List.not_mem_nil
          · rw [if_neg q] at hj'; exact r.dj j i a q hj' ha
theorem pe_varE {i : Nat} {x : Str} {o : Bool} (h : PE X (.Name x pos) (tVar i)) : PE X (.Name x pos) (tE W T Φ cf XW (.var i) o) := h.weak fun _ _ _ q => te_var q
theorem off_sl {e : Ex} {l : List Nat} (h : e.off l = true) : ∀ i, e.md false = .bo i → i ∉ sl l := Ex.off_bo h
theorem sub_l {a b : List Nat} : ∀ i ∈ sl a, i ∈ sl (a ++ b) := fun _ h => List.mem_append_left _ h
theorem sub_r {a b : List Nat} : ∀ i ∈ sl b, i ∈ sl (a ++ b) := fun _ h => List.mem_append_right _ h
theorem isBor_b {a b : Ex} : (isBor a = true → (isBor a || isBor b) = true) ∧ (isBor b = true → (isBor a || isBor b) = true) := by
  cases isBor a <;> cases isBor b <;> simp
theorem te_bin {op : BOp} {a b : Ex} {o : Bool} (ho : a.off b.mods = true) (h : (tE W T Φ cf XW (.bin op a b) o) σ H Q) : tOp (rB W (binS op) true) (tE W T Φ cf XW (a) false) (tE W T Φ cf XW (b) false) σ H Q := by
  obtain ⟨δ, Ψ, r, h⟩ := h
  simp only [ev] at h
  refine tE.seq r sub_l h fun x δ1 v H1 Ψ1 s1 r1 p1 h1 => ?_
  refine tE.seq r1 sub_r h1 fun y δ2 w H2 Ψ2 s2 r2 p2 h2 => ?_
  have p1' := RP.step r1 p1 s2 (off_sl ho)
  cases e : binS op x y with
  | none => rw [e] at h2; exact h2.elim
  | some z =>
    rw [e, opt_some] at h2
    have hk : (isBor a || isBor b) = true → z.kids = true := fun hb => by
      cases q : z.kids with
      | true => rfl
      | false => rw [hb, q] at h2; exact h2.elim
    have h2' : Post W T XW (if o then .ow else .sh) (sl (Ex.bin op a b).mods) Ψ2 H2 σ (fin o true z δ2) Q := by
      cases hb : (isBor a || isBor b) with
      | false => rw [hb] at h2; exact h2
      | true => rw [hb, hk hb] at h2; exact h2
    exact ⟨FB (isBor a || isBor b) Ψ2, x, y, z, r2.fb _, RP.rep (e := a) p1' (isBor_b (b := b)).1, RP.rep (e := b) p2 (isBor_b (a := a)).2, e, fin_res r2 (fun hb => hk hb) h2'⟩
theorem pe_bin (hK : W.K = X.K) {op : BOp} {a b : Ex} {x y : Expr} {o : Bool} (ho : a.off b.mods = true) (ha : PE X x (tE W T Φ cf XW (a) false)) (hb : PE X y (tE W T Φ cf XW (b) false)) : PE X (.BinOp x (bOp op) y pos) (tE W T Φ cf XW (.bin op a b) o) :=
  (pe_op (op_binS hK op) ha hb).weak fun _ _ _ q => te_bin ho q
theorem pe_neg {a : Ex} {x : Expr} {o : Bool} (ha : PE X x (tE W T Φ cf XW (a) false)) : PE X (.UnaryOp .USub x pos) (tE W T Φ cf XW (.neg a) o) := by
  refine (pe_un un_neg ha).weak fun σ H Q h => ?_
  obtain ⟨δ, Ψ, r, h⟩ := h
  simp only [ev] at h
  refine tE.seq r (fun i hi => hi) h fun d δ1 v H1 Ψ1 s1 r1 p1 h1 => ?_
  have rp := RP.rep (e := a) p1 (b := true) (fun _ => rfl)
  cases d <;> first | (exact h1.elim) | skip
  simp only [Rep] at rp
  subst rp
  exact ⟨_, rfl, Post.here h1 r1 (rp_imm (F := fun _ => False) rfl (by simp only [Rep]))⟩
/-- a value's truth -/
theorem truth_ok {d : D} {v : V} {b : Bool} {F : Addr → Prop} (hK : W.K = X.K) (h : truth d = some b) (r : Rep W H F d v) : TruV X.K v H b := by
  cases d <;> simp only [truth] at h <;> cases h <;> simp only [Rep] at r
  · subst r; exact rfl
  · subst r; exact rfl
  · subst r; exact rfl
  · obtain ⟨rfl, hz⟩ := r
    rename_i cs
    refine ⟨by rw [strV_length]; exact hz, ?_⟩
    rw [strV_length]
    cases cs with
    | nil => rfl
    | cons c r => simp; omega
  · obtain ⟨a, vs, rfl, h1, hz, h2⟩ := r
    rw [hK] at h1
    refine .inr (.inl ⟨vs, h1, ?_⟩)
    have := h2.len
    rename_i xs
    cases xs <;> cases vs <;> simp_all
  · obtain ⟨a, vs, rfl, fa, h1, hz, h2⟩ := r
    refine .inl ⟨vs, SqL.of h1, ?_⟩
    have := h2.len
    rename_i xs
    cases xs <;> cases vs <;> simp_all
theorem pe_notE (hK : W.K = X.K) {a : Ex} {x : Expr} {o : Bool} (ha : PE X x (tE W T Φ cf XW (a) false)) : PE X (.UnaryOp .Not x pos) (tE W T Φ cf XW (.not_ a) o) := by
  refine (pe_notT ha).weak fun σ H Q h => ?_
  obtain ⟨δ, Ψ, r, h⟩ := h
  simp only [ev] at h
  refine tE.seq r (fun i hi => hi) h fun d δ1 v H1 Ψ1 s1 r1 p1 h1 => ?_
  cases e : truth d with
  | none => rw [e] at h1; exact h1.elim
  | some b =>
    rw [e] at h1
    exact ⟨b, truth_ok hK e (RP.rep (e := a) p1 (b := true) (fun _ => rfl)), Post.here h1 r1 (rp_imm (F := fun _ => False) rfl (by simp only [Rep]))⟩
theorem Post.m_eq {m' : Md} (e : m = m') {out : Out} (h : Post W T XW m M Ψ H σ out Q) : Post W T XW m' M Ψ H σ out Q := e ▸ h
/-- fewer slots -/
theorem Post.less {out : Out} (hM : ∀ i ∈ M1, i ∈ M) (h : Post W T XW m M Ψ H σ out Q) : Post W T XW m M1 Ψ H σ out Q := by
  cases out with
  | ok d δ' => exact fun v H' Ψ' s r p => h v H' Ψ' (s.mono hM) r (p.more hM)
  | er x δ' => exact fun cls dd H' Ψ' s r p => h cls dd H' Ψ' (s.mono hM) r p
  | bad => exact h
/-- the value goes on as it is -/
theorem fin_now {z : D} {o : Bool} {v : V} (r : Rel W T Ψ δ σ H) (h : Post W T XW (if o then .ow else .sh) M Ψ H σ (fin o false z δ) Q) (rp : Rep W H Ψ.fs z v) : Q v H :=
  (fin_res (b := false) (fr := false) r (fun z => by cases z) h).now rp fun z => by cases z
theorem pe_andE (hK : W.K = X.K) {a b : Ex} {x y : Expr} {rest : List Expr} {o : Bool} (ha' : isBor a = false) (hb' : isBor b = false) (ha : PE X x (tE W T Φ cf XW (a) false)) (hb : PE X (.BoolOp .And (y :: rest) pos) (tE W T Φ cf XW (b) o)) : PE X (.BoolOp .And (x :: y :: rest) pos) (tE W T Φ cf XW (.and_ a b) o) := by
  refine (pe_andT ha hb).weak fun σ H Q h => ?_
  obtain ⟨δ, Ψ, r, h⟩ := h
  simp only [ev] at h
  refine tE.seq r sub_l h fun d δ1 v H1 Ψ1 s1 r1 p1 h1 => ?_
  rw [Ex.md_sh ha'] at p1
  cases e : truth d with
  | none => rw [e] at h1; exact h1.elim
  | some k =>
    rw [e] at h1
    refine ⟨k, truth_ok hK e p1, ?_⟩
    cases k with
    | true =>
      rw [if_pos rfl]
      refine ⟨δ1, Ψ1, r1, Post.less sub_r (Post.m_eq ?_ h1)⟩
      cases o
      · rw [Ex.md_sh hb']; rfl
      · rfl
    | false =>
      rw [if_neg Bool.false_ne_true]
      exact fin_now r1 (Post.m_eq (by cases o <;> rfl) h1) p1
theorem pe_orE (hK : W.K = X.K) {a b : Ex} {x y : Expr} {rest : List Expr} {o : Bool} (ha' : isBor a = false) (hb' : isBor b = false) (ha : PE X x (tE W T Φ cf XW (a) false)) (hb : PE X (.BoolOp .Or (y :: rest) pos) (tE W T Φ cf XW (b) o)) : PE X (.BoolOp .Or (x :: y :: rest) pos) (tE W T Φ cf XW (.or_ a b) o) := by
  refine (pe_orT ha hb).weak fun σ H Q h => ?_
  obtain ⟨δ, Ψ, r, h⟩ := h
  simp only [ev] at h
  refine tE.seq r sub_l h fun d δ1 v H1 Ψ1 s1 r1 p1 h1 => ?_
  rw [Ex.md_sh ha'] at p1
  cases e : truth d with
  | none => rw [e] at h1; exact h1.elim
  | some k =>
    rw [e] at h1
    refine ⟨k, truth_ok hK e p1, ?_⟩
    cases k with
    | false =>
      rw [if_neg Bool.false_ne_true]
      refine ⟨δ1, Ψ1, r1, Post.less sub_r (Post.m_eq ?_ h1)⟩
      cases o
      · rw [Ex.md_sh hb']; rfl
      · rfl
    | true =>
      rw [if_pos rfl]
      exact fin_now r1 (Post.m_eq (by cases o <;> rfl) h1) p1
theorem te_cmp {op : COp} {a b : Ex} {o : Bool} (ho : a.off b.mods = true) (h : (tE W T Φ cf XW (.cmp op a b) o) σ H Q) : tOp (rCm W (cmpS op)) (tE W T Φ cf XW (a) false) (tE W T Φ cf XW (b) false) σ H Q := by
  obtain ⟨δ, Ψ, r, h⟩ := h
  simp only [ev] at h
  refine tE.seq r sub_l h fun x δ1 v H1 Ψ1 s1 r1 p1 h1 => ?_
  refine tE.seq r1 sub_r h1 fun y δ2 w H2 Ψ2 s2 r2 p2 h2 => ?_
  have p1' := RP.step r1 p1 s2 (off_sl ho)
  cases e : cmpS op x y with
  | none => rw [e] at h2; exact h2.elim
  | some z =>
    rw [e] at h2
    exact ⟨FB true Ψ2, x, y, z, r2.fb _, RP.rep (e := a) p1' (fun _ => rfl), RP.rep (e := b) p2 (fun _ => rfl), e, Post.here h2 r2 (rp_imm (F := fun _ => False) rfl (by simp only [Rep]))⟩
theorem pe_cmpE (hK : W.K = X.K) (hu : X.A.units + 65 < cLine) {op : COp} {a b : Ex} {x y : Expr} {o : Bool} (ho : a.off b.mods = true) (ha : PE X x (tE W T Φ cf XW (a) false)) (hb : PE X y (tE W T Φ cf XW (b) false)) (hm : behindInMarks (cOp op) y = false) : PE X (.Compare x [cOp op] [y] pos) (tE W T Φ cf XW (.cmp op a b) o) :=
  (pe_cmpR (op_cmpS hK hu op) ha hb hm).weak fun _ _ _ q => te_cmp ho q
theorem te_chn {op op' : COp} {a b c : Ex} {o : Bool} (ha' : isBor a = false) (hb' : isBor b = false) (h : (tE W T Φ cf XW (.chn op op' a b c) o) σ H Q) : tChain (rCm W (cmpS op)) (rCm W (cmpS op')) (tE W T Φ cf XW (a) false) (tE W T Φ cf XW (b) false) (tE W T Φ cf XW (c) false) σ H Q := by
  obtain ⟨δ, Ψ, r, h⟩ := h
  simp only [ev] at h
  refine tE.seq r (fun i hi => List.mem_append_left _ (List.mem_append_left _ hi)) h fun x δ1 v H1 Ψ1 s1 r1 p1 h1 => ?_
  refine tE.seq r1 (fun i hi => List.mem_append_left _ (List.mem_append_right _ hi)) h1 fun y δ2 w H2 Ψ2 s2 r2 p2 h2 => ?_
  have p1' := RP.step r1 p1 s2 (fun i hi => by rw [Ex.md_sh ha'] at hi; cases hi)
  cases e : cmpS op x y with
  | none => rw [e] at h2; exact h2.elim
  | some z =>
    rw [e] at h2
    refine ⟨FB true Ψ2, x, y, z, r2.fb _, RP.rep (e := a) p1' (fun _ => rfl), RP.rep (e := b) p2 (fun _ => rfl), e, z, rfl, ?_⟩
    cases z with
    | false =>
      rw [if_neg Bool.false_ne_true]
      exact Post.here h2 r2 (rp_imm (F := fun _ => False) rfl (by simp only [Rep]))
    | true =>
      rw [if_pos rfl]
      refine tE.seq r2 (fun i hi => List.mem_append_right _ hi) h2 fun z δ3 u H3 Ψ3 s3 r3 p3 h3 => ?_
      have p2' := RP.step r2 p2 s3 (fun i hi => by rw [Ex.md_sh hb'] at hi; cases hi)
      cases e3 : cmpS op' y z with
      | none => rw [e3] at h3; exact h3.elim
      | some k =>
        rw [e3] at h3
        exact ⟨FB true Ψ3, y, z, k, r3.fb _, RP.rep (e := b) p2' (fun _ => rfl), RP.rep (e := c) p3 (fun _ => rfl), e3, Post.here h3 r3 (rp_imm (F := fun _ => False) rfl (by simp only [Rep]))⟩
theorem pe_chnE (hK : W.K = X.K) (hu : X.A.units + 65 < cLine) {op op' : COp} {a b c : Ex} {x y z : Expr} {o : Bool} (ha' : isBor a = false) (hb' : isBor b = false) (ha : PE X x (tE W T Φ cf XW (a) false)) (hb : PE X y (tE W T Φ cf XW (b) false)) (hc : PE X z (tE W T Φ cf XW (c) false)) (hm : lastMarks [cOp op, cOp op'] [y, z] = false) :
    PE X (.Compare x [cOp op, cOp op'] [y, z] pos) (tE W T Φ cf XW (.chn op op' a b c) o) :=
  (pe_chain (op_cmpS hK hu op) (op_cmpS hK hu op') ha hb hc hm).weak fun _ _ _ q => te_chn ha' hb' q
end
end PyI

set_option Elab.async false
set_option linter.all false
set_option maxRecDepth 100000
namespace PyI
open PySem PySem.Spec PyProof.Rows L2 LamX
section
variable {W : Wd} {T : List (Addr × Str)} {Φ : Nat → Option Fn} {cf : CF} {XW : WX} {X : Cx} {σ : L2.St} {Ψ Ψ0 Ψ1 Ψ2 : Own} {H H0 H1 H2 : Hp} {δ δ1 : Env} {m m1 : Md} {ms ms1 : List Md} {M M1 : Slots} {Q : VK} {QL : List V → Hp → Prop} {pos : Pos} {o o1 : Bool}
/-- a part, then a row -/
theorem seqL {out : Out} {f : D → Env → OutL} {R : V → Hp → Prop} (s0 : Step M Ψ0 H0 Ψ H) (hM : ∀ i ∈ M1, i ∈ M) (h : PostL W T XW o ms M Ψ0 H0 σ (out.thenL f) QL)
    (k : ∀ d δ1 v H1 Ψ1, Step M1 Ψ H Ψ1 H1 → Rel W T Ψ1 δ1 σ H1 → RP W m1 M1 Ψ H Ψ1 H1 d v → PostL W T XW o ms M Ψ0 H0 σ (f d δ1) QL → R v H1) : Post W T XW m1 M1 Ψ H σ out R := by
  cases out with
  | ok d δ1 => exact fun v H1 Ψ1 s r p => k d δ1 v H1 Ψ1 s r p h
  | er x δ1 => exact fun cls dd H' Ψ' s r p => h cls dd H' Ψ' (s0.trans (s.mono hM)) r p
  | bad => exact h
/-- a row, then a row -/
theorem seqLL {out : OutL} {f : List D → Env → OutL} {R : List V → Hp → Prop} (s0 : Step M Ψ0 H0 Ψ H) (hM : ∀ i ∈ M1, i ∈ M) (h : PostL W T XW o ms M Ψ0 H0 σ (out.thenL f) QL)
    (k : ∀ ds δ1 vs H1 Ψ1, Step M1 Ψ H Ψ1 H1 → Rel W T Ψ1 δ1 σ H1 → RPL W o1 ms1 M1 Ψ H Ψ1 H1 ds vs → PostL W T XW o ms M Ψ0 H0 σ (f ds δ1) QL → R vs H1) : PostL W T XW o1 ms1 M1 Ψ H σ out R := by
  cases out with
  | ok d δ1 => exact fun v H1 Ψ1 s r p => k d δ1 v H1 Ψ1 s r p h
  | er x δ1 => exact fun cls dd H' Ψ' s r p => h cls dd H' Ψ' (s0.trans (s.mono hM)) r p
  | bad => exact h
/-- a row, then the rest -/
theorem seqLO {out : OutL} {f : List D → Env → Out} {R : List V → Hp → Prop} (s0 : Step M Ψ0 H0 Ψ H) (hM : ∀ i ∈ M1, i ∈ M) (h : Post W T XW m M Ψ0 H0 σ (out.then f) Q)
    (k : ∀ ds δ1 vs H1 Ψ1, Step M1 Ψ H Ψ1 H1 → Rel W T Ψ1 δ1 σ H1 → RPL W o1 ms1 M1 Ψ H Ψ1 H1 ds vs → Post W T XW m M Ψ0 H0 σ (f ds δ1) Q → R vs H1) : PostL W T XW o1 ms1 M1 Ψ H σ out R := by
  cases out with
  | ok d δ1 => exact fun v H1 Ψ1 s r p => k d δ1 v H1 Ψ1 s r p h
  | er x δ1 => exact fun cls dd H' Ψ' s r p => h cls dd H' Ψ' (s0.trans (s.mono hM)) r p
  | bad => exact h
theorem RPs.step (r : Rel W T Ψ1 δ σ H1) (s : Step M1 Ψ1 H1 Ψ2 H2) : ∀ {ms : List Md} {ds : List D} {vs : List V}, (∀ i, Md.bo i ∈ ms → i ∉ M1) → RPs W M Ψ H Ψ1 H1 ms ds vs → RPs W M Ψ H Ψ2 H2 ms ds vs
  | [], _, _, _, h => h
  | m :: ms, ds, vs, hb, h => by
    obtain ⟨d, ds', v, vs', e1, e2, p, q⟩ := h
    exact ⟨d, ds', v, vs', e1, e2, RP.step r p s fun i hi => hb i (by rw [hi]; exact List.mem_cons_self), RPs.step r s (fun i hi => hb i (List.mem_cons_of_mem _ hi)) q⟩
theorem RPs.shift (s : Step M Ψ H Ψ1 H1) : ∀ {ms : List Md} {ds : List D} {vs : List V}, RPs W M Ψ1 H1 Ψ2 H2 ms ds vs → RPs W M Ψ H Ψ2 H2 ms ds vs
  | [], _, _, h => h
  | m :: ms, ds, vs, h => by
    obtain ⟨d, ds', v, vs', e1, e2, p, q⟩ := h
    exact ⟨d, ds', v, vs', e1, e2, p.shift s, RPs.shift s q⟩
theorem RPs.more (hM : ∀ i ∈ M, i ∈ M1) : ∀ {ms : List Md} {ds : List D} {vs : List V}, RPs W M Ψ H Ψ1 H1 ms ds vs → RPs W M1 Ψ H Ψ1 H1 ms ds vs
  | [], _, _, h => h
  | m :: ms, ds, vs, h => by
    obtain ⟨d, ds', v, vs', e1, e2, p, q⟩ := h
    exact ⟨d, ds', v, vs', e1, e2, p.more hM, RPs.more hM q⟩
theorem Exs.hasBor_cons {e : Ex} {es : Exs} : (Exs.cons e es).hasBor = (isBor e || es.hasBor) := rfl
theorem RPs.reps {b : Bool} : ∀ {es : Exs} {ds : List D} {vs : List V}, (es.hasBor = true → b = true) → RPs W M Ψ H Ψ1 H1 (es.mds false) ds vs → Reps W H1 (FB b Ψ1) ds vs
  | .nil, ds, vs, _, h => by
    obtain ⟨rfl, rfl⟩ := h
    exact Reps.nil
  | .cons e es, ds, vs, hb, h => by
    obtain ⟨d, ds', v, vs', rfl, rfl, p, q⟩ := h
    refine Reps.cons (RP.rep (e := e) p fun he => hb (by rw [Exs.hasBor_cons, he]; rfl)) (RPs.reps (es := es) (fun he => hb ?_) q)
    rw [Exs.hasBor_cons, he]
    cases isBor e <;> rfl
theorem pa_nilE : PA X [] (tEs W T Φ cf XW .nil o) := pa_nil.weak fun σ H Q ⟨δ, Ψ, r, h⟩ => by
  refine h [] H Ψ Step.refl r ?_
  cases o with
  | false => exact ⟨rfl, rfl⟩
  | true => exact ⟨[], by simp only [Trees]; exact ⟨trivial, trivial⟩, pend_nil, fun a ha => absurd ha List.not_mem_nil⟩
theorem pa_consE {e : Ex} {es : Exs} {x : Expr} {xs : List Expr} (hoff : e.off es.mods = true) (ha : PE X x (tE W T Φ cf XW e o)) (hr : PA X xs (tEs W T Φ cf XW es o)) (hs : starEach (x :: xs) X.env = (false, eval x X.env) :: starEach xs X.env) :
    PA X (x :: xs) (tEs W T Φ cf XW (.cons e es) o) := (pa_cons ha hr hs).weak fun σ H Q ⟨δ, Ψ, r, h⟩ => by
  simp only [evs] at h
  refine ⟨δ, Ψ, r, seqL Step.refl sub_l h fun d δ1 v H1 Ψ1 s1 r1 p1 h1 => ?_⟩
  refine ⟨δ1, Ψ1, r1, seqLL (s1.mono sub_l) sub_r h1 fun ds δ2 vs H2 Ψ2 s2 r2 p2 h2 => ?_⟩
  refine h2 (v :: vs) H2 Ψ2 ((s1.mono sub_l).trans (s2.mono sub_r)) r2 ?_
  cases o with
  | false => exact ⟨d, ds, v, vs, rfl, rfl, (RP.step r1 p1 s2 (off_sl hoff)).more sub_l, (RPs.more sub_r p2).shift (s1.mono sub_l)⟩
  | true =>
    obtain ⟨F1, t1, q1, b1⟩ := p1
    obtain ⟨F2, t2, q2, b2⟩ := p2
    have q1' := q1.step s2
    refine ⟨F1 ++ F2, ?_, ⟨?_, ?_, ?_⟩, ?_⟩
    · simp only [Trees]
      refine ⟨v, vs, F1, F2, rfl, rfl, t1.stay (q1.stay s2), t2, fun a ha hb => ?_⟩
      rcases b2 a hb with z | ⟨j, _, z⟩
      · exact z (q1.trk a ha)
      · exact q1.no a ha j z
    · intro a ha
      rcases List.mem_append.mp ha with ha | ha
      · exact q1'.trk a ha
      · exact q2.trk a ha
    · intro a ha
      rcases List.mem_append.mp ha with ha | ha
      · exact q1'.ns a ha
      · exact q2.ns a ha
    · intro a ha
      rcases List.mem_append.mp ha with ha | ha
      · exact q1'.no a ha
      · exact q2.no a ha
    · intro a ha
      rcases List.mem_append.mp ha with ha | ha
      · exact (b1 a ha).imp id fun ⟨j, hj, z⟩ => ⟨j, sub_l j hj, z⟩
      · rcases b2 a ha with z | ⟨j, hj, z⟩
        · exact .inl fun q => z (s1.trk a q)
        · exact ((s1.mono sub_l).foM j (sub_r j hj) a z)
/-- a new thing of owned or shared parts -/
theorem own_new {p : Addr} {F : List Addr} {H' : Hp} {ob : HO} (r : Rel W T Ψ δ σ H) (hp : H p = none) (pe : Pend Ψ H F) : p ∉ F ∧ Pend Ψ (upd H p (.lst [])) F := by
  refine ⟨fun ha => ?_, ⟨fun a ha => ?_, pe.ns, pe.no⟩⟩
  · exact not_trk hp (pe.trk p ha)
  · obtain ⟨o, e, n⟩ := pe.trk a ha
    exact ⟨o, by rw [upd_ne (ne_of_none e hp)]; exact e, n⟩
theorem pe_tupE {es : Exs} {xs : List Expr} {x1 : Nat} (hb : es.hasBor = false) (h : PA X xs (tEs W T Φ cf XW es o)) : PE X (.Tuple xs x1 pos) (tE W T Φ cf XW (.tup es) o) := (pe_tup h).weak fun σ H Q ⟨δ, Ψ, r, h⟩ => by
  simp only [ev] at h
  refine ⟨δ, Ψ, r, seqLO Step.refl (fun i hi => hi) h fun ds δ1 vs H1 Ψ1 s1 r1 p1 h1 => ?_⟩
  cases e : okTup ds with
  | none => rw [e] at h1; exact h1.elim
  | some z =>
    rw [e, opt_some] at h1
    obtain ⟨rfl, hz⟩ := okTup_some e
    cases o with
    | false =>
      have rp : Reps W H1 Ψ1.fs ds vs := RPs.reps (b := false) (es := es) (fun z => by rw [hb] at z; cases z) p1
      refine ⟨by rw [← rp.len]; exact hz, fun p hp => ?_⟩
      have sm := same_new (o := .tup vs) hp
      refine h1 _ _ (Ψ1.ext H1 (upd H1 p (.tup vs))) (s1.trans (Same.grow sm).step) (r1.same sm) ?_
      show Rep W _ _ _ _
      simp only [Rep]
      exact ⟨p, vs, rfl, SqT.of upd_same, by rw [← rp.len]; exact hz, rp.stay ((Same.grow sm).stay _) fun a ha => .inl ha⟩
    | true =>
      obtain ⟨F, t, q, b⟩ := p1
      have hl : vs.length ≤ sizeLine := by rw [← (Trees.rep t).len]; exact hz
      refine ⟨hl, fun p hp => ?_⟩
      have sm := same_new (o := .tup vs) hp
      have g := Same.grow sm
      refine h1 _ _ Ψ1 (s1.trans g.step0) (r1.same0 sm) ⟨F, ?_, q.step (g.step0 (M := sl [])), b⟩
      simp only [Tree]
      exact ⟨p, vs, rfl, SqT.of upd_same, hl, t.stay (g.stay _)⟩
theorem pe_lstE {es : Exs} {xs : List Expr} (hb : es.hasBor = false) (h : PA X xs (tEs W T Φ cf XW es o)) : PE X (.List xs pos) (tE W T Φ cf XW (.lst es) o) := (pe_lst h).weak fun σ H Q ⟨δ, Ψ, r, h⟩ => by
  simp only [ev] at h
  refine ⟨δ, Ψ, r, seqLO Step.refl (fun i hi => hi) h fun ds δ1 vs H1 Ψ1 s1 r1 p1 h1 => ?_⟩
  cases e : okLst ds with
  | none => rw [e] at h1; exact h1.elim
  | some z =>
    rw [e, opt_some] at h1
    obtain ⟨rfl, hz⟩ := okLst_some e
    cases o with
    | false =>
      have rp : Reps W H1 Ψ1.fs ds vs := RPs.reps (b := false) (es := es) (fun z => by rw [hb] at z; cases z) p1
      refine ⟨by rw [← rp.len]; exact hz, fun p hp => ?_⟩
      have sm := same_new (o := .lst vs) hp
      refine h1 _ _ (Ψ1.ext H1 (upd H1 p (.lst vs))) (s1.trans (Same.grow sm).step) (r1.same sm) ?_
      show Rep W _ _ _ _
      simp only [Rep]
      exact ⟨p, vs, rfl, .inr ⟨not_trk hp, trk_lst upd_same⟩, upd_same, by rw [← rp.len]; exact hz, rp.stay ((Same.grow sm).stay _) fun a ha => .inl ha⟩
    | true =>
      obtain ⟨F, t, q, b⟩ := p1
      have hl : vs.length ≤ sizeLine := by rw [← (Trees.rep t).len]; exact hz
      refine ⟨hl, fun p hp => ?_⟩
      have sm := same_new (o := .lst vs) hp
      have g := Same.grow sm
      have q' := q.step (g.step0 (M := sl []) (Ψ := Ψ1))
      have hn : p ∉ F := fun ha => not_trk hp (q.trk p ha)
      refine h1 _ _ Ψ1 (s1.trans g.step0) (r1.same0 sm) ⟨p :: F, ?_, ⟨?_, ?_, ?_⟩, ?_⟩
      · simp only [Tree]
        exact ⟨p, vs, F, rfl, upd_same, hl, rfl, hn, t.stay (g.stay _)⟩
      · intro a ha
        rcases List.mem_cons.mp ha with rfl | ha
        · exact trk_lst upd_same
        · exact q'.trk a ha
      · intro a ha
        rcases List.mem_cons.mp ha with rfl | ha
        · exact fun z => not_trk hp (r1.fs a z)
        · exact q'.ns a ha
      · intro a ha i hi
        rcases List.mem_cons.mp ha with rfl | ha
        · obtain ⟨o, e, _⟩ := r1.fo_trk hi
          rw [hp] at e; cases e
        · exact q'.no a ha i hi
      · intro a ha
        rcases List.mem_cons.mp ha with rfl | ha
        · exact .inl fun z => not_trk hp (s1.trk a z)
        · exact b a ha
theorem pe_idxE (hK : W.K = X.K) (hu : X.A.units + 1 < cLine) {a b : Ex} {x y : Expr} (ho : a.off b.mods = true) (hbb : isBor b = false) (hs : PlainIx y) (ha : PE X x (tE W T Φ cf XW a false)) (hb : PE X y (tE W T Φ cf XW b false)) : PE X (.Subscript x y pos) (tE W T Φ cf XW (.idx a b) o) :=
  (pe_ix (ix_D hK hu) ha hb hs).weak fun σ H Q ⟨δ, Ψ, r, h⟩ => by
  simp only [ev] at h
  refine tE.seq r sub_l h fun x δ1 v H1 Ψ1 s1 r1 p1 h1 => ?_
  refine tE.seq r1 sub_r h1 fun y δ2 w H2 Ψ2 s2 r2 p2 h2 => ?_
  have p1' := RP.step r1 p1 s2 (off_sl ho)
  cases e : idxS x y with
  | none => rw [e] at h2; exact h2.elim
  | some z =>
    rw [e, opt_some] at h2
    refine ⟨FB (isBor a) Ψ2, x, y, z, r2.fb _, RP.rep (e := a) p1' id, RP.rep (e := b) p2 (fun q => by rw [hbb] at q; cases q), e, fun v hv => ?_⟩
    cases ha : isBor a with
    | false =>
      rw [ha] at h2 hv
      exact fin_now (o := o) r2 h2 hv
    | true =>
      cases hi : z.imm with
      | false => rw [ha, hi] at h2; exact h2.elim
      | true =>
        rw [ha, hi] at h2
        exact fin_now (o := o) r2 h2 (hv.imm hi)
/-- an end of a slice -/
theorem endOf_nil {l : List D} {x : Option Int} (h : l = []) (e : endOf l = some x) : x = none := by subst h; cases e; rfl
def tPs (W : Wd) (T : List (Addr × Str)) (Φ : Nat → Option Fn) (cf : CF) (XW : WX) : Exs → TO
  | .cons e _ => tPart (tE W T Φ cf XW e false)
  | .nil => tNoPart
theorem pe_bi (b : Bi) {es : Exs} {xs : List Expr} {t : (List V → Hp → VK → Prop)} (ht : t = rN W (biS b) b.fresh) : ∀ {te : TE}, (∀ σ H Q, tCB t (tEs W T Φ cf XW es false) σ H Q → te σ H Q) → ∀ σ H Q, tE W T Φ cf XW (.bi b es) o σ H Q → te σ H Q := by
  intro te k σ H Q h
  refine k σ H Q ?_
  obtain ⟨δ, Ψ, r, h⟩ := h
  simp only [ev] at h
  refine ⟨δ, Ψ, r, seqLO Step.refl (fun i hi => hi) h fun ds δ1 vs H1 Ψ1 s1 r1 p1 h1 => ?_⟩
  have h1 := Post.shift s1 h1
  cases e : biS b ds with
  | none => rw [e] at h1; exact h1.elim
  | some z =>
    rw [e, opt_some] at h1
    rw [ht]
    have hk : es.hasBor = true → (if b.fresh then z.kids else z.imm) = true := fun hb => by
      cases q : (if b.fresh then z.kids else z.imm) with
      | true => rfl
      | false => rw [hb, q] at h1; exact h1.elim
    have h1' : Post W T XW (if o then .ow else .sh) (sl (Ex.bi b es).mods) Ψ1 H1 σ (fin o b.fresh z δ1) Q := by
      cases hb : es.hasBor with
      | false => rw [hb] at h1; exact h1
      | true => rw [hb, hk hb] at h1; exact h1
    exact ⟨FB es.hasBor Ψ1, ds, z, r1.fb _, RPs.reps (es := es) id p1, e, fin_res r1 hk h1'⟩
end
end PyI

set_option Elab.async false
set_option linter.all false
set_option maxRecDepth 100000
namespace PyI
open PySem PySem.Spec PyProof.Rows L2 LamX
theorem immAll_reverse : ∀ xs : List D, immAll xs = true → immAll xs.reverse = true := by
  have app : ∀ xs ys : List D, immAll xs = true → immAll ys = true → immAll (xs ++ ys) = true := by
    intro xs
    induction xs with
    | nil => intro ys _ h; exact h
    | cons x xs ih =>
      intro ys h1 h2
      simp only [immAll, Bool.and_eq_true] at h1
      simp only [List.cons_append, immAll, h1.1, ih ys h1.2 h2, Bool.and_self]
  intro xs
  induction xs with
  | nil => intro _; rfl
  | cons x xs ih =>
    intro h
    simp only [immAll, Bool.and_eq_true] at h
    rw [List.reverse_cons]
    exact app _ _ (ih h.2) (by simp only [immAll, h.1, Bool.and_self])
theorem OutL.then_assoc (out : Out) (f : D → Env → OutL) (g : List D → Env → Out) : (out.thenL f).then g = out.then fun d δ => (f d δ).then g := by
  cases out <;> rfl
section
variable {W : Wd} {T : List (Addr × Str)} {Φ : Nat → Option Fn} {cf : CF} {XW : WX} {X : Cx} {σ : L2.St} {Ψ Ψ0 Ψ1 Ψ2 : Own} {H H0 H1 H2 : Hp} {δ δ1 : Env} {m m1 : Md} {ms ms1 : List Md} {M M1 : Slots} {Q : VK} {QL : List V → Hp → Prop} {pos p2 p1 p3 apos : Pos} {o o1 : Bool}
/-- none, or one that lends nothing -/
def Exs.part : Exs → Bool
  | .nil => true
  | .cons e .nil => !isBor e
  | _ => false
theorem tPs.seq {es : Exs} (hp : es.part = true) {f : List D → Env → Out} {R : Option Int → Hp → Prop} (r : Rel W T Ψ δ σ H) (hM : ∀ i ∈ sl es.mods, i ∈ M) (h : Post W T XW m M Ψ H σ ((evs Φ cf es false δ).then f) Q)
    (k : ∀ l δ1 H1 Ψ1, Step (sl es.mods) Ψ H Ψ1 H1 → Rel W T Ψ1 δ1 σ H1 → Post W T XW m M Ψ1 H1 σ (f l δ1) Q → ∃ x, endOf l = some x ∧ R x H1) : tPs W T Φ cf XW es σ H R := by
  cases es with
  | nil =>
    simp only [evs, OutL.then_ok] at h
    obtain ⟨x, e, q⟩ := k [] δ H Ψ Step.refl r h
    cases e
    exact q
  | cons e es =>
    cases es with
    | cons _ _ => cases hp
    | nil =>
      simp only [evs, OutL.then_assoc, OutL.thenL_ok, OutL.then_ok] at h
      have hb : isBor e = false := by
        have hp : (!isBor e) = true := hp
        cases q : isBor e with
        | false => rfl
        | true => rw [q] at hp; cases hp
      have hm : ∀ i ∈ sl e.mods, i ∈ sl (Exs.cons e .nil).mods := sub_l
      refine tE.seq r (fun i hi => hM i (hm i hi)) h fun d δ1 v H1 Ψ1 s1 r1 p1 h1 => ?_
      obtain ⟨x, e1, q⟩ := k [d] δ1 H1 Ψ1 (s1.mono hm) r1 h1
      have rp := RP.rep (e := e) p1 (b := true) (fun _ => rfl)
      cases d <;> first | (cases e1; done) | skip
      cases e1
      simp only [Rep] at rp
      subst rp
      exact ⟨_, rfl, q⟩
theorem pe_slcE (hK : W.K = X.K) {a : Ex} {lo hi : Exs} {x : Expr} {xl xh : Option Expr} (ho : a.off (lo.mods ++ hi.mods) = true) (hl : lo.part = true) (hh : hi.part = true) (ha : PE X x (tE W T Φ cf XW a false)) (h1 : PO X xl (tPs W T Φ cf XW lo)) (h2 : PO X xh (tPs W T Φ cf XW hi)) :
    PE X (.Subscript x (.Slice xl xh none p2) pos) (tE W T Φ cf XW (.slc a lo hi) o) := (pe_slice (sl_D hK) ha h1 h2).weak fun σ H Q ⟨δ, Ψ, r, h⟩ => by
  simp only [ev] at h
  refine tE.seq r (fun i hi => List.mem_append_left _ (List.mem_append_left _ hi)) h fun d δ1 v H1 Ψ1 s1 r1 p1 h1 => ?_
  refine tPs.seq hl r1 (fun i hi => List.mem_append_left _ (List.mem_append_right _ hi)) h1 fun l δ2 H2 Ψ2 s2 r2 h2 => ?_
  have p1 := RP.step r1 p1 s2 (fun i hi hm => Ex.off_bo ho i hi (List.mem_append_left _ hm))
  cases el : endOf l with
  | none => rw [el] at h2; exact h2.elim
  | some lo' =>
    rw [el] at h2
    refine ⟨lo', rfl, ?_⟩
    refine tPs.seq hh r2 (fun i hi => List.mem_append_right _ hi) h2 fun l2 δ3 H3 Ψ3 s3 r3 h3 => ?_
    have p1 := RP.step r2 p1 s3 (fun i hi hm => Ex.off_bo ho i hi (List.mem_append_right _ hm))
    cases eh : endOf l2 with
    | none => rw [eh] at h3; exact h3.elim
    | some hi' =>
      rw [eh] at h3
      refine ⟨hi', rfl, ?_⟩
      simp only at h3
      cases e : slcS d lo' hi' with
      | none => rw [e] at h3; exact h3.elim
      | some z =>
        rw [e, opt_some] at h3
        have hk : isBor a = true → z.kids = true := fun hb => by
          cases q : z.kids with
          | true => rfl
          | false => rw [hb, q] at h3; exact h3.elim
        have h3' : Post W T XW (if o then .ow else .sh) (sl (Ex.slc a lo hi).mods) Ψ3 H3 σ (fin o true z δ3) Q := by
          refine Post.m_eq (by cases o <;> rfl) (m := (Ex.slc a lo hi).md o) ?_
          cases hb : isBor a with
          | false => rw [hb] at h3; exact h3
          | true => rw [hb, hk hb] at h3; exact h3
        exact ⟨FB (isBor a) Ψ3, d, z, r3.fb _, RP.rep (e := a) p1 id, e, fin_res r3 hk h3'⟩
end
end PyI

set_option Elab.async false
set_option linter.all false
set_option maxRecDepth 100000
namespace PyI
open PySem PySem.Spec PyProof.Rows L2 LamX
theorem _root_.L2.PW.weak {X : Cx} {a : Expr} {t t' : TT} (h : PW X a t) (k : ∀ σ H Q, t' σ H Q → t σ H Q) : PW X a t' := ⟨fun whole pins s σ H Q I q => h.run whole pins s σ H Q I (k σ H Q q)⟩
/-- the built-in types' names -/
def Ty.nm : Ty → String
  | .int => "int" | .bool => "bool" | .str => "str" | .tup => "tuple" | .lst => "list" | .dct => "dict" | .err _ => ""
def Ty.bi : Ty → Bool
  | .err _ => false
  | _ => true
def D.tn : D → String
  | .non => "NoneType" | .bl _ => "bool" | .int _ => "int" | .str _ => "str" | .tup _ => "tuple" | .lst _ | .scr _ => "list" | .dct _ _ => "dict" | .exc _ _ => ""
def D.isExc : D → Bool
  | .exc _ _ => true
  | _ => false
theorem kit_all : ∀ a ∈ ["NoneType", "bool", "int", "str", "tuple", "list", "dict"], ∀ b ∈ ["int", "bool", "str", "tuple", "list", "dict"], kitB a b = some (decide (a = b) || (decide (a = "bool") && decide (b = "int"))) := by decide +kernel
theorem D.tn_mem {d : D} (h : d.isExc = false) : d.tn ∈ ["NoneType", "bool", "int", "str", "tuple", "list", "dict"] := by
  cases d <;> first | (cases h; done) | simp [D.tn]
theorem Ty.nm_mem {t : Ty} (h : t.bi = true) : t.nm ∈ ["int", "bool", "str", "tuple", "list", "dict"] := by
  cases t <;> first | (cases h; done) | simp [Ty.nm]
theorem kit_tab (d : D) (t : Ty) (b : Bool) (ht : t.bi = true) (h : tyIs d t = some b) : d.isExc = false ∧ kitB d.tn t.nm = some b := by
  have he : d.isExc = false := by
    cases d <;> first | rfl | (cases t <;> first | (cases ht; done) | (cases h; done))
  refine ⟨he, ?_⟩
  rw [kit_all _ (D.tn_mem he) _ (Ty.nm_mem ht)]
  cases d <;> first | (cases he; done) | skip
  all_goals cases t <;> first | (cases ht; done) | (simp only [tyIs] at h; cases h; rfl)
/-- what is known of the own errors -/
structure Errs (K : PySem.W.Frag) (W : Wd) : Prop where
  xf : ∀ c C, W.ca c = some C → XfC K C
  ex : ∀ c C, W.ca c = some C → ExcC K C
  no : ∀ c C f, W.ca c = some C → exFld c = some f → PySem.W.findIn K (.ref C) (strV f) = some none
  kE : ∀ c e C C', W.ca c = some C → W.ca e = some C' → PySem.W.kitOne K (.ref C) (.ref C') = some (decide (c = e) || decide (e = 0))
  kN : ∀ e C, W.ca e = some C → PySem.W.kitOne K (.type "NoneType") (.ref C) = some false
section
variable {W : Wd} {T : List (Addr × Str)} {Φ : Nat → Option Fn} {cf : CF} {XW : WX} {X : Cx} {σ : L2.St} {Ψ Ψ0 Ψ1 Ψ2 : Own} {H H0 H1 H2 : Hp} {δ δ1 : Env} {m m1 : Md} {ms ms1 : List Md} {M M1 : Slots} {Q : VK} {QB : Bool → Hp → Prop} {QL : List V → Hp → Prop} {pos p2 p1 p3 apos : Pos} {o o1 : Bool}
theorem tE.mono {e : Ex} {R R' : VK} (k : ∀ v H, R v H → R' v H) (h : tE W T Φ cf XW e o σ H R) : tE W T Φ cf XW e o σ H R' := by
  obtain ⟨δ, Ψ, r, h⟩ := h
  refine ⟨δ, Ψ, r, ?_⟩
  cases q : ev Φ cf e o δ with
  | ok d δ' => rw [q] at h; exact fun v H' Ψ' s r p => k _ _ (h v H' Ψ' s r p)
  | er x δ' => rw [q] at h; exact h
  | bad => rw [q] at h; exact h.elim
theorem tT_tE {e : Ex} (hK : W.K = X.K) (h : tT W T Φ cf XW e σ H QB) : tE W T Φ cf XW e false σ H (fun v H' => ∃ k, TruV X.K v H' k ∧ QB k H') := by
  obtain ⟨δ, Ψ, r, h⟩ := h
  refine ⟨δ, Ψ, r, ?_⟩
  cases q : ev Φ cf e false δ with
  | ok d δ' =>
    rw [q] at h
    obtain ⟨b, e1, h⟩ := h
    exact fun v H' Ψ' s r p => ⟨b, truth_ok hK e1 (RP.rep (e := e) p (b := true) fun _ => rfl), h H' Ψ' s r⟩
  | er x δ' => rw [q] at h; exact h
  | bad => rw [q] at h; exact h.elim
/-- a test that is a value's truth -/
theorem pt_truE {e : Ex} {x : Expr} (hK : W.K = X.K) (ha : PE X x (tE W T Φ cf XW e false)) (he : ∀ whole, isTrue x X.env whole = (do let v ← whole; standAt x.pos; holding [v] (truthy v))) : PT X x (tT W T Φ cf XW e) :=
  (pt_truth ha he).weak fun _ _ _ q => tT_tE hK q
theorem tT_bl {e : Ex} (hb : ∀ δ d δ', ev Φ cf e false δ = .ok d δ' → ∃ b, d = .bl b) (h : tT W T Φ cf XW e σ H QB) : tE W T Φ cf XW e false σ H (fun v H' => ∃ k, v = .bl k ∧ QB k H') := by
  obtain ⟨δ, Ψ, r, h⟩ := h
  refine ⟨δ, Ψ, r, ?_⟩
  cases q : ev Φ cf e false δ with
  | ok d δ' =>
    obtain ⟨b', rfl⟩ := hb _ _ _ q
    rw [q] at h
    obtain ⟨b2, e1, h⟩ := h
    cases e1
    intro v H' Ψ' s r p
    have rp := RP.rep (e := e) p (b := true) fun _ => rfl
    simp only [Rep] at rp
    exact ⟨_, rp, h H' Ψ' s r⟩
  | er x δ' => rw [q] at h; exact h
  | bad => rw [q] at h; exact h.elim
theorem Out.then_ok_inv {out : Out} {f : D → Env → Out} {d : D} {δ' : Env} (h : out.then f = .ok d δ') : ∃ x δ1, out = .ok x δ1 ∧ f x δ1 = .ok d δ' := by
  cases out with
  | ok x δ1 => exact ⟨x, δ1, rfl, h⟩
  | er x δ1 => cases h
  | bad => cases h
theorem cmp_bl {op : COp} {a b : Ex} : ∀ δ d δ', ev Φ cf (.cmp op a b) false δ = .ok d δ' → ∃ b, d = .bl b := by
  intro δ d δ' h
  simp only [ev] at h
  obtain ⟨x, δ1, _, h⟩ := Out.then_ok_inv h
  obtain ⟨y, δ2, _, h⟩ := Out.then_ok_inv h
  cases e : cmpS op x y with
  | none => rw [e] at h; cases h
  | some k => rw [e] at h; cases h; exact ⟨k, rfl⟩
theorem chn_bl {op op' : COp} {a b c : Ex} : ∀ δ d δ', ev Φ cf (.chn op op' a b c) false δ = .ok d δ' → ∃ b, d = .bl b := by
  intro δ d δ' h
  simp only [ev] at h
  obtain ⟨x, δ1, _, h⟩ := Out.then_ok_inv h
  obtain ⟨y, δ2, _, h⟩ := Out.then_ok_inv h
  cases e : cmpS op x y with
  | none => rw [e] at h; cases h
  | some k =>
    rw [e] at h
    cases k with
    | false => cases h; exact ⟨_, rfl⟩
    | true =>
      obtain ⟨z, δ3, _, h⟩ := Out.then_ok_inv h
      cases e3 : cmpS op' y z with
      | none => rw [e3] at h; cases h
      | some k => rw [e3] at h; cases h; exact ⟨k, rfl⟩
theorem pt_cmpE (hK : W.K = X.K) (hu : X.A.units + 65 < cLine) {op : COp} {a b : Ex} {x y : Expr} (ho : a.off b.mods = true) (ha : PE X x (tE W T Φ cf XW a false)) (hb : PE X y (tE W T Φ cf XW b false)) (hm : behindInMarks (cOp op) y = false) : PT X (.Compare x [cOp op] [y] pos) (tT W T Φ cf XW (.cmp op a b)) :=
  (pt_cmpR (op_cmpS hK hu op) ha hb hm).weak fun _ _ _ q => te_cmp (o := false) ho (tT_bl cmp_bl q)
theorem pt_chnE (hK : W.K = X.K) (hu : X.A.units + 65 < cLine) {op op' : COp} {a b c : Ex} {x y z : Expr} (ha' : isBor a = false) (hb' : isBor b = false) (ha : PE X x (tE W T Φ cf XW a false)) (hb : PE X y (tE W T Φ cf XW b false)) (hc : PE X z (tE W T Φ cf XW c false)) (hm : lastMarks [cOp op, cOp op'] [y, z] = false) :
    PT X (.Compare x [cOp op, cOp op'] [y, z] pos) (tT W T Φ cf XW (.chn op op' a b c)) :=
  (pt_chain (op_cmpS hK hu op) (op_cmpS hK hu op') ha hb hc hm).weak fun _ _ _ q => te_chn (o := false) ha' hb' (tT_bl chn_bl q)
/-- a part, then a test -/
theorem seqB {out : Out} {f : D → Env → Out} {R : Bool → Hp → Prop} (hM : ∀ i ∈ M1, i ∈ M) (h : PostB W T XW M Ψ H σ (out.then f) QB) (hb : ∀ d δ1, out = .ok d δ1 → ∃ b, truth d = some b)
    (k : ∀ d b δ1 H1 Ψ1, truth d = some b → Step M1 Ψ H Ψ1 H1 → Rel W T Ψ1 δ1 σ H1 → PostB W T XW M Ψ1 H1 σ (f d δ1) QB → R b H1) : PostB W T XW M1 Ψ H σ out R := by
  cases out with
  | ok d δ1 =>
    obtain ⟨b, eb⟩ := hb _ _ rfl
    refine ⟨b, eb, fun H1 Ψ1 s r => k d b δ1 H1 Ψ1 eb s r ?_⟩
    simp only [Out.then_ok] at h
    cases q : f d δ1 with
    | ok d2 δ2 =>
      rw [q] at h
      obtain ⟨b2, e2, h⟩ := h
      exact ⟨b2, e2, fun H2 Ψ2 s2 r2 => h H2 Ψ2 ((s.mono hM).trans s2) r2⟩
    | er x δ2 =>
      rw [q] at h
      exact fun cls dd H' Ψ' s2 r p => h cls dd H' Ψ' ((s.mono hM).trans s2) r p
    | bad => rw [q] at h; exact h.elim
  | er x δ1 => exact fun cls dd H' Ψ' s r p => h cls dd H' Ψ' (s.mono hM) r p
  | bad => exact h
theorem PostB.less {out : Out} (hM : ∀ i ∈ M1, i ∈ M) (h : PostB W T XW M Ψ H σ out QB) : PostB W T XW M1 Ψ H σ out QB := by
  cases out with
  | ok d δ' => obtain ⟨b, e, h⟩ := h; exact ⟨b, e, fun H' Ψ' s r => h H' Ψ' (s.mono hM) r⟩
  | er x δ' => exact fun cls dd H' Ψ' s r p => h cls dd H' Ψ' (s.mono hM) r p
  | bad => exact h
theorem PostB.now {d : D} {b : Bool} (h : PostB W T XW M Ψ H σ (.ok d δ) QB) (e : truth d = some b) (r : Rel W T Ψ δ σ H) : QB b H := by
  obtain ⟨b', e', h⟩ := h
  rw [e] at e'
  cases e'
  exact h H Ψ Step.refl r
theorem pw_andE {a b : Ex} {x y : Expr} {rest : List Expr} (ha : PT X x (tT W T Φ cf XW a)) (hb : PW X (.BoolOp .And (y :: rest) pos) (tT W T Φ cf XW b)) : PW X (.BoolOp .And (x :: y :: rest) pos) (tT W T Φ cf XW (.and_ a b)) :=
  (pw_and ha hb).weak fun σ H Q ⟨δ, Ψ, r, h⟩ => by
  simp only [ev] at h
  refine ⟨δ, Ψ, r, seqB sub_l h (fun d δ1 e => ?_) fun d k δ1 H1 Ψ1 ek s1 r1 h1 => ?_⟩
  · rw [e] at h
    simp only [Out.then_ok] at h
    cases q : truth d with
    | none => rw [q] at h; exact h.elim
    | some b => exact ⟨b, rfl⟩
  · rw [ek] at h1
    cases k with
    | true =>
      rw [if_pos rfl]
      exact ⟨δ1, Ψ1, r1, PostB.less sub_r h1⟩
    | false =>
      rw [if_neg Bool.false_ne_true]
      exact PostB.now h1 ek r1
theorem pw_orE {a b : Ex} {x y : Expr} {rest : List Expr} (ha : PT X x (tT W T Φ cf XW a)) (hb : PW X (.BoolOp .Or (y :: rest) pos) (tT W T Φ cf XW b)) : PW X (.BoolOp .Or (x :: y :: rest) pos) (tT W T Φ cf XW (.or_ a b)) :=
  (pw_or ha hb).weak fun σ H Q ⟨δ, Ψ, r, h⟩ => by
  simp only [ev] at h
  refine ⟨δ, Ψ, r, seqB sub_l h (fun d δ1 e => ?_) fun d k δ1 H1 Ψ1 ek s1 r1 h1 => ?_⟩
  · rw [e] at h
    simp only [Out.then_ok] at h
    cases q : truth d with
    | none => rw [q] at h; exact h.elim
    | some b => exact ⟨b, rfl⟩
  · rw [ek] at h1
    cases k with
    | false =>
      rw [if_neg Bool.false_ne_true]
      exact ⟨δ1, Ψ1, r1, PostB.less sub_r h1⟩
    | true =>
      rw [if_pos rfl]
      exact PostB.now h1 ek r1
theorem pt_notE {a : Ex} {x : Expr} (ha : PT X x (tT W T Φ cf XW a)) : PT X (.UnaryOp .Not x pos) (tT W T Φ cf XW (.not_ a)) := (pt_not ha).weak fun σ H Q ⟨δ, Ψ, r, h⟩ => by
  simp only [ev] at h
  refine ⟨δ, Ψ, r, seqB (fun i hi => hi) h (fun d δ1 e => ?_) fun d k δ1 H1 Ψ1 ek s1 r1 h1 => ?_⟩
  · rw [e] at h
    simp only [Out.then_ok] at h
    cases q : truth d with
    | none => rw [q] at h; exact h.elim
    | some b => exact ⟨b, rfl⟩
  · rw [ek] at h1
    exact PostB.now h1 rfl r1
theorem pe_iteE {c a b : Ex} {z x y : Expr} (ha' : o = true ∨ isBor a = false) (hb' : o = true ∨ isBor b = false) (hc : PT X z (tT W T Φ cf XW c)) (ha : PE X x (tE W T Φ cf XW a o)) (hb : PE X y (tE W T Φ cf XW b o)) : PE X (.IfExp z x y pos) (tE W T Φ cf XW (.ite c a b) o) :=
  (pe_ifExp hc ha hb).weak fun σ H Q ⟨δ, Ψ, r, h⟩ => by
  simp only [ev] at h
  have key : ∀ out : Out, out = ev Φ cf c false δ → PostB W T XW (sl c.mods) Ψ H σ out fun k H1 => if k = true then tE W T Φ cf XW a o σ H1 Q else tE W T Φ cf XW b o σ H1 Q := by
    intro out eo
    rw [← eo] at h
    cases out with
    | ok d δ1 =>
      simp only [Out.then_ok] at h
      cases q : truth d with
      | none => rw [q] at h; exact h.elim
      | some k =>
        rw [q] at h
        refine ⟨k, q, fun H1 Ψ1 s1 r1 => ?_⟩
        have sM : ∀ i ∈ sl c.mods, i ∈ sl (c.mods ++ a.mods ++ b.mods) := fun i hi => List.mem_append_left _ (List.mem_append_left _ hi)
        cases k with
        | true =>
          show tE W T Φ cf XW a o σ H1 Q
          refine ⟨δ1, Ψ1, r1, Post.less (fun i hi => List.mem_append_left _ (List.mem_append_right _ hi)) (Post.m_eq ?_ (Post.shift (s1.mono sM) h))⟩
          rcases ha' with rfl | ha'
          · rfl
          · cases o
            · rw [Ex.md_sh ha']; rfl
            · rfl
        | false =>
          show tE W T Φ cf XW b o σ H1 Q
          refine ⟨δ1, Ψ1, r1, Post.less (fun i hi => List.mem_append_right _ hi) (Post.m_eq ?_ (Post.shift (s1.mono sM) h))⟩
          rcases hb' with rfl | hb'
          · rfl
          · cases o
            · rw [Ex.md_sh hb']; rfl
            · rfl
    | er x δ1 => exact fun cls dd H' Ψ' s r p => h cls dd H' Ψ' (s.mono fun i hi => List.mem_append_left _ (List.mem_append_left _ hi)) r p
    | bad => exact h.elim
  exact ⟨δ, Ψ, r, key _ rfl⟩
theorem pe_revE {a : Ex} {x : Expr} {k : Nat} (ha : PE X x (tE W T Φ cf XW a false)) : PE X (.Subscript x (.Slice none none (some (.UnaryOp .USub (.Constant (.int 1) k p1) p2)) p3) pos) (tE W T Φ cf XW (.rev a) o) :=
  (pe_revL ha).weak fun σ H Q ⟨δ, Ψ, r, h⟩ => by
  simp only [ev] at h
  refine tE.seq r (fun i hi => hi) h fun d δ1 v H1 Ψ1 s1 r1 p1 h1 => ?_
  have rp := RP.rep (e := a) p1 (b := isBor a) id
  cases d <;> first | (exact h1.elim) | skip
  rename_i xs
  simp only at h1
  simp only [Rep] at rp
  obtain ⟨q, vs, rfl, fa, e, hz, rs⟩ := rp
  have hk : isBor a = true → (D.lst xs.reverse).kids = true := fun hb => by
    cases q : immAll xs with
    | true => exact immAll_reverse _ q
    | false => rw [hb, q] at h1; exact h1.elim
  have h1' : Post W T XW (if o then .ow else .sh) (sl (Ex.rev a).mods) Ψ1 H1 σ (fin o true (.lst xs.reverse) δ1) Q := by
    refine Post.m_eq (by cases o <;> rfl) (m := (Ex.rev a).md o) ?_
    cases hb : isBor a with
    | false => rw [hb] at h1; exact h1
    | true =>
      cases q : immAll xs with
      | true => rw [hb, q] at h1; exact h1
      | false => rw [hb, q] at h1; exact h1.elim
  exact ⟨q, vs, rfl, SqL.of e, fun p hp => (fin_res r1 hk h1').lst rs.reverse (by rw [List.length_reverse]; exact hz) hp⟩
def isStrE : Ex → Bool
  | .cst (.str _) => true
  | _ => false
theorem isStr_inv : ∀ {a : Ex}, isStrE a = true → ∃ sep, a = .cst (.str sep)
  | .cst (.str sep), _ => ⟨sep, rfl⟩
theorem pe_joinE (hK : W.K = X.K) {a e : Ex} {x y : Expr} (hb : isBor e = false) (ha : PE X x (tE W T Φ cf XW a false)) (he : PE X y (tE W T Φ cf XW e false)) (hs : starEach [y] X.env = [(false, eval y X.env)]) (hbase : attributeBase x "join" X.env (eval x X.env) = eval x X.env) (hline : (apos.endLine == pos.line) = true) (hstr : isStrE a = true) :
    PE X (.Call (.Attribute x "join" apos) [y] [] pos) (tE W T Φ cf XW (.mt .join a (.cons e .nil)) o) := (pe_m1 F.slot_str_join F.type_str_join (mt_join1 hK) ha he hs hbase hline).weak fun σ H Q ⟨δ, Ψ, r, h⟩ => by
  obtain ⟨sep, rfl⟩ := isStr_inv hstr
  simp only [ev, Out.then_ok] at h
  refine ⟨δ, Ψ, r, fun v H1 Ψ1 s1 r1 p1 => ?_⟩
  have rv : Rep W H1 Ψ1.fs (.str sep) v := p1
  have rv' := rv
  simp only [Rep] at rv'
  refine ⟨⟨_, rv'.1⟩, ?_⟩
  have h := Post.shift (s1.mono (M' := sl (Ex.mt .join (.cst (.str sep)) (.cons e .nil)).mods) fun i hi => absurd (mem_sl.mp hi) List.not_mem_nil) h
  simp only [evs, OutL.then_assoc, OutL.thenL_ok, OutL.then_ok] at h
  refine tE.seq r1 (fun i hi => List.mem_append_right _ (List.mem_append_left _ hi)) h fun d δ2 w H2 Ψ2 s2 r2 p2 h2 => ?_
  have p1' : Rep W H2 Ψ2.fs (.str sep) v := Rep.stay (r1.stay_fs s2) s2.fsL rv
  have p2' : Rep W H2 Ψ2.fs d w := RP.rep (e := e) p2 (b := false) fun q => by rw [hb] at q; cases q
  cases eg : mtS .join (.str sep) [d] with
  | none => rw [eg] at h2; exact h2.elim
  | some z =>
    rw [eg, opt_some] at h2
    have hh : (isBor (.cst (.str sep)) || (Exs.cons e .nil).hasBor) = false := by
      show (false || (isBor e || false)) = false
      rw [hb]; rfl
    rw [hh] at h2
    exact ⟨Ψ2.fs, .str sep, [d], z, r2.fs, p1', Reps.cons p2' Reps.nil, eg, fin_res (b := false) (o := o) (fr := false) r2 (fun z => by cases z) h2⟩
end
end PyI

set_option Elab.async false
set_option linter.all false
set_option maxRecDepth 100000
namespace PyI
open PySem PySem.Spec PySem.Calls PySem.W
section
variable {pg : Program} {wd : World} {Ar : Around} {Er : Value → Shared → Prop} {st : Shared} {Fg : Frag} {ad cl : Addr} {ob : Obj} {di : Option Obj}
theorem err_find (c : L2.ExcC Fg cl) : findObj Fg cl di "__class__" =
    some (.bind (.builtin "getset_descriptor.__get__") (.builtin "object.__class__")) := by
  obtain ⟨cd, h0, _⟩ := any_some c.hd
  have hc : clsIn Fg cl = some cd := h0
  unfold findObj
  rw [hc]
  simp only [Option.bind_some, c.ha]
  simp [c.hn, c.ht]
/-- its class -/
theorem err_class {Qr : Option Value → Shared → Prop} (c : L2.ExcC Fg cl) (hin : Fg.In st.heap)
    (at_ : InstAt st.heap ad ob cl di)
    (q : Qr (some (.ref cl)) { st with toks := st.toks + 1 }) :
    wpAny (model pg wd) Ar (getAttr? (.ref ad) "__class__") Qr Er st := by
  have hf := err_find (di := di) c
  obtain ⟨hp, gn, dr, tk, os⟩ := st
  have ty := at_.type (M := model pg wd)
  have ga := looks_findIn (M := model pg wd) hin c.hg
  have gt := looks_findIn (M := model pg wd) hin c.hk
  have fi := looks_find (M := model pg wd) hin at_ hf
  have sb : Looks (model pg wd) hp (isInstance (.ref ad) (.type "BaseException")) true :=
    ty.andThen (looks_subIn hin c.hs)
  have n0 : (false && onTheHeap (Value.builtin "BaseException.__getattribute__")) = false := rfl
  have n1 : (onTheHeap (Value.ref cl) &&
      Value.builtin "BaseException.__getattribute__" == Value.builtin "object.__getattribute__") = false := by
    have z : (Value.builtin "BaseException.__getattribute__" == Value.builtin "object.__getattribute__") = false := by
      decide +kernel
    rw [z]
    rfl
  unfold getAttr? getAttrBy? getAttrBy
  refine wpAny_bind (wpAny_mkText ?_)
  refine wpAny_bind (wpAny_attempt (wpAny_holding ?_))
  refine wpAny_bind (ty.at ?_)
  refine wpAny_bind (ga.at ?_)
  show wpAny _ _ (if (onTheHeap (Value.ref cl) &&
      Value.builtin "BaseException.__getattribute__" == Value.builtin "object.__getattribute__") = true
    then _ else _) _ _ _
  rw [n1, if_neg Bool.false_ne_true]
  unfold getAttrByItsOwn hookBefore
  refine wpAny_bind ?_
  rw [if_pos (show onTheHeap (Value.ref cl) = true from rfl)]
  refine gt.at ?_
  refine wpAny_bind (wpAny_attempt (wpAny_holding ?_))
  unfold callGetattribute
  rw [n0, if_neg Bool.false_ne_true]
  unfold boundAndCalled
  rw [PySem.F.excAttr_ValueError.ga.bind (.ref ad)]
  refine wpAny_bind (wpAny_pure ?_)
  show wpAny _ _ (call (.builtin "BaseException.__getattribute__") [.ref ad, .str "__class__" tk]) _ _ _
  refine wpAny_call (codeAny_call_builtin PySem.F.excAttr_ValueError.ga.plain PySem.F.entry_bexc_ga ?_)
  refine @check_slot (model pg wd) _ _ ⟨hp, gn, dr, tk + 1, os⟩ "BaseException.__getattribute__" "BaseException"
    "__getattribute__" (.ref ad) [.str "__class__" tk] [] _ (by decide +kernel) (by decide +kernel) sb
    (PySem.F.args_bexc_ga (.ref ad) (.str "__class__" tk)) ?_
  unfold Builtin.«object.__getattribute__»
  refine wpAny_bind (wpAny_of_eq (a := ((Value.ref ad : Value), [Value.str "__class__" tk]))
    (by first | rfl | (simp only [slotArgs]; rfl)) ?_)
  refine wpAny_bind (wpAny_pure ?_)
  refine wpAny_bind (ty.at ?_)
  refine wpAny_bind (fi.at ?_)
  show wpAny _ _ (holding [Value.builtin "object.__class__"]
    (call (.builtin "getset_descriptor.__get__") [.builtin "object.__class__", .ref ad, .ref cl]) >>= ret) _ _ _
  refine wpAny_bind (wpAny_holding (wpAny_call ?_))
  refine class_get (s := ⟨hp, gn, dr, tk + 1, os⟩) (ox := ob) (od := di) hin at_ c.hm ?_
  refine wpAny_pure ?_
  show wpAny _ _ (handedOut (.ref cl)) _ _ _
  rw [handedOut_of (v := .ref cl) rfl]
  first
    | exact wpAny_pure (wpAny_pure q)
    | exact wpAny_pure q
    | exact wpAny_pure (wpAny_bind (wpAny_pure (wpAny_pure q)))
theorem err_kit (c : L2.ExcC Fg cl) : KitX Fg (.ref ad) (.ref cl) fun h => InstAt h ad ob cl di := by
  obtain ⟨cd, h0, _⟩ := any_some c.hd
  have hc : clsIn Fg cl = some cd := h0
  unfold clsIn at hc
  split at hc
  · rename_i oc od2 cd2 sl ho
    exact {
      ty := fun _ _ _ at_ => at_.type
      it := fun _ _ hin _ A' Q' E' s' k q => by
        unfold isType loadHead
        exact wpAny_bind (wpAny_loadPart (k _ _ (hin _ _ ho)) (wpAny_pure q))
      ne := fun h tp dd its n sl2 hin htp => Bool.eq_false_iff.mpr fun q => by
        obtain rfl : cl = tp := Value.ref.inj (beq_iff_eq.mp q)
        cases (hin _ _ ho).symm.trans htp
      ca := fun hin at_ k => err_class c hin at_ k }
  · cases hc
end
end PyI

set_option Elab.async false
set_option linter.all false
set_option maxRecDepth 100000
namespace PyI
open PySem PySem.Spec PyProof.Rows L2 LamX
/-- a type as a value -/
inductive TyV (W : Wd) : Ty → V → Value → Prop
  | bi (t : Ty) (h : t.bi = true) : TyV W t (.ty t.nm) (.type t.nm)
  | er (e : Nat) (C : Addr) (h : W.ca e = some C) : TyV W (.err e) (.ref C) (.ref C)
theorem TyV.cls {W : Wd} {t : Ty} {v : V} {u : Value} (h : TyV W t v u) : ClsV v u := by
  cases h
  · exact .ty _
  · exact .own _
/-- several types -/
inductive TyVs (W : Wd) : List Ty → List V → List Value → Prop
  | nil : TyVs W [] [] []
  | cons {t v u ts vs us} : TyV W t v u → TyVs W ts vs us → TyVs W (t :: ts) (v :: vs) (u :: us)
theorem TyVs.cls {W : Wd} : ∀ {ts : List Ty} {vs : List V} {us : List Value}, TyVs W ts vs us → Paired ClsV vs us
  | _, _, _, .nil => .nil
  | _, _, _, .cons a b => .cons a.cls b.cls
section
variable {W : Wd} {X : Cx} {pins : List (Addr × Obj)} {σ : L2.St} {H : Hp} {s : Shared} {F : Addr → Prop}
theorem tyx_D {d : D} {v : V} (hK : W.K = X.K) (he : d.isExc = false) (r : Rep W H F d v) : TyX X.K H v (.type d.tn) := by
  cases d <;> first | (cases he; done) | skip
  all_goals simp only [Rep] at r
  · subst r; exact .base .non
  · subst r; exact .base (.bl _)
  · subst r; exact .base (.int _)
  · obtain ⟨rfl, _⟩ := r; exact .base (.str _)
  · obtain ⟨a, vs, rfl, h, _⟩ := r
    rw [hK] at h
    rcases h with (h | ⟨o, h⟩) | ⟨o, its, n, h1, h2, _⟩
    · exact .base (.tup h)
    · exact .fTuple h
    · exact .kTuple h1 h2
  · obtain ⟨a, vs, rfl, _, h, _⟩ := r
    exact .base (.lst h)
  · obtain ⟨a, o, ws, rfl, _, h, ⟨ky, _, _, rfl, _⟩, _⟩ := r
    rcases h with h | ⟨ob, h⟩
    · exact .base (.dK h)
    · exact .fDict h
  · obtain ⟨a, rfl, h, _⟩ := r
    rw [hK] at h
    rcases h with ⟨o, h⟩ | ⟨o, its, n, h1, h2, _⟩
    · exact .base (.frz h)
    · exact .kList h1 h2
/-- a value's type as the model has it -/
def TyD (W : Wd) : D → Value → Prop
  | .exc c _, t => ∃ C, W.ca c = some C ∧ t = .ref C
  | d, t => t = .type d.tn
theorem kit_D {d : D} {v : V} {u : Value} (hK : W.K = X.K) (E : Errs X.K W) (I : Inv X pins σ H s) (rx : RelV v u) (r : Rep W H F d v) :
    ∃ (t : Value) (P : Heap → Prop), TyD W d t ∧ PySem.W.KitX X.K u t P ∧ P s.heap ∧ u ≠ .builtin "__main__.__loader__#opaque" := by
  cases he : d.isExc with
  | false =>
    obtain ⟨P, a, b, c⟩ := kit_of I rx (tyx_D hK he r)
    refine ⟨.type d.tn, P, ?_, a, b, c⟩
    cases d <;> first | rfl | (cases he; done)
  | true =>
    cases d <;> first | (cases he; done) | skip
    rename_i c fs
    simp only [Rep] at r
    obtain ⟨a, di, C, rfl, fa, hC, h1, h2⟩ := r
    cases rx
    obtain ⟨⟨oe, vs, e1, e2, e3, e4⟩, _, _⟩ := I.hok a _ h1
    have no : PySem.W.notCls oe = true := by unfold PySem.W.notCls; rw [e4] <;> rfl
    cases fs with
    | nil =>
      obtain rfl : di = none := h2
      exact ⟨.ref C, _, ⟨C, hC, rfl⟩, err_kit (ob := oe) (di := none) (E.ex c C hC), ⟨e1, e2, no, by rw [e3]; trivial⟩, fun z => nomatch z⟩
    | cons x r =>
      obtain ⟨_, dd, f, y, rfl, fd, h3, _⟩ := h2
      obtain ⟨mA, hns, _⟩ := (show ObjOk X.prog X.w H s.heap dd (.xd [(f, y)]) from I.hok dd _ h3)
      obtain ⟨od, ho, _⟩ := lookIn_ns hns
      exact ⟨.ref C, _, ⟨C, hC, rfl⟩, err_kit (ob := oe) (di := some od) (E.ex c C hC), ⟨e1, e2, no, by rw [e3]; exact ho⟩, fun z => nomatch z⟩
theorem kit_one {d : D} {t : Ty} {tv tu u : Value} {v : V} {b : Bool} (E : Errs X.K W) (hd : TyD W d tv) (ht : TyV W t v u) (h : tyIs d t = some b) : PySem.W.kitOne X.K tv u = some b := by
  cases ht with
  | bi t hb =>
    obtain ⟨he, hk⟩ := kit_tab d t b hb h
    have : tv = .type d.tn := by cases d <;> first | exact hd | (cases he; done)
    rw [this]
    exact kit_ty hk
  | er e C hC =>
    cases d <;> simp only [tyIs] at h <;> cases h
    · cases hd; exact E.kN e C hC
    · obtain ⟨C', hC', rfl⟩ := hd
      exact E.kE _ _ _ _ hC' hC
theorem kit_any {d : D} {tv : Value} (E : Errs X.K W) (hd : TyD W d tv) : ∀ {ts : List Ty} {vs : List V} {us : List Value} {b : Bool}, TyVs W ts vs us → tyAny d ts = some b → PySem.W.kitAny X.K tv us = some b
  | _, _, _, b, .nil, h => by cases h; exact kitAny_nil
  | t :: ts, v :: vs, u :: us, b, .cons h1 h2, h => by
    unfold tyAny at h
    split at h
    · rename_i e
      cases h
      exact kitAny_cons (kit_one (tu := .none) E hd h1 e) (fun z => by cases z) fun _ => rfl
    · rename_i e
      exact kitAny_cons (kit_one (tu := .none) E hd h1 e) (fun _ => kit_any E hd h2 h) (fun z => by cases z)
    · cases h
end
/-- isinstance, of one type or a new tuple of some -/
def rTyS (W : Wd) (ts : List Ty) : List V → Hp → VK → Prop := fun xs H Q => ∃ F d v c b, (∀ a, F a → trk H a) ∧ Rep W H F d v ∧ xs = [v, c] ∧ tyAny d ts = some b ∧ Q (.bl b) H ∧
  ((∃ t u, ts = [t] ∧ TyV W t c u) ∨ ∃ tp vs us, c = .ref tp ∧ H tp = some (.tup vs) ∧ TyVs W ts vs us)
theorem call_tyS {X : Cx} {W : Wd} (hK : W.K = X.K) (E : Errs X.K W) (ts : List Ty) : CallR X (.builtin "isinstance") (rTyS W ts) := by
  intro pins s σ H xs us Q I r h
  obtain ⟨F, d, v, c, b, hF, rp, rfl, ht, q, hc⟩ := h
  obtain ⟨u1, u2, rfl, r1, r2⟩ := vals2 r
  obtain ⟨t, P, hd, Z, p, hx⟩ := kit_D hK E I r1 rp
  rcases hc with ⟨t1, u, rfl, hv⟩ | ⟨tp, vs, us, rfl, hT, hv⟩
  · have e := hv.cls.eq r2
    subst e
    have ht1 : tyIs d t1 = some b := by
      unfold tyAny at ht
      cases q : tyIs d t1 with
      | none => rw [q] at ht; cases ht
      | some k => rw [q] at ht; cases k <;> (cases ht; rfl)
    exact PySem.W.kia_one Z I.kIn p (kit_one (tu := .none) E hd hv ht1) hx fun tk => ⟨.bl b, H, I.tok tk, rfl, q⟩
  · cases r2
    obtain ⟨_, its, rv, o, h1, h2, n, h3⟩ := (show ObjOk X.prog X.w H s.heap tp (.tup vs) from I.hok tp _ hT)
    have e3 := ClsV.all hv.cls rv
    subst e3
    obtain ⟨oc, od, dt, sl⟩ := o
    simp only at h2 h3
    subst h2 h3
    exact PySem.W.kia_tup Z I.kIn p h1 (kit_any E hd hv ht) hx fun tk => ⟨.bl b, H, I.tok tk, rfl, q⟩
section
variable {W : Wd} {T : List (Addr × Str)} {Φ : Nat → Option Fn} {cf : CF} {XW : WX} {X : Cx} {σ : L2.St} {Ψ Ψ0 Ψ1 Ψ2 : Own} {H H0 H1 H2 : Hp} {δ δ1 : Env} {m m1 : Md} {ms ms1 : List Md} {M M1 : Slots} {Q : VK} {pos p2 p1 p3 apos : Pos} {o o1 : Bool}
/-- the second argument of isinstance -/
inductive TyA (X : Cx) (W : Wd) : Expr → List Ty → Prop
  | one {y t v u} : TyV W t v u → PE X y (tC v) → TyA X W y [t]
  | tup {ys k p ts vs us} : TyVs W ts vs us → PA X ys (fun _ H Q => Q vs H) → vs.length ≤ sizeLine → TyA X W (.Tuple ys k p) ts
theorem pe_isiE (hK : W.K = X.K) (E : Errs X.K W) {a : Ex} {x y : Expr} {ts : List Ty} (hg : Gl X "isinstance") (hm : X.mg "isinstance" = none) (ha : PE X x (tE W T Φ cf XW a false)) (hy : TyA X W y ts)
    (hs1 : starEach [y] X.env = (false, eval y X.env) :: starEach [] X.env) (hs : starEach [x, y] X.env = (false, eval x X.env) :: starEach [y] X.env) :
    PE X (.Call (.Name "isinstance" p1) [x, y] [] pos) (tE W T Φ cf XW (.isi a ts) o) := by
  have hpl : (backTo pos (starEach [y] X.env)).any (·.1) = false := by rw [hs1]; rfl
  cases hy with
  | @one y t v u hv hy =>
    refine (pe_callB (call_tyS hK E [t]) hg hm (by decide +kernel) (pa_cons ha (pa_cons hy pa_nil hs1) hs) (he := hs) (hpl := hpl)).weak fun σ H Q ⟨δ, Ψ, r, h⟩ => ?_
    simp only [ev] at h
    refine tE.seq r (fun i hi => hi) h fun d δ1 v H1 Ψ1 s1 r1 p1 h1 => ?_
    cases e : tyAny d [t] with
    | none => rw [e] at h1; exact h1.elim
    | some b =>
      rw [e] at h1
      exact ⟨FB true Ψ1, d, v, _, b, r1.fb _, RP.rep (e := a) p1 (fun _ => rfl), rfl, e, Post.here h1 r1 (rp_imm (F := fun _ => False) rfl (by simp only [Rep])), .inl ⟨_, _, rfl, hv⟩⟩
  | @tup ys k p ts vs us hv hy hz =>
    refine (pe_callB (call_tyS hK E ts) hg hm (by decide +kernel) (pa_cons ha (pa_cons (pe_tup hy) pa_nil hs1) hs) (he := hs) (hpl := hpl)).weak fun σ H Q ⟨δ, Ψ, r, h⟩ => ?_
    simp only [ev] at h
    refine tE.seq r (fun i hi => hi) h fun d δ1 v H1 Ψ1 s1 r1 p1 h1 => ?_
    refine ⟨hz, fun p hp => ?_⟩
    cases e : tyAny d ts with
    | none => rw [e] at h1; exact h1.elim
    | some b =>
      rw [e] at h1
      have sm := same_new (o := .tup vs) hp
      have rp := RP.rep (e := a) p1 (b := true) (fun _ => rfl)
      refine ⟨FB true Ψ1, d, v, .ref p, b, fun a ha => (Same.grow sm).trk (r1.fb _ a ha), rp.stay ((Same.grow sm).stay _) (fun _ z => z), rfl, e, ?_, .inr ⟨p, _, _, rfl, upd_same, hv⟩⟩
      exact h1 _ _ Ψ1 (Same.grow sm).step0 (r1.same0 sm) (rp_imm (F := fun _ => False) rfl (by simp only [Rep]))
theorem pe_fldE (hK : W.K = X.K) (E : Errs X.K W) {a : Ex} {x : Expr} {n : List Nat} (hbo : isBor a = false) (hb : attributeBase x (strV n) X.env (eval x X.env) = eval x X.env) (ha : PE X x (tE W T Φ cf XW a false)) : PE X (.Attribute x (strV n) pos) (tE W T Φ cf XW (.fld a n) o) := by
  refine ⟨fun pins s σ H Q I ⟨δ, Ψ, r, h⟩ => ?_⟩
  simp only [ev] at h
  refine attr_of hb (thn (ha.run pins s σ H _ I (tE.seq r (fun i hi => hi) h (R := fun v H1 => ∃ d δ1 Ψ1, Rel W T Ψ1 δ1 σ H1 ∧ Rep W H1 Ψ1.fs d v ∧ Post W T XW ((Ex.fld a n).md o) (sl (Ex.fld a n).mods) Ψ1 H1 σ (match d with
    | .exc c [y] => if exFld c = some n then fin o false y δ1 else .bad
    | _ => .bad) Q) fun d δ1 v H1 Ψ1 s1 r1 p1 h1 => ?_)) fun u s1 hh => ?_)
  · rw [Ex.md_sh hbo] at p1
    exact ⟨d, δ1, Ψ1, r1, p1, h1⟩
  · obtain ⟨v, H1, I1, ru, d, δ1, Ψ1, r1, rp, h1⟩ := hh
    cases d <;> first | (exact h1.elim) | skip
    rename_i c fs
    rcases fs with _ | ⟨y, _ | ⟨_, _⟩⟩ <;> first | (exact h1.elim) | skip
    by_cases hc : exFld c = some n
    · simp only [hc, if_true] at h1
      simp only [Rep] at rp
      obtain ⟨ad, di, C, rfl, fa, hC, e1, _, dd, f, z, rfl, fd, e2, e3, rz⟩ := rp
      rw [hc] at e3
      obtain rfl : strV n = f := Option.some.inj e3
      cases ru
      obtain ⟨⟨oe, vs, g1, g2, g3, g4⟩, _, _⟩ := I1.hok ad _ e1
      obtain ⟨mA, hns, hr⟩ := (show ObjOk X.prog X.w H1 s1.heap dd (.xd [(strV n, z)]) from I1.hok dd _ e2)
      obtain ⟨od, ho, hl⟩ := lookIn_ns hns
      obtain ⟨w, hw, rw'⟩ := RelO.some_of (v := z) (o := mA (strV n)) (by
        have := hr (strV n)
        simpa [List.lookup] using this)
      have J : PySem.W.InstAt s1.heap ad oe C (some od) := ⟨g1, g2, by unfold PySem.W.notCls; rw [g4] <;> rfl, by rw [g3]; exact ho⟩
      have TX := E.xf c C hC
      exact HandSPX.exc_get I1.kIn J TX.ga TX.gg TX.exC (PySem.W.findObj_own TX.hdC (E.no c C n hC hc) rfl (by rw [hl, hw])) (handed_of rw') ⟨z, H1, I1.tok _, rw', fin_now (o := o) r1 (Post.m_eq (by cases o <;> rfl) h1) rz⟩
    · simp only [hc, if_false] at h1
      exact h1.elim
end
end PyI

set_option Elab.async false
set_option linter.all false
set_option maxRecDepth 100000
namespace PyI
open PySem PySem.Spec PyProof.Rows L2 LamX
/-- a key's value -/
def kOf : D → Option V
  | .int i => some (.int i)
  | .str cs => some (.str (strV cs))
  | _ => none
/-- a part of a value, by a key that is a value -/
def subV (v k : V) (H : Hp) : Option V := match v with
  | .ref a => match H a with
    | some (.lst vs) => match k with
      | .int i => (place vs.length i).bind fun n => vs[n]?
      | _ => none
    | some (.dK kvs) => match k with
      | .int i => valV kvs (.inl i)
      | .str x => valV kvs (.inr x)
      | _ => none
    | _ => none
  | _ => none
def atV (v : V) (H : Hp) : List V → Option V
  | [] => some v
  | k :: ks => (subV v k H).bind fun w => atV w H ks
/-- a plain key, by the slots -/
def kvI : Ex → L2.St → Option V
  | .cst d, _ => kOf d
  | .var i, σ => match σ[i]? with
    | some (some v) => some v
    | _ => none
  | .neg a, σ => match kvI a σ with
    | some (.int i) => some (.int (-i))
    | _ => none
  | _, _ => none
def Pa.kvs : Pa → L2.St → Option (List V)
  | .v _, _ => some []
  | .ix p e, σ => (p.kvs σ).bind fun ks => (kvI e σ).map fun k => ks ++ [k]
/-- what stands at a path -/
def pv (p : Pa) (σ : L2.St) (H : Hp) : Option V := match σ[p.root]? with
  | some (some v) => (p.kvs σ).bind fun ks => atV v H ks
  | _ => none
theorem atV_app {H : Hp} : ∀ {ks : List V} {v k : V}, atV v H (ks ++ [k]) = (atV v H ks).bind fun w => subV w k H
  | [], v, k => by
    show (subV v k H).bind (fun w => some w) = subV v k H
    cases subV v k H <;> rfl
  | j :: ks, v, k => by
    show (subV v j H).bind (fun w => atV w H (ks ++ [k])) = ((subV v j H).bind fun w => atV w H ks).bind fun w => subV w k H
    cases subV v j H with
    | none => rfl
    | some w => exact atV_app
theorem key_kOf {W : Wd} {H : Hp} {F : Addr → Prop} {k : D} {v : V} (h : kOf k = some v) : Rep W H F k v ∨ ∃ cs, k = .str cs := by
  cases k <;> simp only [kOf] at h <;> cases h
  · exact .inl (by simp only [Rep])
  · exact .inr ⟨_, rfl⟩
/-- the splitting of an owned tree at a place -/
structure Split (W : Wd) (H : Hp) (d x : D) (v w : V) (ks : List D) (F Fs : List Addr) : Prop where
  sub : ∀ a ∈ Fs, a ∈ F
  tree : Tree W H x w Fs
  put : ∀ (H' : Hp) (x' : D) (Fs' : List Addr), (∀ a ∈ F, a ∉ Fs → H' a = H a) → (∀ a xs, H a = some (.tup xs) → H' a = some (.tup xs)) → (∀ a o u, H a = some (.frz o u) → H' a = some (.frz o u)) →
    Tree W H' x' w Fs' → (∀ a ∈ Fs', a ∈ F → a ∈ Fs) → ∀ d', putAt d ks x' = some d' → ∃ F', Tree W H' d' v F' ∧ ∀ a, a ∈ F' ↔ (a ∈ F ∧ a ∉ Fs) ∨ a ∈ Fs'
theorem Split.refl {W : Wd} {H : Hp} {d : D} {v : V} {F : List Addr} (t : Tree W H d v F) : Split W H d d v v [] F F :=
  ⟨fun _ h => h, t, fun H' x' Fs' _ _ _ t' _ d' e => by
    cases e
    exact ⟨Fs', t', fun a => ⟨fun h => .inr h, fun h => h.elim (fun z => absurd z.1 z.2) id⟩⟩⟩
theorem Trees.get {W : Wd} {H : Hp} : ∀ {xs : List D} {vs : List V} {F : List Addr} {n : Nat} {x : D}, Trees W H xs vs F → xs[n]? = some x → ∃ w Fs, vs[n]? = some w ∧ Tree W H x w Fs ∧ (∀ a ∈ Fs, a ∈ F) ∧
    ∀ (H' : Hp) (x' : D) (Fs' : List Addr), (∀ a ∈ F, a ∉ Fs → H' a = H a) → (∀ a xs, H a = some (.tup xs) → H' a = some (.tup xs)) → (∀ a o u, H a = some (.frz o u) → H' a = some (.frz o u)) →
      Tree W H' x' w Fs' → (∀ a ∈ Fs', a ∈ F → a ∈ Fs) → ∃ F', Trees W H' (xs.set n x') vs F' ∧ ∀ a, a ∈ F' ↔ (a ∈ F ∧ a ∉ Fs) ∨ a ∈ Fs'
  | [], _, _, n, x, _, e => by simp at e
  | y :: xs, vs, F, n, x, h, e => by
    simp only [Trees] at h
    obtain ⟨v, r, F1, F2, rfl, rfl, h1, h2, dj⟩ := h
    cases n with
    | zero =>
      simp at e
      subst e
      refine ⟨v, F1, by simp, h1, fun a ha => List.mem_append_left _ ha, fun H' x' Fs' kp kt kf t ds => ?_⟩
      refine ⟨Fs' ++ F2, ?_, fun a => ?_⟩
      · simp only [List.set_cons_zero, Trees]
        refine ⟨v, r, Fs', F2, rfl, rfl, t, h2.stay ⟨fun a ha o q _ => ?_, kt, kf⟩, fun a ha hb => ?_⟩
        · rw [kp a (List.mem_append_right _ ha) fun z => dj a z ha]; exact q
        · exact dj a (ds a ha (List.mem_append_right _ hb)) hb
      · rw [List.mem_append, List.mem_append]
        constructor
        · rintro (z | z)
          · exact .inr z
          · exact .inl ⟨.inr z, fun q => dj a q z⟩
        · rintro (⟨z | z, n⟩ | z)
          · exact absurd z n
          · exact .inr z
          · exact .inl z
    | succ n =>
      obtain ⟨w, Fs, e1, t1, sb, pt⟩ := Trees.get (n := n) h2 (by simpa using e)
      refine ⟨w, Fs, by simpa using e1, t1, fun a ha => List.mem_append_right _ (sb a ha), fun H' x' Fs' kp kt kf t ds => ?_⟩
      have nF : ∀ a ∈ F1, a ∉ Fs := fun a ha z => dj a ha (sb a z)
      obtain ⟨F', t', m'⟩ := pt H' x' Fs' (fun a ha hn => kp a (List.mem_append_right _ ha) hn) kt kf t fun a ha hb => ds a ha (List.mem_append_right _ hb)
      refine ⟨F1 ++ F', ?_, fun a => ?_⟩
      · simp only [List.set_cons_succ, Trees]
        refine ⟨v, r, F1, F', rfl, rfl, h1.stay ⟨fun a ha o q _ => ?_, kt, kf⟩, t', fun a ha hb => ?_⟩
        · rw [kp a (List.mem_append_left _ ha) (nF a ha)]; exact q
        · rcases (m' a).mp hb with z | z
          · exact dj a ha z.1
          · exact nF a ha (ds a z (List.mem_append_left _ ha))
      · rw [List.mem_append, List.mem_append, m']
        constructor
        · rintro (z | ⟨z, n⟩ | z)
          · exact .inl ⟨.inl z, nF a z⟩
          · exact .inl ⟨.inr z, n⟩
          · exact .inr z
        · rintro (⟨z | z, n⟩ | z)
          · exact .inl z
          · exact .inr (.inl ⟨z, n⟩)
          · exact .inr (.inr z)
theorem Trees.len {W : Wd} {H : Hp} {xs : List D} {vs : List V} {F : List Addr} (t : Trees W H xs vs F) : xs.length = vs.length := t.rep.len
/-- where a key stands -/
def kpos : List D → D → Option Nat
  | [], _ => none
  | a :: as, k => if a = k then some 0 else (kpos as k).map (· + 1)
theorem dget_pos (k : D) : ∀ (ks vs : List D), ks.length = vs.length → dget ks vs k = (kpos ks k).bind fun n => vs[n]?
  | [], vs, _ => by cases vs <;> rfl
  | a :: as, [], h => by simp at h
  | a :: as, b :: bs, h => by
    unfold dget kpos
    by_cases e : a = k
    · rw [if_pos e, if_pos e]; rfl
    · rw [if_neg e, if_neg e, dget_pos k as bs (by simpa using h)]
      cases kpos as k <;> rfl
theorem dputV_pos (k y : D) : ∀ (ks vs : List D), ks.length = vs.length → ∀ n, kpos ks k = some n → dputV ks vs k y = vs.set n y
  | [], vs, _, n, e => by cases e
  | a :: as, [], h, n, e => by simp at h
  | a :: as, b :: bs, h, n, e => by
    unfold kpos at e
    unfold dputV
    by_cases q : a = k
    · rw [if_pos q] at e ⊢
      cases e
      rfl
    · rw [if_neg q] at e ⊢
      obtain ⟨m, hm, rfl⟩ := Option.map_eq_some_iff.mp e
      rw [dputV_pos k y as bs (by simpa using h) m hm]
      rfl
theorem val_pos (k : Key) : ∀ (kk : List Key) (ws : List V), kk.length = ws.length → ∀ n, kpos (kk.map keyD) (keyD k) = some n → valV (kk.zip ws) k = ws[n]?
  | [], ws, _, n, e => by cases e
  | a :: as, [], h, n, e => by simp at h
  | a :: as, b :: bs, h, n, e => by
    rw [List.zip_cons_cons]
    rw [List.map_cons] at e
    unfold kpos at e
    by_cases q : a = k
    · subst q
      rw [if_pos rfl] at e
      cases e
      rw [valV_pos rfl]
      rfl
    · rw [if_neg fun z => q (keyD_inj z)] at e
      obtain ⟨m, hm, rfl⟩ := Option.map_eq_some_iff.mp e
      rw [valV_neg q, val_pos k as bs (by simpa using h) m hm]
      rfl
theorem zip_set (kk : List Key) : ∀ (ws : List V), kk.zip ws = kk.zip ws := fun _ => rfl
/-- one step down -/
theorem Split.one {W : Wd} {H : Hp} {d x k : D} {v kv : V} {F : List Addr} (t : Tree W H d v F) (e : subOf d k = some x) (hk : kOf k = some kv) : ∃ w Fs, subV v kv H = some w ∧ Split W H d x v w [k] F Fs := by
  cases d <;> simp only [subOf] at e <;> first | (cases e; done) | skip
  · rename_i xs
    split at e <;> first | (cases e; done) | skip
    rename_i i
    cases hk
    obtain ⟨n, hn, e⟩ := Option.bind_eq_some_iff.mp e
    simp only [Tree] at t
    obtain ⟨a, vs, F0, rfl, h1, hz, rfl, na, h2⟩ := t
    obtain ⟨w, Fs, e1, t1, sb, pt⟩ := h2.get e
    refine ⟨w, Fs, ?_, fun b hb => List.mem_cons_of_mem _ (sb b hb), t1, fun H' x' Fs' kp kt kf t' ds d' e' => ?_⟩
    · simp only [subV, h1, ← h2.len, hn, Option.bind_some]
      exact e1
    · have nFs : a ∉ Fs := fun z => na (sb a z)
      obtain ⟨F', t2, m'⟩ := pt H' x' Fs' (fun b hb hn => kp b (List.mem_cons_of_mem _ hb) hn) kt kf t' fun b hb hc => ds b hb (List.mem_cons_of_mem _ hc)
      have ed : d' = .lst (xs.set n x') := by
        simp only [putAt, subOf, hn, Option.bind_some, e, subPutIn, Option.map_some, Option.some.injEq] at e'
        exact e'.symm
      subst ed
      refine ⟨a :: F', ?_, fun b => ?_⟩
      · simp only [Tree]
        refine ⟨a, vs, F', rfl, by rw [kp a List.mem_cons_self nFs]; exact h1, hz, rfl, fun z => ?_, t2⟩
        rcases (m' a).mp z with z | z
        · exact na z.1
        · exact nFs (ds a z List.mem_cons_self)
      · rw [List.mem_cons, List.mem_cons, m']
        constructor
        · rintro (rfl | ⟨z, n⟩ | z)
          · exact .inl ⟨.inl rfl, nFs⟩
          · exact .inl ⟨.inr z, n⟩
          · exact .inr z
        · rintro (⟨z | z, n⟩ | z)
          · exact .inl z
          · exact .inr (.inl ⟨z, n⟩)
          · exact .inr (.inr z)
  · rename_i ks ds
    split at e <;> first | (cases e; done) | skip
    rename_i hko
    simp only [Tree] at t
    obtain ⟨a, o, ws, F0, rfl, h1, ⟨ky, rfl, hl, rfl, nd⟩, hz, rfl, na, h2⟩ := t
    have hkey : ∃ kk : Key, k = keyD kk ∧ kv = kV kk := by
      cases k <;> simp only [kOf] at hk <;> cases hk
      · exact ⟨.inl _, rfl, rfl⟩
      · exact ⟨.inr (strV _), by simp [keyD, strV], rfl⟩
    obtain ⟨kk, rfl, rfl⟩ := hkey
    have hlen : (ky.map keyD).length = ds.length := by rw [List.length_map, hl, h2.len]
    have e0 := e
    rw [dget_pos _ _ _ hlen] at e
    obtain ⟨n, hn, e⟩ := Option.bind_eq_some_iff.mp e
    obtain ⟨w, Fs, e1, t1, sb, pt⟩ := h2.get e
    have hval : subV (.ref a) (kV kk) H = some w := by
      have z := val_pos kk ky ws hl n hn
      cases kk <;> simp only [subV, h1, kV] <;> rw [z] <;> exact e1
    refine ⟨w, Fs, hval, fun b hb => List.mem_cons_of_mem _ (sb b hb), t1, fun H' x' Fs' kp kt kf t' dsj d' e' => ?_⟩
    have nFs : a ∉ Fs := fun z => na (sb a z)
    obtain ⟨F', t2, m'⟩ := pt H' x' Fs' (fun b hb hn => kp b (List.mem_cons_of_mem _ hb) hn) kt kf t' fun b hb hc => dsj b hb (List.mem_cons_of_mem _ hc)
    have ed : d' = .dct (ky.map keyD) (ds.set n x') := by
      simp only [putAt, subOf, hko, if_true, e0, Option.bind_some, subPutIn] at e'
      split at e'
      · cases e'
        rw [dputV_pos _ _ _ _ hlen n hn]
      · cases e'
    subst ed
    refine ⟨a :: F', ?_, fun b => ?_⟩
    · simp only [Tree]
      refine ⟨a, _, ws, F', rfl, by rw [kp a List.mem_cons_self nFs]; exact h1, ⟨ky, rfl, hl, rfl, nd⟩, hz, rfl, fun z => ?_, t2⟩
      rcases (m' a).mp z with z | z
      · exact na z.1
      · exact nFs (dsj a z List.mem_cons_self)
    · rw [List.mem_cons, List.mem_cons, m']
      constructor
      · rintro (rfl | ⟨z, n⟩ | z)
        · exact .inl ⟨.inl rfl, nFs⟩
        · exact .inl ⟨.inr z, n⟩
        · exact .inr z
      · rintro (⟨z | z, n⟩ | z)
        · exact .inl z
        · exact .inr (.inl ⟨z, n⟩)
        · exact .inr (.inr z)
/-- keys and their values -/
def KsOf : List D → List V → Prop := Paired fun k v => kOf k = some v
/-- all the way down -/
theorem Split.all {W : Wd} {H : Hp} : ∀ {ks : List D} {kvs : List V} {d x : D} {v : V} {F : List Addr}, KsOf ks kvs → Tree W H d v F → getAt d ks = some x → ∃ w Fs, atV v H kvs = some w ∧ Split W H d x v w ks F Fs
  | [], _, d, x, v, F, .nil, t, e => by
    cases e
    exact ⟨v, F, rfl, Split.refl t⟩
  | k :: ks, _, d, x, v, F, .cons hk hks, t, e => by
    obtain ⟨y, e1, e2⟩ := Option.bind_eq_some_iff.mp e
    obtain ⟨u, Fu, q1, s1⟩ := Split.one t e1 hk
    obtain ⟨w, Fs, q2, s2⟩ := Split.all hks s1.tree e2
    refine ⟨w, Fs, by simp only [atV, q1, Option.bind_some, q2], fun a ha => s1.sub a (s2.sub a ha), s2.tree, fun H' x' Fs' kp kt kf t' ds d' e' => ?_⟩
    simp only [putAt, e1, Option.bind_some] at e'
    obtain ⟨y', e3, e4⟩ := Option.bind_eq_some_iff.mp e'
    obtain ⟨Fu', tu, mu⟩ := s2.put H' x' Fs' (fun a ha hn => kp a (s1.sub a ha) hn) kt kf t' (fun a ha hb => ds a ha (s1.sub a hb)) y' e3
    obtain ⟨F', tF, mF⟩ := s1.put H' y' Fu' (fun a ha hn => kp a ha fun z => hn (s2.sub a z)) kt kf tu (fun a ha hb => by
      rcases (mu a).mp ha with z | z
      · exact z.1
      · exact s2.sub a (ds a z hb)) d' (by simp only [putAt, e1, Option.bind_some, e4])
    refine ⟨F', tF, fun a => ?_⟩
    rw [mF, mu]
    constructor
    · rintro (⟨z, n⟩ | ⟨z, n⟩ | z)
      · exact .inl ⟨z, fun q => n (s2.sub a q)⟩
      · exact .inl ⟨s1.sub a z, n⟩
      · exact .inr z
    · rintro (⟨z, n⟩ | z)
      · by_cases q : a ∈ Fu
        · exact .inr (.inl ⟨q, n⟩)
        · exact .inl ⟨z, q⟩
      · exact .inr (.inr z)
end PyI

set_option Elab.async false
set_option linter.all false
set_option maxRecDepth 100000
namespace PyI
open PySem PySem.Spec PyProof.Rows L2 LamX
section
variable {W : Wd} {T : List (Addr × Str)} {Φ : Nat → Option Fn} {cf : CF} {XW : WX} {X : Cx} {σ : L2.St} {Ψ Ψ0 Ψ1 Ψ2 : Own} {H H0 H1 H2 H' : Hp} {δ δ1 : Env} {m m1 : Md} {ms ms1 : List Md} {M M1 : Slots} {Q : VK} {pos p2 p1 p3 apos : Pos} {o o1 : Bool}
theorem subOf_key {d x k : D} (h : subOf d k = some x) : ∃ kv, kOf k = some kv := by
  cases d <;> simp only [subOf] at h <;> first | (cases h; done) | skip
  · cases k <;> first | (cases h; done) | exact ⟨_, rfl⟩
  · split at h <;> first | (cases h; done) | skip
    rename_i hk
    cases k <;> first | (cases hk; done) | exact ⟨_, rfl⟩
theorem ix_val (r : Rel W T Ψ δ σ H) : ∀ (e : Ex) {k : D} {kv : V}, evIx e δ = some k → kOf k = some kv → kvI e σ = some kv
  | .cst d, k, kv, h1, h2 => by simp only [evIx] at h1; cases h1; exact h2
  | .var i, k, kv, h1, h2 => by
    simp only [evIx] at h1
    split at h1 <;> cases h1
    rename_i hs
    obtain ⟨v, e1, rp⟩ := r.sh i k hs
    simp only [kvI, e1]
    cases k <;> simp only [kOf] at h2 <;> cases h2 <;> simp only [Rep] at rp
    · rw [rp]
    · rw [rp.1]
  | .neg a, k, kv, h1, h2 => by
    simp only [evIx] at h1
    split at h1 <;> cases h1
    rename_i hs
    cases h2
    simp only [kvI, ix_val r a hs (show kOf (.int _) = some _ from rfl)]
  | .bor _, _, _, h, _ => by simp only [evIx] at h; cases h
  | .bin _ _ _, _, _, h, _ => by simp only [evIx] at h; cases h
  | .not_ _, _, _, h, _ => by simp only [evIx] at h; cases h
  | .and_ _ _, _, _, h, _ => by simp only [evIx] at h; cases h
  | .or_ _ _, _, _, h, _ => by simp only [evIx] at h; cases h
  | .cmp _ _ _, _, _, h, _ => by simp only [evIx] at h; cases h
  | .chn _ _ _ _ _, _, _, h, _ => by simp only [evIx] at h; cases h
  | .ite _ _ _, _, _, h, _ => by simp only [evIx] at h; cases h
  | .tup _, _, _, h, _ => by simp only [evIx] at h; cases h
  | .lst _, _, _, h, _ => by simp only [evIx] at h; cases h
  | .dct _ _, _, _, h, _ => by simp only [evIx] at h; cases h
  | .call _ _, _, _, h, _ => by simp only [evIx] at h; cases h
  | .bi _ _, _, _, h, _ => by simp only [evIx] at h; cases h
  | .mt _ _ _, _, _, h, _ => by simp only [evIx] at h; cases h
  | .pm _ _ _, _, _, h, _ => by simp only [evIx] at h; cases h
  | .idx _ _, _, _, h, _ => by simp only [evIx] at h; cases h
  | .slc _ _ _, _, _, h, _ => by simp only [evIx] at h; cases h
  | .rev _, _, _, h, _ => by simp only [evIx] at h; cases h
  | .lc _ _ _ _, _, _, h, _ => by simp only [evIx] at h; cases h
  | .lc2 _ _ _ _ _ _, _, _, h, _ => by simp only [evIx] at h; cases h
  | .dc _ _ _ _ _ _, _, _, h, _ => by simp only [evIx] at h; cases h
  | .isi _ _, _, _, h, _ => by simp only [evIx] at h; cases h
  | .fld _ _, _, _, h, _ => by simp only [evIx] at h; cases h
  | .caught _, _, _, h, _ => by simp only [evIx] at h; cases h
theorem getAt_snoc (k : D) : ∀ (ks : List D) (d : D), getAt d (ks ++ [k]) = (getAt d ks).bind fun y => subOf y k
  | [], d => by
    show (subOf d k).bind (fun x => some x) = subOf d k
    cases subOf d k <;> rfl
  | j :: ks, d => by
    show (subOf d j).bind (fun x => getAt x (ks ++ [k])) = ((subOf d j).bind fun x => getAt x ks).bind fun y => subOf y k
    cases subOf d j with
    | none => rfl
    | some y => exact getAt_snoc k ks y
theorem paired_snoc {α β : Type} {R : α → β → Prop} {a : α} {b : β} (h : R a b) : ∀ {l : List α} {l' : List β}, Paired R l l' → Paired R (l ++ [a]) (l' ++ [b])
  | _, _, .nil => .cons h .nil
  | _, _, .cons x t => .cons x (paired_snoc h t)
theorem keys_val (r : Rel W T Ψ δ σ H) {d : D} : ∀ {p : Pa} {ks : List D} {x : D}, p.keys δ = some ks → getAt d ks = some x → ∃ kvs, p.kvs σ = some kvs ∧ KsOf ks kvs
  | .v i, ks, x, h, e => by cases h; exact ⟨[], rfl, .nil⟩
  | .ix p e, ks, x, h, e1 => by
    simp only [Pa.keys] at h
    obtain ⟨ks0, h0, h⟩ := Option.bind_eq_some_iff.mp h
    obtain ⟨k, hk, rfl⟩ := Option.map_eq_some_iff.mp h
    rw [getAt_snoc] at e1
    obtain ⟨y, e2, e3⟩ := Option.bind_eq_some_iff.mp e1
    obtain ⟨kv, hkv⟩ := subOf_key e3
    obtain ⟨kvs, q1, q2⟩ := keys_val r h0 e2
    exact ⟨kvs ++ [kv], by simp only [Pa.kvs, q1, ix_val r _ hk hkv, Option.bind_some, Option.map_some], paired_snoc (R := fun k v => kOf k = some v) hkv q2⟩
/-- what is known at a place -/
structure At (W : Wd) (Ψ : Own) (δ : Env) (σ : L2.St) (H : Hp) (p : Pa) (x : D) (d : D) (v w : V) (ks : List D) (kvs : List V) (Fs : List Addr) : Prop where
  slot : slot δ p.root = some (.ow d)
  sig : σ[p.root]? = some (some v)
  keys : p.keys δ = some ks
  kvq : p.kvs σ = some kvs
  kof : KsOf ks kvs
  get : getAt d ks = some x
  at_ : atV v H kvs = some w
  pv : pv p σ H = some w
  spl : Split W H d x v w ks (Ψ.fo p.root) Fs
theorem Rel.at_ (r : Rel W T Ψ δ σ H) {p : Pa} {x : D} (h : getP p δ = some x) : ∃ d v w ks kvs Fs, At W Ψ δ σ H p x d v w ks kvs Fs := by
  unfold getP at h
  split at h <;> first | (cases h; done) | skip
  rename_i d hs
  obtain ⟨ks, hk, hx⟩ := Option.bind_eq_some_iff.mp h
  obtain ⟨v, e1, t⟩ := r.ow _ d hs
  obtain ⟨kvs, q1, q2⟩ := keys_val r hk hx
  obtain ⟨w, Fs, q3, sp⟩ := Split.all q2 t hx
  exact ⟨d, v, w, ks, kvs, Fs, hs, e1, hk, q1, q2, hx, q3, by unfold PyI.pv; rw [e1]; simp only [q1, Option.bind_some, q3], sp⟩
theorem subV_stay {d x k : D} {v kv : V} {F : List Addr} (t : Tree W H d v F) (e : subOf d k = some x) (s : Stay (fun a => a ∈ F) H H') : subV v kv H' = subV v kv H := by
  cases d <;> simp only [subOf] at e <;> first | (cases e; done) | skip
  · simp only [Tree] at t
    obtain ⟨a, vs, F0, rfl, h1, hz, rfl, na, h2⟩ := t
    have h1' := s.at_ a List.mem_cons_self _ h1 (fun _ z => by cases z)
    simp only [subV, h1, h1']
  · simp only [Tree] at t
    obtain ⟨a, o, ws, F0, rfl, h1, h2, hz, rfl, na, h3⟩ := t
    have h1' := s.at_ a List.mem_cons_self _ h1 h2.ntbl
    simp only [subV, h1, h1']
theorem atV_stay : ∀ {ks : List D} {kvs : List V} {d x : D} {v w : V} {F : List Addr}, KsOf ks kvs → Tree W H d v F → getAt d ks = some x → Stay (fun a => a ∈ F) H H' → atV v H kvs = some w → atV v H' kvs = some w
  | [], _, d, x, v, w, F, .nil, _, _, _, h => h
  | k :: ks, _, d, x, v, w, F, .cons hk hks, t, e, s, h => by
    obtain ⟨y, e1, e2⟩ := Option.bind_eq_some_iff.mp e
    obtain ⟨u, Fu, q1, s1⟩ := Split.one t e1 hk
    simp only [atV, subV_stay t e1 s, q1, Option.bind_some] at h ⊢
    exact atV_stay hks s1.tree e2 ⟨fun a ha => s.at_ a (s1.sub a ha), s.tup, s.frz⟩ h
/-- a place is as it was, where its slot is not touched -/
theorem Rel.pv_stay (r : Rel W T Ψ δ σ H) {p : Pa} {x : D} (h : getP p δ = some x) (s : Step M Ψ H Ψ1 H1) (hm : p.root ∉ M) : pv p σ H1 = pv p σ H := by
  obtain ⟨d, v, w, ks, kvs, Fs, A⟩ := r.at_ h
  have st : Stay (fun a => a ∈ Ψ.fo p.root) H H1 := s.stay fun a ha i hi z => r.dj p.root i a (fun q => hm (q ▸ hi)) ha z
  obtain ⟨v', e', t⟩ := r.ow _ d A.slot
  rw [A.sig] at e'
  cases e'
  have q := atV_stay A.kof t A.get st A.at_
  rw [A.pv]
  unfold PyI.pv
  rw [A.sig]
  simp only [A.kvq, Option.bind_some, q]
theorem tabs_upd {a : Addr} {ob : HO} (t : Tabs T H) (h : ∀ o, H a = some o → (∀ ps, o ≠ .tbl ps) ∧ ∀ c q, o ≠ CodeO c q) : Tabs T (upd H a ob) := by
  intro p hp
  obtain ⟨ps, e1, e2, e3⟩ := t p hp
  have np : p.1 ≠ a := fun z => (h _ (by rw [← z]; exact e1)).1 ps rfl
  refine ⟨ps, by rw [upd_ne np]; exact e1, e2, fun q cv hq => ?_⟩
  obtain ⟨c, c1, c2⟩ := e3 q cv hq
  refine ⟨c, c1, ?_⟩
  have nc : c ≠ a := fun z => (h _ (by rw [← z]; exact c2)).2 c p.2 rfl
  rw [upd_ne nc]
  exact c2
/-- things that may be written -/
def Wr : HO → Prop
  | .lst _ => True
  | .dK _ => True
  | _ => False
theorem Wr.no {o : HO} (h : Wr o) : (∀ ps, o ≠ .tbl ps) ∧ (∀ c q, o ≠ CodeO c q) ∧ (∀ xs, o ≠ .tup xs) ∧ ∀ ob u, o ≠ .frz ob u := by
  refine ⟨fun ps z => ?_, fun c q z => ?_, fun xs z => ?_, fun ob u z => ?_⟩
  · subst z; exact h
  · subst z; unfold CodeO at h; exact h
  · subst z; exact h
  · subst z; exact h
/-- the owned thing at a place is written: its object at a; G: what goes out of it and is shared -/
theorem rel_write {p : Pa} {x x' d d' : D} {v w : V} {ks : List D} {kvs : List V} {Fs Fs' : List Addr} {a : Addr} {ob ob' : HO} {G : Addr → Prop} (s : Step M Ψ0 H0 Ψ1 H1) (r : Rel W T Ψ1 δ1 σ H1) (A : At W Ψ1 δ1 σ H1 p x d v w ks kvs Fs) (hm : p.root ∈ M)
    (ha : a ∈ Fs) (ho : H1 a = some ob) (wo : Wr ob) (wo' : Wr ob') (t' : Tree W (upd H1 a ob') x' w Fs')
    (hF : ∀ b ∈ Fs', b ∈ Fs ∨ (trk H1 b ∧ ¬ Ψ1.fs b ∧ (∀ i, b ∉ Ψ1.fo i) ∧ (¬ trk H0 b ∨ ∃ j ∈ M, b ∈ Ψ0.fo j))) (hG : ∀ b, G b → b ∈ Fs ∧ b ∉ Fs') (e : putAt d ks x' = some d') :
    ∃ Ψ2, Step M Ψ0 H0 Ψ2 (upd H1 a ob') ∧ Rel W T Ψ2 (δ1.set p.root (some (.ow d'))) σ (upd H1 a ob') ∧ (∀ b, Ψ2.fs b ↔ Ψ1.fs b ∨ G b) ∧ (∀ i, i ≠ p.root → Ψ2.fo i = Ψ1.fo i) ∧ ∀ b, b ∈ Ψ2.fo p.root ↔ (b ∈ Ψ1.fo p.root ∧ b ∉ Fs) ∨ b ∈ Fs' := by
  have haF : a ∈ Ψ1.fo p.root := A.spl.sub a ha
  have no := wo.no
  have no' := wo'.no
  have ktup : ∀ b xs, H1 b = some (.tup xs) → upd H1 a ob' b = some (.tup xs) := fun b xs q => by
    rw [upd_ne fun z => no.2.2.1 xs (Option.some.inj (ho.symm.trans (by rw [← z]; exact q)))]; exact q
  have kfrz : ∀ b o u, H1 b = some (.frz o u) → upd H1 a ob' b = some (.frz o u) := fun b o u q => by
    rw [upd_ne fun z => no.2.2.2 o u (Option.some.inj (ho.symm.trans (by rw [← z]; exact q)))]; exact q
  have ktrk : ∀ b, trk H1 b → trk (upd H1 a ob') b := fun b ⟨o, q, n⟩ => by
    by_cases z : b = a
    · subst z; exact ⟨ob', upd_same, no'.1⟩
    · exact ⟨o, by rw [upd_ne z]; exact q, n⟩
  have kpt : ∀ b, b ≠ a → upd H1 a ob' b = H1 b := fun b z => upd_ne z
  have tb : Tabs T (upd H1 a ob') := tabs_upd r.tb fun o q => by
    rw [ho] at q
    cases q
    exact ⟨no.1, no.2.1⟩
  have hFr : ∀ b ∈ Fs', b ∈ Ψ1.fo p.root → b ∈ Fs := fun b hb hc => (hF b hb).elim id fun z => absurd hc (z.2.2.1 _)
  obtain ⟨F', tF, mF⟩ := A.spl.put (upd H1 a ob') x' Fs' (fun b _ hn => kpt b fun z => hn (z ▸ ha)) ktup kfrz t' hFr d' e
  have nfs : ∀ b ∈ F', ¬ (Ψ1.fs b ∨ G b) := fun b hb z => by
    rcases (mF b).mp hb with ⟨q, n⟩ | q
    · rcases z with z | z
      · exact r.ns _ b q z
      · exact n (hG b z).1
    · rcases z with z | z
      · rcases hF b q with y | y
        · exact r.ns _ b (A.spl.sub b y) z
        · exact y.2.1 z
      · exact (hG b z).2 q
  have nfo : ∀ b ∈ F', ∀ i, i ≠ p.root → b ∉ Ψ1.fo i := fun b hb i hi z => by
    rcases (mF b).mp hb with ⟨q, _⟩ | q
    · exact r.dj i p.root b hi z q
    · rcases hF b q with y | y
      · exact r.dj i p.root b hi z (A.spl.sub b y)
      · exact y.2.2.1 i z
  have hl := slot_lt A.slot
  refine ⟨⟨fun b => Ψ1.fs b ∨ G b, fun i => if i = p.root then F' else Ψ1.fo i⟩, ?_, ?_, fun b => Iff.rfl, fun i hi => if_neg hi, fun b => ?_⟩
  · refine ⟨fun b o q n k => ?_, fun b q => ktrk b (s.trk b q), fun b xs q => ktup b xs (s.tup b xs q), fun b o u q => kfrz b o u (s.frz b o u q), fun b q => .inl (s.fsL b q), fun b q => ?_, fun i hi => ?_, fun i hi b hb => ?_⟩
    · have q1 := s.keep b o q n k
      by_cases z : b = a
      · subst z
        exfalso
        rcases s.foM _ hm b haF with y | ⟨j, hj, y⟩
        · exact y ⟨o, q, n⟩
        · exact k j hj y
      · rw [kpt b z]; exact q1
    · rcases q with q | q
      · exact s.fsR b q
      · exact .inr (s.foM _ hm b (A.spl.sub b (hG b q).1))
    · show (if i = p.root then F' else Ψ1.fo i) = Ψ0.fo i
      rw [if_neg (fun z : i = p.root => hi (by rw [z]; exact hm))]
      exact s.foN i hi
    · have hb' : b ∈ (if i = p.root then F' else Ψ1.fo i) := hb
      by_cases z : i = p.root
      · rw [if_pos z] at hb'
        rcases (mF b).mp hb' with ⟨q, _⟩ | q
        · exact s.foM _ hm b q
        · rcases hF b q with y | y
          · exact s.foM _ hm b (A.spl.sub b y)
          · exact y.2.2.2
      · rw [if_neg z] at hb'
        exact s.foM i hi b hb'
  · have st : ∀ (F : Addr → Prop), (∀ b, F b → b ≠ a) → Stay F H1 (upd H1 a ob') := fun F h => ⟨fun b fb o q _ => by rw [kpt b (h b fb)]; exact q, ktup, kfrz⟩
    refine ⟨by rw [List.length_set]; exact r.len, fun i c hi => ?_, fun i c hi => ?_, fun i hi => ?_, fun b hb => ?_, fun i b hb hf => ?_, fun i j b hne hb hc => ?_, tb⟩
    · rw [slot_set] at hi
      by_cases z : p.root = i
      · rw [if_pos z, if_pos hl] at hi; cases hi
      · rw [if_neg z] at hi
        obtain ⟨u, e1, rp⟩ := r.sh i c hi
        exact ⟨u, e1, Rep.stay (st _ fun b fb q => r.ns _ a haF (q ▸ fb)) (fun b z => .inl z) rp⟩
    · rw [slot_set] at hi
      by_cases z : p.root = i
      · rw [if_pos z, if_pos hl] at hi
        cases hi
        refine ⟨v, by rw [← z]; exact A.sig, ?_⟩
        show Tree W _ _ v (if i = p.root then F' else Ψ1.fo i)
        rw [if_pos z.symm]
        exact tF
      · rw [if_neg z] at hi
        obtain ⟨u, e1, tr⟩ := r.ow i c hi
        refine ⟨u, e1, ?_⟩
        show Tree W _ _ u (if i = p.root then F' else Ψ1.fo i)
        rw [if_neg (Ne.symm z)]
        exact tr.stay (st _ fun b fb q => r.dj i p.root a (Ne.symm z) (q ▸ fb) haF)
    · show (if i = p.root then F' else Ψ1.fo i) = []
      by_cases z : i = p.root
      · exfalso
        refine hi d' ?_
        rw [slot_set, if_pos z.symm, if_pos hl]
      · rw [if_neg z]
        refine r.no i fun c hc => hi c ?_
        rw [slot_set, if_neg (Ne.symm z)]
        exact hc
    · rcases hb with hb | hb
      · exact ktrk b (r.fs b hb)
      · obtain ⟨o, q, n, _⟩ := r.fo_trk (A.spl.sub b (hG b hb).1)
        exact ktrk b ⟨o, q, n⟩
    · have hb' : b ∈ (if i = p.root then F' else Ψ1.fo i) := hb
      by_cases z : i = p.root
      · rw [if_pos z] at hb'
        exact nfs b hb' hf
      · rw [if_neg z] at hb'
        rcases hf with hf | hf
        · exact r.ns i b hb' hf
        · exact r.dj i p.root b z hb' (A.spl.sub b (hG b hf).1)
    · have hb' : b ∈ (if i = p.root then F' else Ψ1.fo i) := hb
      have hc' : b ∈ (if j = p.root then F' else Ψ1.fo j) := hc
      by_cases z : i = p.root
      · by_cases y : j = p.root
        · exact hne (z.trans y.symm)
        · rw [if_pos z] at hb'
          rw [if_neg y] at hc'
          exact nfo b hb' j y hc'
      · by_cases y : j = p.root
        · rw [if_neg z] at hb'
          rw [if_pos y] at hc'
          exact nfo b hc' i z hb'
        · rw [if_neg z] at hb'
          rw [if_neg y] at hc'
          exact r.dj i j b hne hb' hc'
  · show b ∈ (if p.root = p.root then F' else Ψ1.fo p.root) ↔ _
    rw [if_pos rfl]
    exact mF b
end
end PyI

set_option Elab.async false
set_option linter.all false
set_option maxRecDepth 100000
namespace PyI
open PySem PySem.Spec PyProof.Rows L2 LamX
/-- a path's reading -/
def tPth (p : Pa) : TE := fun σ H Q => ∃ v, pv p σ H = some v ∧ Q v H
def tKey (e : Ex) : TE := fun σ H Q => ∃ k, kvI e σ = some k ∧ Q k H
def rSub : R2 := fun x y H Q => ∃ w, subV x y H = some w ∧ Q w H
section
variable {W : Wd} {T : List (Addr × Str)} {Φ : Nat → Option Fn} {cf : CF} {XW : WX} {X : Cx} {σ : L2.St} {Ψ Ψ0 Ψ1 Ψ2 : Own} {H H0 H1 H2 H' : Hp} {δ δ1 : Env} {m m1 : Md} {ms ms1 : List Md} {M M1 : Slots} {Q : VK} {pos p2 p1 p3 apos : Pos} {o o1 : Bool}
theorem ix_sub (hu : X.A.units + 1 < cLine) : IxR X rSub := by
  intro value slice pins s σ H x y v u Q I rx ry ⟨w, h, q⟩ hs
  unfold subV at h
  split at h <;> first | (cases h; done) | skip
  rename_i a
  split at h <;> first | (cases h; done) | skip
  · rename_i vs e
    split at h <;> first | (cases h; done) | skip
    rename_i i
    obtain ⟨n, hn, h⟩ := Option.bind_eq_some_iff.mp h
    exact ix_list value slice pins s σ H _ _ v u Q I rx ry ⟨a, vs, i, w, rfl, rfl, SqL.of e, atI_get' hn h, q⟩ hs
  · rename_i kvs e
    have hk : ∃ k : Key, y = kV k ∧ valV kvs k = some w := by
      split at h <;> first | (cases h; done) | skip
      · exact ⟨.inl _, rfl, h⟩
      · exact ⟨.inr _, rfl, h⟩
    obtain ⟨k, rfl, hv⟩ := hk
    have g : DGet H a (kV k) (some w) := .inl ⟨_, _, .inl e, rfl, hv.symm⟩
    cases rx
    have hT := dict_typeIs I g
    unfold subscriptTail
    refine wpAny_bind ?_
    rw [getitemInPython_of_ne hT.not_modules]
    refine wpAny_bind (wpAny_specialOf hT PySem.F.slot_dict_getitem.lookup ?_)
    have fin : wpAny (model X.prog X.w) X.A (subscripted slice false (.ref a) u) (fun r s₃ => wpAny (model X.prog X.w) X.A (letTemporaryGo value (.ref a) r >>= fun _ => pure r) (EP X pins σ Q) X.xe s₃) X.xe s := by
      rw [hs]
      exact wpAny_operating (wpAny_mono (d_getItem (Q := EP X pins σ Q) hu I g ry fun w' s3 I3 rw' => ⟨w, H, I3, rw', q⟩) (fun r s₃ h₃ => wpAny_bind (wpAny_letTemporaryGo (wpAny_pure h₃))) fun _ _ x => x)
    first
      | exact wpAny_pure (wpAny_bind fin)
      | exact wpAny_bind (wpAny_pure (wpAny_bind fin))
      | exact wpAny_bind fin
theorem pth_v {i : Nat} {x : Expr} (h : PE X x (tVar i)) : PE X x (tPth (.v i)) := h.weak fun σ H Q ⟨v, e, q⟩ => by
  unfold pv at e
  split at e <;> first | (cases e; done) | skip
  rename_i w hw
  cases e
  exact ⟨v, hw, q⟩
theorem pth_ix (hu : X.A.units + 1 < cLine) {p : Pa} {e : Ex} {x y : Expr} (h : PE X x (tPth p)) (hk : PE X y (tKey e)) (hs : PlainIx y) : PE X (.Subscript x y pos) (tPth (.ix p e)) := (pe_ix (ix_sub hu) h hk hs).weak fun σ H Q ⟨v, e1, q⟩ => by
  unfold pv at e1
  split at e1 <;> first | (cases e1; done) | skip
  rename_i w hw
  obtain ⟨ks, h1, h2⟩ := Option.bind_eq_some_iff.mp e1
  simp only [Pa.kvs] at h1
  obtain ⟨ks0, g1, h1⟩ := Option.bind_eq_some_iff.mp h1
  obtain ⟨k, g2, rfl⟩ := Option.map_eq_some_iff.mp h1
  rw [atV_app] at h2
  obtain ⟨u, g3, g4⟩ := Option.bind_eq_some_iff.mp h2
  refine ⟨u, ?_, k, g2, v, g4, q⟩
  unfold pv
  have hw' : σ[p.root]? = some (some w) := hw
  rw [hw']
  simp only [g1, Option.bind_some, g3]
theorem key_cst {d : D} {v : V} {x : Expr} (hk : kOf d = some v) (h : PE X x (tC v)) : PE X x (tKey (.cst d)) := h.weak fun σ H Q ⟨k, e, q⟩ => by
  simp only [kvI, hk] at e
  cases e
  exact q
theorem key_var {i : Nat} {x : Expr} (h : PE X x (tVar i)) : PE X x (tKey (.var i)) := h.weak fun σ H Q ⟨k, e, q⟩ => by
  simp only [kvI] at e
  split at e <;> first | (cases e; done) | skip
  rename_i v hv
  cases e
  exact ⟨_, hv, q⟩
theorem key_neg {a : Ex} {x : Expr} (h : PE X x (tKey a)) : PE X (.UnaryOp .USub x pos) (tKey (.neg a)) := (pe_un un_neg h).weak fun σ H Q ⟨k, e, q⟩ => by
  simp only [kvI] at e
  split at e <;> first | (cases e; done) | skip
  rename_i i hi
  cases e
  exact ⟨_, hi, i, rfl, q⟩
theorem pe_borE {p : Pa} {x : Expr} (h : PE X x (tPth p)) : PE X x (tE W T Φ cf XW (.bor p) o) := h.weak fun σ H Q ⟨δ, Ψ, r, h⟩ => by
  simp only [ev] at h
  cases e : getP p δ with
  | none => rw [e] at h; exact h.elim
  | some d =>
    rw [e, opt_some] at h
    cases o with
    | true => exact h.elim
    | false =>
      obtain ⟨d0, v, w, ks, kvs, Fs, A⟩ := r.at_ e
      have h : Post W T XW (.bo p.root) (sl []) Ψ H σ (.ok d δ) Q := h
      exact ⟨w, A.pv, Post.here h r (Rep.mono (fun a ha => .inr (A.spl.sub a ha)) A.spl.tree.rep)⟩
theorem setP_some {p : Pa} {y : D} {δ δ' : Env} {d : D} {ks : List D} (h : setP p y δ = some δ') (hs : slot δ p.root = some (.ow d)) (hk : p.keys δ = some ks) : ∃ d', putAt d ks y = some d' ∧ δ' = δ.set p.root (some (.ow d')) := by
  unfold setP at h
  rw [hs] at h
  simp only [hk, Option.bind_some] at h
  obtain ⟨d', e, rfl⟩ := Option.map_eq_some_iff.mp h
  exact ⟨d', e, rfl⟩
theorem Trees.snoc : ∀ {xs : List D} {vs : List V} {F : List Addr} {x : D} {v : V} {F' : List Addr}, Trees W H xs vs F → Tree W H x v F' → (∀ a ∈ F, a ∉ F') → Trees W H (xs ++ [x]) (vs ++ [v]) (F ++ F')
  | [], vs, F, x, v, F', h, t, dj => by
    simp only [Trees] at h
    obtain ⟨rfl, rfl⟩ := h
    simp only [List.nil_append, Trees]
    exact ⟨v, [], F', [], rfl, by simp, t, ⟨rfl, rfl⟩, fun _ _ z => by cases z⟩
  | y :: xs, vs, F, x, v, F', h, t, dj => by
    simp only [Trees] at h
    obtain ⟨u, r, F1, F2, rfl, rfl, h1, h2, n⟩ := h
    simp only [List.cons_append, Trees]
    refine ⟨u, r ++ [v], F1, F2 ++ F', rfl, by rw [List.append_assoc], h1, Trees.snoc h2 t fun a ha => dj a (List.mem_append_right _ ha), fun a ha hb => ?_⟩
    rcases List.mem_append.mp hb with hb | hb
    · exact n a ha hb
    · exact dj a (List.mem_append_left _ ha) hb
theorem Trees.erase : ∀ {xs : List D} {vs : List V} {F : List Addr} {n : Nat} {x : D}, Trees W H xs vs F → xs[n]? = some x → ∃ w F1 Fx, vs[n]? = some w ∧ Tree W H x w Fx ∧ Trees W H (xs.eraseIdx n) (vs.eraseIdx n) F1 ∧ (∀ a, a ∈ F ↔ a ∈ F1 ∨ a ∈ Fx) ∧ ∀ a ∈ F1, a ∉ Fx
  | [], _, _, n, x, _, e => by simp at e
  | y :: xs, vs, F, n, x, h, e => by
    simp only [Trees] at h
    obtain ⟨u, r, F1, F2, rfl, rfl, h1, h2, dj⟩ := h
    cases n with
    | zero =>
      simp at e
      subst e
      exact ⟨u, F2, F1, by simp, h1, by simpa using h2, fun a => by rw [List.mem_append]; exact Or.comm, fun a ha hb => dj a hb ha⟩
    | succ n =>
      obtain ⟨w, G1, Gx, e1, t1, t2, m, n2⟩ := Trees.erase (n := n) h2 (by simpa using e)
      refine ⟨w, F1 ++ G1, Gx, by simpa using e1, t1, ?_, fun a => ?_, fun a ha hb => ?_⟩
      · simp only [List.eraseIdx_cons_succ, Trees]
        exact ⟨u, _, F1, G1, rfl, rfl, h1, t2, fun a ha hb => dj a ha ((m a).mpr (.inl hb))⟩
      · rw [List.mem_append, List.mem_append, m]
        constructor
        · rintro (z | z | z)
          · exact .inl (.inl z)
          · exact .inl (.inr z)
          · exact .inr z
        · rintro ((z | z) | z)
          · exact .inl z
          · exact .inr (.inl z)
          · exact .inr (.inr z)
      · rcases List.mem_append.mp ha with ha | ha
        · exact dj a ha ((m a).mpr (.inr hb))
        · exact n2 a ha hb
theorem D.isL_inv {x : D} (h : x.isL = true) : ∃ xs, x = .lst xs := by
  cases x <;> first | (cases h; done) | exact ⟨_, rfl⟩
/-- a list at a place, as it stands -/
theorem At.lst {p : Pa} {xs : List D} {d : D} {v w : V} {ks : List D} {kvs : List V} {Fs : List Addr} (A : At W Ψ δ σ H p (.lst xs) d v w ks kvs Fs) : ∃ a vs F', w = .ref a ∧ H a = some (.lst vs) ∧ vs.length ≤ sizeLine ∧ Fs = a :: F' ∧ a ∉ F' ∧ Trees W H xs vs F' := by
  have t := A.spl.tree
  simp only [Tree] at t
  exact t
/-- a method that changes a list, its arguments owned -/
theorem te_pm {mm : Pm} {p : Pa} {es : Exs} {rr : V → List V → Hp → VK → Prop} (hl : mm.isL = true) (hm : p.root ∉ es.mods) (ho : (o = false ∨ True))
    (step : ∀ (δ1 : Env) (Ψ1 : Own) (H1 : Hp) (xs : List D) (ds : List D) (vs : List V) (rd : D) (x' : D) (δ2 : Env) (F : List Addr) (d : D) (v w : V) (ks : List D) (kvs : List V) (Fs : List Addr), Step (sl (p.root :: es.mods)) Ψ0 H0 Ψ1 H1 → Rel W T Ψ1 δ1 σ H1 → At W Ψ1 δ1 σ H1 p (.lst xs) d v w ks kvs Fs →
      Trees W H1 ds vs F → Pend Ψ1 H1 F → (∀ a ∈ F, ¬ trk H0 a ∨ ∃ j ∈ sl (p.root :: es.mods), a ∈ Ψ0.fo j) → pmS mm (.lst xs) ds = some (rd, x') → setP p x' δ1 = some δ2 → Post W T XW (if o then .ow else .sh) (sl (p.root :: es.mods)) Ψ0 H0 σ (.ok rd δ2) Q → rr w vs H1 Q)
    (r : Rel W T Ψ0 δ σ H0) (h : Post W T XW ((Ex.pm mm p es).md o) (sl (Ex.pm mm p es).mods) Ψ0 H0 σ (ev Φ cf (.pm mm p es) o δ) Q) : tBM X.K "list" rr (tPth p) (tEs W T Φ cf XW es true) σ H0 Q := by
  simp only [ev] at h
  cases e : getP p δ with
  | none => rw [e] at h; exact h.elim
  | some x0 =>
    rw [e] at h
    simp only at h
    by_cases hk : (x0.isL == mm.isL) = true
    · rw [if_pos hk] at h
      rw [hl] at hk
      obtain ⟨xs0, rfl⟩ := D.isL_inv (show x0.isL = true by simpa using hk)
      obtain ⟨d0, v0, w0, ks0, kvs0, Fs0, A0⟩ := r.at_ e
      obtain ⟨a0, us, F0, rfl, q1, _⟩ := A0.lst
      refine ⟨.ref a0, A0.pv, .inl ⟨rfl, us, SqL.of q1⟩, ?_⟩
      refine ⟨δ, Ψ0, r, seqLO Step.refl (fun i hi => List.mem_cons_of_mem _ hi) h fun ds δ1 vs H1 Ψ1 s1 r1 p1 h1 => ?_⟩
      obtain ⟨F, t, q, b⟩ := p1
      cases e1 : getP p δ1 with
      | none => rw [e1] at h1; exact h1.elim
      | some x =>
        rw [e1] at h1
        simp only at h1
        cases e2 : pmS mm x ds with
        | none => rw [e2] at h1; exact h1.elim
        | some z =>
          obtain ⟨rd, x'⟩ := z
          rw [e2] at h1
          simp only at h1
          cases e3 : setP p x' δ1 with
          | none => rw [e3] at h1; exact h1.elim
          | some δ2 =>
            rw [e3] at h1
            obtain ⟨d, v, w, ks, kvs, Fs, A⟩ := r1.at_ e1
            have hw : w = .ref a0 := by
              have z := r.pv_stay e s1 hm
              rw [A.pv, A0.pv] at z
              exact Option.some.inj z
            have hx : ∃ xs, x = .lst xs := by
              cases mm <;> first | (cases hl; done) | skip
              all_goals (cases x <;> first | exact ⟨_, rfl⟩ | (simp only [pmS] at e2; cases e2; done))
            obtain ⟨xs, rfl⟩ := hx
            rw [← hw]
            refine step δ1 Ψ1 H1 xs ds vs rd x' δ2 F d v w ks kvs Fs (s1.mono fun i hi => List.mem_cons_of_mem _ hi) r1 A t q (fun a ha => (b a ha).imp id fun ⟨j, hj, z⟩ => ⟨j, List.mem_cons_of_mem _ hj, z⟩) e2 e3 ?_
            exact Post.m_eq (by cases o <;> rfl) h1
    · rw [if_neg hk] at h
      exact h.elim
theorem te_append {p : Pa} {e : Ex} (hm : p.root ∉ (Exs.cons e .nil).mods) (h : tE W T Φ cf XW (.pm .append p (.cons e .nil)) o σ H Q) : tBM X.K "list" rAppend (tPth p) (tEs W T Φ cf XW (.cons e .nil) true) σ H Q := by
  obtain ⟨δ, Ψ, r, h⟩ := h
  refine te_pm rfl hm (.inr trivial) (fun δ1 Ψ1 H1 xs ds vs rd x' δ2 F d v w ks kvs Fs s1 r1 A t q b e2 e3 h1 => ?_) r h
  rcases ds with _ | ⟨y, _ | ⟨_, _⟩⟩ <;> simp only [pmS] at e2 <;> first | (cases e2; done) | skip
  split at e2 <;> cases e2
  rename_i hz
  have hz := of_decide_eq_true hz
  rw [LINE_eq] at hz
  obtain ⟨a, us, F', rfl, q1, q2, rfl, na, tr⟩ := A.lst
  simp only [Trees] at t
  obtain ⟨u, r', F1, F2, rfl, rfl, ty, ⟨rfl, rfl⟩, _⟩ := t
  rw [List.append_nil] at q b
  obtain ⟨d', e4, rfl⟩ := setP_some e3 A.slot A.keys
  refine ⟨a, us, u, rfl, rfl, q1, by rw [← tr.len]; exact hz, ?_⟩
  have nF1 : ∀ c ∈ F1, c ∉ a :: F' := fun c hc hd => q.no c hc _ (A.spl.sub c hd)
  have st : ∀ G : List Addr, a ∉ G → Stay (fun c => c ∈ G) H1 (upd H1 a (.lst (us ++ [u]))) := fun G hG => ⟨fun c hc o e _ => by rw [upd_ne fun z => hG (by rw [← z]; exact hc)]; exact e, fun c ys e => by rw [upd_ne fun z => by rw [z, q1] at e; cases e]; exact e, fun c ob w e => by rw [upd_ne fun z => by rw [z, q1] at e; cases e]; exact e⟩
  have aF1 : a ∉ F1 := fun z => nF1 a z List.mem_cons_self
  obtain ⟨Ψ2, S2, R2, _, _, _⟩ := rel_write (G := fun _ => False) (ob' := .lst (us ++ [u])) (x' := .lst (xs ++ [y])) (Fs' := a :: (F' ++ F1)) s1 r1 A (List.mem_cons_self) (List.mem_cons_self) q1 trivial trivial
    (by
      simp only [Tree]
      refine ⟨a, _, F' ++ F1, rfl, upd_same, ?_, rfl, ?_, Trees.snoc (tr.stay (st _ na)) (ty.stay (st _ aF1)) fun c hc hd => nF1 c hd (List.mem_cons_of_mem _ hc)⟩
      · rw [List.length_append, List.length_singleton, ← tr.len]; omega
      · rw [List.mem_append]; exact fun z => z.elim na aF1)
    (fun c hc => by
      rcases List.mem_cons.mp hc with rfl | hc
      · exact .inl List.mem_cons_self
      · rcases List.mem_append.mp hc with hc | hc
        · exact .inl (List.mem_cons_of_mem _ hc)
        · exact .inr ⟨q.trk c hc, q.ns c hc, q.no c hc, b c hc⟩)
    (fun c hc => hc.elim) e4
  exact h1 .non _ Ψ2 S2 R2 (rp_imm (F := fun _ => False) rfl (by simp only [Rep]))
theorem te_pop {mm : Pm} {p : Pa} {es : Exs} {rr : V → List V → Hp → VK → Prop} (hmm : mm.isL = true) (hm : p.root ∉ es.mods)
    (hpm : ∀ xs ds rd x', pmS mm (.lst xs) ds = some (rd, x') → ∃ n, xs[n]? = some rd ∧ x' = .lst (xs.eraseIdx n) ∧ ∀ (F : List Addr) (H1 : Hp) (vs us : List V) (a : Addr) (w : V) (Q : VK), Trees W H1 ds vs F → us.length = xs.length → us.length ≤ sizeLine → H1 a = some (.lst us) → us[n]? = some w → Q w (upd H1 a (.lst (us.eraseIdx n))) → rr (.ref a) vs H1 Q)
    (h : tE W T Φ cf XW (.pm mm p es) o σ H Q) : tBM X.K "list" rr (tPth p) (tEs W T Φ cf XW es true) σ H Q := by
  obtain ⟨δ, Ψ, r, h⟩ := h
  refine te_pm hmm hm (.inr trivial) (fun δ1 Ψ1 H1 xs ds vs rd x' δ2 F d v w ks kvs Fs s1 r1 A t q b e2 e3 h1 => ?_) r h
  obtain ⟨n, en, rfl, go⟩ := hpm _ _ _ _ e2
  obtain ⟨a, us, F', rfl, q1, q2, rfl, na, tr⟩ := A.lst
  obtain ⟨u, G1, Gx, eu, tu, tG, mm', dj⟩ := tr.erase en
  obtain ⟨d', e4, rfl⟩ := setP_some e3 A.slot A.keys
  refine go F H1 vs us a u Q t tr.len.symm q2 q1 eu ?_
  have st : ∀ G : List Addr, a ∉ G → Stay (fun c => c ∈ G) H1 (upd H1 a (.lst (us.eraseIdx n))) := fun G hG => ⟨fun c hc o e _ => by rw [upd_ne fun z => hG (by rw [← z]; exact hc)]; exact e, fun c ys e => by rw [upd_ne fun z => by rw [z, q1] at e; cases e]; exact e, fun c ob w e => by rw [upd_ne fun z => by rw [z, q1] at e; cases e]; exact e⟩
  have aG1 : a ∉ G1 := fun z => na ((mm' a).mpr (.inl z))
  have aGx : a ∉ Gx := fun z => na ((mm' a).mpr (.inr z))
  have tx := tu.stay (st _ aGx)
  have key := fun G hG => rel_write (G := G) (ob' := .lst (us.eraseIdx n)) (x' := .lst (xs.eraseIdx n)) (Fs' := a :: G1) s1 r1 A (List.mem_cons_self) (List.mem_cons_self) q1 trivial trivial
    (by
      simp only [Tree]
      refine ⟨a, _, G1, rfl, upd_same, ?_, rfl, aG1, tG.stay (st _ aG1)⟩
      exact Nat.le_trans (List.length_eraseIdx_le _ _) q2)
    (fun c hc => by
      rcases List.mem_cons.mp hc with rfl | hc
      · exact .inl List.mem_cons_self
      · exact .inl (List.mem_cons_of_mem _ ((mm' c).mpr (.inl hc))))
    hG e4
  have inGx : ∀ c ∈ Gx, c ∈ a :: F' ∧ c ∉ a :: G1 := fun c hc => ⟨List.mem_cons_of_mem _ ((mm' c).mpr (.inr hc)), fun z => by
    rcases List.mem_cons.mp z with rfl | z
    · exact aGx hc
    · exact dj c z hc⟩
  cases o with
  | false =>
    obtain ⟨Ψ2, S2, R2, f1, _, _⟩ := key (fun c => c ∈ Gx) inGx
    exact h1 u _ Ψ2 S2 R2 (Rep.mono (fun c hc => (f1 c).mpr (.inr hc)) tx.rep)
  | true =>
    obtain ⟨Ψ2, S2, R2, f1, f2, f3⟩ := key (fun _ => False) (fun c hc => hc.elim)
    refine h1 u _ Ψ2 S2 R2 ⟨Gx, tx, ⟨fun c hc => ?_, fun c hc hf => ?_, fun c hc i hi => ?_⟩, fun c hc => ?_⟩
    · obtain ⟨ob, eo, n1, _⟩ := tx.trk c hc
      exact ⟨ob, eo, n1⟩
    · rcases (f1 c).mp hf with z | z
      · exact r1.ns _ c (A.spl.sub c (inGx c hc).1) z
      · exact z
    · by_cases z : i = p.root
      · rw [z] at hi
        rcases (f3 c).mp hi with y | y
        · exact y.2 (inGx c hc).1
        · exact (inGx c hc).2 y
      · rw [f2 i z] at hi
        exact r1.dj i p.root c z hi (A.spl.sub c (inGx c hc).1)
    · exact s1.foM _ (mem_sl.mpr List.mem_cons_self) c (A.spl.sub c (inGx c hc).1)
theorem pop0_ok : ∀ xs ds rd x', pmS .pop0 (.lst xs) ds = some (rd, x') → ∃ n, xs[n]? = some rd ∧ x' = .lst (xs.eraseIdx n) ∧ ∀ (F : List Addr) (H1 : Hp) (vs us : List V) (a : Addr) (w : V) (Q : VK), Trees W H1 ds vs F → us.length = xs.length → us.length ≤ sizeLine → H1 a = some (.lst us) → us[n]? = some w → Q w (upd H1 a (.lst (us.eraseIdx n))) → rPop (.ref a) vs H1 Q := by
  intro xs ds rd x' h
  cases ds <;> simp only [pmS] at h <;> first | (cases h; done) | skip
  obtain ⟨y, e, h⟩ := Option.map_eq_some_iff.mp h
  cases h
  refine ⟨_, e, rfl, fun F H1 vs us a w Q t hl hz e1 e2 q => ?_⟩
  simp only [Trees] at t
  rw [← hl] at e2 q
  refine ⟨a, us, w, rfl, t.1, e1, e2, ?_⟩
  rw [← List.eraseIdx_length_sub_one]
  exact q
theorem popAt_ok : ∀ xs ds rd x', pmS .popAt (.lst xs) ds = some (rd, x') → ∃ n, xs[n]? = some rd ∧ x' = .lst (xs.eraseIdx n) ∧ ∀ (F : List Addr) (H1 : Hp) (vs us : List V) (a : Addr) (w : V) (Q : VK), Trees W H1 ds vs F → us.length = xs.length → us.length ≤ sizeLine → H1 a = some (.lst us) → us[n]? = some w → Q w (upd H1 a (.lst (us.eraseIdx n))) → rPopAt (.ref a) vs H1 Q := by
  intro xs ds rd x' h
  rcases ds with _ | ⟨y, _ | ⟨_, _⟩⟩ <;> simp only [pmS] at h <;> first | (cases h; done) | skip
  cases y <;> first | (cases h; done) | skip
  rename_i i
  obtain ⟨k, hk, h⟩ := Option.bind_eq_some_iff.mp h
  obtain ⟨y, e, h⟩ := Option.map_eq_some_iff.mp h
  cases h
  refine ⟨k, e, rfl, fun F H1 vs us a w Q t hl hz e1 e2 q => ?_⟩
  simp only [Trees, Tree] at t
  obtain ⟨v, r, F1, F2, rfl, rfl, ⟨rfl, _⟩, ⟨rfl, _⟩, _⟩ := t
  rw [← hl, place_ixN] at hk
  obtain ⟨h1, h2, h3, h4⟩ := ixN_seq hk
  have hn := line63
  exact ⟨a, us, i, k, w, rfl, rfl, e1, by omega, by omega, h1, e2, q⟩
theorem pe_appendE {p : Pa} {e : Ex} {x y : Expr} (hm : p.root ∉ (Exs.cons e .nil).mods) (hx : PE X x (tPth p)) (hy : PA X [y] (tEs W T Φ cf XW (.cons e .nil) true)) (hs : starEach [y] X.env = (false, eval y X.env) :: starEach [] X.env) (hbase : attributeBase x "append" X.env (eval x X.env) = eval x X.env) (hline : (apos.endLine == pos.line) = true) :
    PE X (.Call (.Attribute x "append" apos) [y] [] pos) (tE W T Φ cf XW (.pm .append p (.cons e .nil)) o) :=
  (pe_bm F.plainAttrs_list F.slot_list_append F.type_list_append mt_append hx hy hbase (by rw [hs]; rfl) hline hs rfl).weak fun _ _ _ q => te_append hm q
theorem pe_pop0E {p : Pa} {x : Expr} (hx : PE X x (tPth p)) (hbase : attributeBase x "pop" X.env (eval x X.env) = eval x X.env) (hline : (apos.endLine == pos.line) = true) :
    PE X (.Call (.Attribute x "pop" apos) [] [] pos) (tE W T Φ cf XW (.pm .pop0 p .nil) o) :=
  (pe_bm0 F.plainAttrs_list F.slot_list_pop F.type_list_pop mt_pop hx hbase hline).weak fun σ H Q q => by
    obtain ⟨v, e, ty, δ, Ψ, r, h⟩ := te_pop (X := X) (rr := rPop) rfl (fun z => by cases z) pop0_ok q
    exact ⟨v, e, ty, h [] H Ψ Step.refl r ⟨[], by simp only [Trees]; exact ⟨trivial, trivial⟩, pend_nil, fun a ha => absurd ha List.not_mem_nil⟩⟩
theorem pe_popAtE {p : Pa} {e : Ex} {x y : Expr} (hm : p.root ∉ (Exs.cons e .nil).mods) (hx : PE X x (tPth p)) (hy : PA X [y] (tEs W T Φ cf XW (.cons e .nil) true)) (hs : starEach [y] X.env = (false, eval y X.env) :: starEach [] X.env) (hbase : attributeBase x "pop" X.env (eval x X.env) = eval x X.env) (hline : (apos.endLine == pos.line) = true) :
    PE X (.Call (.Attribute x "pop" apos) [y] [] pos) (tE W T Φ cf XW (.pm .popAt p (.cons e .nil)) o) :=
  (pe_bm F.plainAttrs_list F.slot_list_pop F.type_list_pop mt_popAt hx hy hbase (by rw [hs]; rfl) hline hs rfl).weak fun _ _ _ q => te_pop rfl hm popAt_ok q
end
end PyI

set_option Elab.async false
set_option linter.all false
set_option maxRecDepth 100000
namespace PyI
open PySem PySem.Spec PyProof.Rows L2 LamX
mutual
theorem Tree.wr {W : Wd} {H : Hp} : ∀ {d : D} {v : V} {F : List Addr}, Tree W H d v F → ∀ a ∈ F, ∃ o, H a = some o ∧ Wr o
  | .non, v, F, h, a, m => by simp only [Tree] at h; rw [h.2] at m; cases m
  | .bl b, v, F, h, a, m => by simp only [Tree] at h; rw [h.2] at m; cases m
  | .int i, v, F, h, a, m => by simp only [Tree] at h; rw [h.2] at m; cases m
  | .str cs, v, F, h, a, m => by simp only [Tree] at h; rw [h.2.2] at m; cases m
  | .tup xs, v, F, h, a, m => by
    simp only [Tree] at h
    obtain ⟨_, vs, e, h1, hz, h2⟩ := h
    exact Trees.wr h2 a m
  | .lst xs, v, F, h, a, m => by
    simp only [Tree] at h
    obtain ⟨b, vs, F', e, h1, hz, rfl, n, h2⟩ := h
    rcases List.mem_cons.mp m with rfl | m
    · exact ⟨_, h1, trivial⟩
    · exact Trees.wr h2 a m
  | .dct ks ds, v, F, h, a, m => by
    simp only [Tree] at h
    obtain ⟨b, o, ws, F', e, h1, ⟨_, _, _, rfl, _⟩, hz, rfl, n, h3⟩ := h
    rcases List.mem_cons.mp m with rfl | m
    · exact ⟨_, h1, trivial⟩
    · exact Trees.wr h3 a m
  | .exc c fs, v, F, h, _, _ => by simp only [Tree] at h
  | .scr is, v, F, h, a, m => by simp only [Tree] at h; rw [h.2] at m; cases m
theorem Trees.wr {W : Wd} {H : Hp} : ∀ {xs : List D} {vs : List V} {F : List Addr}, Trees W H xs vs F → ∀ a ∈ F, ∃ o, H a = some o ∧ Wr o
  | [], vs, F, h, a, m => by simp only [Trees] at h; rw [h.2] at m; cases m
  | x :: xs, vs, F, h, a, m => by
    simp only [Trees] at h
    obtain ⟨v, r, F1, F2, rfl, rfl, h1, h2, n⟩ := h
    rcases List.mem_append.mp m with m | m
    · exact Tree.wr h1 a m
    · exact Trees.wr h2 a m
end
def As.roots : As → List Nat
  | .nil => []
  | .val _ r => r.roots
  | .io p r => p.root :: r.roots
/-- the slots that are lent as values -/
def As.bors : As → List Nat
  | .nil => []
  | .val e r => (match e.lent with
    | some i => [i]
    | none => []) ++ r.bors
  | .io _ r => r.bors
/-- what an argument needs of those behind it -/
def As.sep : As → Bool
  | .nil => true
  | .val e r => e.off r.mods && r.sep
  | .io p r => !r.mods.contains p.root && r.sep
section
variable {W : Wd} {T : List (Addr × Str)} {Φ : Nat → Option Fn} {cf : CF} {XW : WX} {X : Cx} {σ : L2.St} {Ψ Ψ0 Ψ1 Ψ2 : Own} {H H0 H1 H2 H' : Hp} {δ δ1 : Env} {m m1 : Md} {ms ms1 : List Md} {M M1 : Slots} {Q : VK} {pos p2 p1 p3 apos : Pos} {o o1 : Bool}
/-- the arguments' values -/
def ArgV (W : Wd) (σ : L2.St) (Ψ' : Own) (H' : Hp) : As → List D → List V → Prop
  | .nil, ds, vs => ds = [] ∧ vs = []
  | .val e r, ds, vs => ∃ d ds' v vs', ds = d :: ds' ∧ vs = v :: vs' ∧ RP W (e.md false) (sl []) Ψ' H' Ψ' H' d v ∧ ArgV W σ Ψ' H' r ds' vs'
  | .io p r, ds, vs => ∃ v vs', vs = v :: vs' ∧ pv p σ H' = some v ∧ ArgV W σ Ψ' H' r ds vs'
def PostA (W : Wd) (T : List (Addr × Str)) (XW : WX) (es : As) (M : Slots) (Ψ : Own) (H : Hp) (σ : L2.St) (out : OutL) (Q : List V → Hp → Prop) : Prop := match out with
  | .ok ds δ' => ∀ vs H' Ψ', Step M Ψ H Ψ' H' → Rel W T Ψ' δ' σ H' → ArgV W σ Ψ' H' es ds vs → Q vs H'
  | .er x δ' => ∀ cls dd H' Ψ', Step M Ψ H Ψ' H' → Rel W T Ψ' δ' σ H' → ExV W x cls dd H' Ψ'.fs → XW cls dd σ H'
  | .bad => False
def tAs (W : Wd) (T : List (Addr × Str)) (Φ : Nat → Option Fn) (cf : CF) (XW : WX) (es : As) : TA := fun σ H Q => ∃ δ Ψ, Rel W T Ψ δ σ H ∧ PostA W T XW es (sl es.mods) Ψ H σ (evA Φ cf es δ) Q
theorem RP.any {e : Ex} {d : D} {v : V} (p : RP W (e.md false) M Ψ H Ψ1 H1 d v) : RP W (e.md false) M1 Ψ2 H2 Ψ1 H1 d v := by
  cases he : isBor e with
  | false =>
    rw [Ex.md_sh he] at p ⊢
    exact p
  | true =>
    cases e <;> first | (cases he; done) | exact p
theorem pas_nil : PA X [] (tAs W T Φ cf XW .nil) := pa_nil.weak fun σ H Q ⟨δ, Ψ, r, h⟩ => h [] H Ψ Step.refl r ⟨rfl, rfl⟩
theorem pas_val {e : Ex} {es : As} {x : Expr} {xs : List Expr} (hoff : e.off es.mods = true) (ha : PE X x (tE W T Φ cf XW e false)) (hr : PA X xs (tAs W T Φ cf XW es)) (hs : starEach (x :: xs) X.env = (false, eval x X.env) :: starEach xs X.env) :
    PA X (x :: xs) (tAs W T Φ cf XW (.val e es)) := (pa_cons ha hr hs).weak fun σ H Q ⟨δ, Ψ, r, h⟩ => by
  simp only [evA] at h
  refine ⟨δ, Ψ, r, ?_⟩
  cases q : ev Φ cf e false δ with
  | bad => rw [q] at h; exact h.elim
  | er x δ1 => rw [q] at h; exact fun cls dd H' Ψ' s r p => h cls dd H' Ψ' (s.mono sub_l) r p
  | ok d δ1 =>
    rw [q] at h
    simp only [Out.thenL_ok] at h
    intro v H1 Ψ1 s1 r1 p1
    refine ⟨δ1, Ψ1, r1, ?_⟩
    cases q2 : evA Φ cf es δ1 with
    | bad => rw [q2] at h; exact h.elim
    | er x δ2 => rw [q2] at h; exact fun cls dd H' Ψ' s r p => h cls dd H' Ψ' ((s1.mono sub_l).trans (s.mono sub_r)) r p
    | ok ds δ2 =>
      rw [q2] at h
      intro vs H2 Ψ2 s2 r2 p2
      exact h (v :: vs) H2 Ψ2 ((s1.mono sub_l).trans (s2.mono sub_r)) r2 ⟨d, ds, v, vs, rfl, rfl, RP.any (RP.step r1 p1 s2 (off_sl hoff)), p2⟩
theorem pas_io {p : Pa} {es : As} {x : Expr} {xs : List Expr} (hoff : p.root ∉ es.mods) (ha : PE X x (tPth p)) (hr : PA X xs (tAs W T Φ cf XW es)) (hs : starEach (x :: xs) X.env = (false, eval x X.env) :: starEach xs X.env) :
    PA X (x :: xs) (tAs W T Φ cf XW (.io p es)) := (pa_cons ha hr hs).weak fun σ H Q ⟨δ, Ψ, r, h⟩ => by
  simp only [evA] at h
  cases e : getP p δ with
  | none => rw [e] at h; exact h.elim
  | some d =>
    rw [e] at h
    obtain ⟨d0, v, w, ks, kvs, Fs, A⟩ := r.at_ e
    refine ⟨w, A.pv, δ, Ψ, r, ?_⟩
    cases q2 : evA Φ cf es δ with
    | bad => rw [q2] at h; exact h.elim
    | er x δ2 => rw [q2] at h; exact fun cls dd H' Ψ' s r p => h cls dd H' Ψ' (s.mono fun i hi => List.mem_cons_of_mem _ hi) r p
    | ok ds δ2 =>
      rw [q2] at h
      intro vs H2 Ψ2 s2 r2 p2
      exact h (w :: vs) H2 Ψ2 (s2.mono fun i hi => List.mem_cons_of_mem _ hi) r2 ⟨w, vs, rfl, (r.pv_stay e s2 hoff).trans A.pv, p2⟩
/-- where shared arguments stand -/
def FC (l : List Nat) (Ψ : Own) : Addr → Prop := fun a => Ψ.fs a ∨ ∃ i ∈ l, a ∈ Ψ.fo i
/-- the arguments at the call -/
inductive ArgR (W : Wd) (Ψ : Own) (δ : Env) (σ : L2.St) (H : Hp) (B : List Nat) : As → List Bool → List D → List V → List (List Addr) → Prop
  | nil : ArgR W Ψ δ σ H B .nil [] [] [] []
  | val {e r ms d ds v vs Fss} : Rep W H (FC B Ψ) d v → ArgR W Ψ δ σ H B r ms ds vs Fss → ArgR W Ψ δ σ H B (.val e r) (false :: ms) (d :: ds) (v :: vs) ([] :: Fss)
  | io {p r ms x ds w vs Fss d v ks kvs Fs} : At W Ψ δ σ H p x d v w ks kvs Fs → ArgR W Ψ δ σ H B r ms ds vs Fss → ArgR W Ψ δ σ H B (.io p r) (true :: ms) (x :: ds) (w :: vs) (Fs :: Fss)
theorem argR_of (r : Rel W T Ψ δ σ H) {B : List Nat} : ∀ {es : As} {ms : List Bool} {xs ds : List D} {vs : List V}, (∀ i ∈ es.bors, i ∈ B) → ArgV W σ Ψ H es xs vs → argsOf es ms xs δ = some ds → ∃ Fss, ArgR W Ψ δ σ H B es ms ds vs Fss
  | .nil, ms, xs, ds, vs, _, h, e => by
    obtain ⟨rfl, rfl⟩ := h
    cases ms with
    | nil => cases e; exact ⟨[], .nil⟩
    | cons a b => simp [argsOf] at e
  | .val ex re, ms, xs, ds, vs, hb, h, e => by
    obtain ⟨d, ds', v, vs', rfl, rfl, p, q⟩ := h
    cases ms with
    | nil => simp [argsOf] at e
    | cons a ms =>
      cases a with
      | true => simp [argsOf] at e
      | false =>
        simp only [argsOf] at e
        obtain ⟨ds2, e2, rfl⟩ := Option.map_eq_some_iff.mp e
        obtain ⟨Fss, h2⟩ := argR_of r (es := re) (fun i hi => hb i (List.mem_append_right _ hi)) q e2
        refine ⟨[] :: Fss, .val ?_ h2⟩
        cases he : isBor ex with
        | false =>
          rw [Ex.md_sh he] at p
          exact Rep.mono (fun a z => .inl z) p
        | true =>
          cases ex <;> first | (cases he; done) | skip
          exact Rep.mono (fun a z => z.imp id fun z => ⟨_, hb _ (List.mem_append_left _ List.mem_cons_self), z⟩) p
  | .io pa re, ms, xs, ds, vs, hb, h, e => by
    obtain ⟨v, vs', rfl, ep, q⟩ := h
    cases ms with
    | nil => simp [argsOf] at e
    | cons a ms =>
      cases a with
      | false => simp [argsOf] at e
      | true =>
        simp only [argsOf] at e
        split at e <;> first | (cases e; done) | skip
        rename_i x eg
        obtain ⟨ds2, e2, rfl⟩ := Option.map_eq_some_iff.mp e
        obtain ⟨Fss, h2⟩ := argR_of r (es := re) hb q e2
        obtain ⟨d0, v0, w, ks, kvs, Fs, A⟩ := r.at_ eg
        have : v = w := by
          have z := A.pv
          rw [ep] at z
          exact Option.some.inj z
        subst this
        exact ⟨Fs :: Fss, .io A h2⟩
end
end PyI

set_option Elab.async false
set_option linter.all false
set_option maxRecDepth 100000
namespace PyI
open PySem PySem.Spec PyProof.Rows L2 LamX
def startS (n : Nat) (vs : List V) : L2.St := vs.map some ++ List.replicate (n - vs.length) none
def As.pa : As → Nat → Option Pa
  | .nil, _ => none
  | .val _ _, 0 => none
  | .val _ r, i + 1 => r.pa i
  | .io p _, 0 => some p
  | .io _ r, i + 1 => r.pa i
theorem As.pa_root : ∀ {es : As} {i : Nat} {p : Pa}, es.pa i = some p → p.root ∈ es.roots
  | .nil, _, _, h => by cases h
  | .val _ r, 0, _, h => by cases h
  | .val _ r, i + 1, _, h => As.pa_root (es := r) h
  | .io q r, 0, _, h => by cases h; exact List.mem_cons_self
  | .io q r, i + 1, _, h => List.mem_cons_of_mem _ (As.pa_root (es := r) h)
theorem As.root_pa : ∀ {es : As} {k : Nat}, k ∈ es.roots → ∃ i p, es.pa i = some p ∧ p.root = k
  | .nil, _, h => by cases h
  | .val _ r, k, h => by
    obtain ⟨i, p, e, q⟩ := As.root_pa (es := r) h
    exact ⟨i + 1, p, e, q⟩
  | .io q r, k, h => by
    rcases List.mem_cons.mp h with rfl | h
    · exact ⟨0, q, rfl, rfl⟩
    · obtain ⟨i, p, e, q⟩ := As.root_pa (es := r) h
      exact ⟨i + 1, p, e, q⟩
theorem As.pa_inj : ∀ {es : As} {i j : Nat} {p q : Pa}, es.roots.Nodup → es.pa i = some p → es.pa j = some q → p.root = q.root → i = j
  | .nil, _, _, _, _, _, h, _, _ => by cases h
  | .val _ r, 0, _, _, _, _, h, _, _ => by cases h
  | .val _ r, _ + 1, 0, _, _, _, _, h, _ => by cases h
  | .val _ r, i + 1, j + 1, p, q, n, h1, h2, e => by rw [As.pa_inj (es := r) n h1 h2 e]
  | .io x r, 0, 0, _, _, _, _, _, _ => rfl
  | .io x r, 0, j + 1, p, q, n, h1, h2, e => by
    cases h1
    have z := As.pa_root (es := r) h2
    rw [← e] at z
    exact absurd z (List.nodup_cons.mp n).1
  | .io x r, i + 1, 0, p, q, n, h1, h2, e => by
    cases h2
    have z := As.pa_root (es := r) h1
    rw [e] at z
    exact absurd z (List.nodup_cons.mp n).1
  | .io x r, i + 1, j + 1, p, q, n, h1, h2, e => by rw [As.pa_inj (es := r) (List.nodup_cons.mp n).2 h1 h2 e]
section
variable {W : Wd} {T : List (Addr × Str)} {Φ : Nat → Option Fn} {cf : CF} {XW : WX} {X : Cx} {σ σ' : L2.St} {Ψ Ψ0 Ψ1 Ψ2 Ψ' : Own} {H H0 H1 H2 H' : Hp} {δ δ1 δ2 δ' : Env} {m m1 : Md} {ms ms1 : List Bool} {M M1 : Slots} {Q : VK} {pos p2 p1 p3 apos : Pos} {o o1 : Bool} {B : List Nat} {es : As} {ds os : List D} {vs : List V} {Fss : List (List Addr)}
theorem ArgR.lens (A : ArgR W Ψ δ σ H B es ms ds vs Fss) : ds.length = ms.length ∧ vs.length = ms.length := by
  induction A with
  | nil => exact ⟨rfl, rfl⟩
  | val _ _ ih => simpa using ih
  | io _ _ ih => simpa using ih
theorem ArgR.sh (A : ArgR W Ψ δ σ H B es ms ds vs Fss) : ∀ i, ms[i]? = some false → ∃ d v, ds[i]? = some d ∧ vs[i]? = some v ∧ Rep W H (FC B Ψ) d v ∧ Fss.getD i [] = [] := by
  induction A with
  | nil => intro i h; simp at h
  | val h1 _ ih =>
    intro i h
    cases i with
    | zero => exact ⟨_, _, rfl, rfl, h1, rfl⟩
    | succ i => simpa using ih i (by simpa using h)
  | io h1 _ ih =>
    intro i h
    cases i with
    | zero => simp at h
    | succ i => simpa using ih i (by simpa using h)
theorem ArgR.ow (A : ArgR W Ψ δ σ H B es ms ds vs Fss) : ∀ i, ms[i]? = some true → ∃ p x d v w ks kvs, es.pa i = some p ∧ ds[i]? = some x ∧ vs[i]? = some w ∧ At W Ψ δ σ H p x d v w ks kvs (Fss.getD i []) := by
  induction A with
  | nil => intro i h; simp at h
  | val h1 _ ih =>
    intro i h
    cases i with
    | zero => simp at h
    | succ i => simpa [As.pa] using ih i (by simpa using h)
  | io h1 _ ih =>
    intro i h
    cases i with
    | zero => exact ⟨_, _, _, _, _, _, _, rfl, rfl, rfl, h1⟩
    | succ i => simpa [As.pa] using ih i (by simpa using h)
theorem ArgR.none (A : ArgR W Ψ δ σ H B es ms ds vs Fss) : ∀ i, ms[i]? = none → Fss.getD i [] = [] := by
  induction A with
  | nil => intro i h; rfl
  | val h1 _ ih =>
    intro i h
    cases i with
    | zero => simp at h
    | succ i => simpa using ih i (by simpa using h)
  | io h1 _ ih =>
    intro i h
    cases i with
    | zero => simp at h
    | succ i => simpa using ih i (by simpa using h)
theorem ArgR.pa_ms (A : ArgR W Ψ δ σ H B es ms ds vs Fss) : ∀ i p, es.pa i = some p → ms[i]? = some true := by
  induction A with
  | nil => intro i p h; cases h
  | val h1 _ ih =>
    intro i p h
    cases i with
    | zero => cases h
    | succ i => simpa using ih i p h
  | io h1 _ ih =>
    intro i p h
    cases i with
    | zero => rfl
    | succ i => simpa using ih i p h
/-- what is lent lies within its slot -/
theorem ArgR.sub (A : ArgR W Ψ δ σ H B es ms ds vs Fss) {j : Nat} {a : Addr} (h : a ∈ Fss.getD j []) : ∃ p, es.pa j = some p ∧ a ∈ Ψ.fo p.root := by
  cases e : ms[j]? with
  | none => rw [A.none j e] at h; cases h
  | some b =>
    cases b with
    | false => obtain ⟨_, _, _, _, _, z⟩ := A.sh j e; rw [z] at h; cases h
    | true =>
      obtain ⟨p, x, d, v, w, ks, kvs, e1, _, _, At⟩ := A.ow j e
      exact ⟨p, e1, At.spl.sub a h⟩
theorem slot_start {fn : Fn} {ds : List D} (hl : ds.length = fn.ow.length) (i : Nat) : slot (startE fn ds) i = match fn.ow[i]?, ds[i]? with
    | some true, some d => some (.ow d)
    | some false, some d => some (.sh d)
    | _, _ => none := by
  unfold slot startE
  by_cases h : i < ds.length
  · have h2 : i < fn.ow.length := by omega
    rw [List.getElem?_append_left (by simp; omega), List.getElem?_map, List.getElem?_eq_getElem (by simp; omega), List.getElem?_eq_getElem h, List.getElem?_eq_getElem h2]
    simp only [Option.map_some, List.getElem_zip]
    cases fn.ow[i] <;> rfl
  · have e1 : ds[i]? = none := List.getElem?_eq_none (by omega)
    rw [e1, List.getElem?_append_right (by simp; omega)]
    have : (List.replicate (fn.sz - ds.length) (none : Option Sl))[i - ((fn.ow.zip ds).map fun p => some (if p.1 = true then Sl.ow p.2 else Sl.sh p.2)).length]? = none ∨ (List.replicate (fn.sz - ds.length) (none : Option Sl))[i - ((fn.ow.zip ds).map fun p => some (if p.1 = true then Sl.ow p.2 else Sl.sh p.2)).length]? = some none := by
      rw [List.getElem?_replicate]
      split
      · exact .inr rfl
      · exact .inl rfl
    rcases this with z | z <;> rw [z] <;> cases fn.ow[i]? <;> first | rfl | (rename_i b; cases b <;> rfl)
theorem sig_start {n : Nat} {vs : List V} {i : Nat} {v : V} (h : vs[i]? = some v) : (startS n vs)[i]? = some (some v) := by
  unfold startS
  obtain ⟨h1, h2⟩ := List.getElem?_eq_some_iff.mp h
  rw [List.getElem?_append_left (by simpa using h1), List.getElem?_map, h]
  rfl
/-- the callee's beginning -/
theorem ArgR.rel {fn : Fn} (r : Rel W T Ψ δ σ H) (A : ArgR W Ψ δ σ H B es fn.ow ds vs Fss) (hB : ∀ i ∈ B, i ∉ es.roots) (hN : es.roots.Nodup) : Rel W T ⟨FC B Ψ, fun j => Fss.getD j []⟩ (startE fn ds) (startS fn.sz vs) H := by
  obtain ⟨l1, l2⟩ := A.lens
  refine ⟨?_, fun i d h => ?_, fun i d h => ?_, fun i h => ?_, fun a h => ?_, fun i a h hs => ?_, fun i j a hne h1 h2 => ?_, r.tb⟩
  · unfold startE startS
    simp
    omega
  · rw [slot_start l1] at h
    split at h <;> cases h
    rename_i e1 e2
    obtain ⟨d', v, q1, q2, q3, _⟩ := A.sh i e1
    rw [e2] at q1
    cases q1
    exact ⟨v, sig_start q2, q3⟩
  · rw [slot_start l1] at h
    split at h <;> cases h
    rename_i e1 e2
    obtain ⟨p, x, d', v, w, ks, kvs, e3, q1, q2, At⟩ := A.ow i e1
    rw [e2] at q1
    cases q1
    exact ⟨w, sig_start q2, At.spl.tree⟩
  · cases e : fn.ow[i]? with
    | none => exact A.none i e
    | some b =>
      cases b with
      | false => obtain ⟨_, _, _, _, _, z⟩ := A.sh i e; exact z
      | true =>
        exfalso
        obtain ⟨p, x, d', v, w, ks, kvs, e3, q1, q2, At⟩ := A.ow i e
        refine h x ?_
        rw [slot_start l1, e, q1]
  · rcases h with h | ⟨i, _, h⟩
    · exact r.fs a h
    · obtain ⟨o, e, n, _⟩ := r.fo_trk h
      exact ⟨o, e, n⟩
  · obtain ⟨p, e, h⟩ := A.sub h
    rcases hs with hs | ⟨k, hk, hs⟩
    · exact r.ns _ a h hs
    · exact r.dj k p.root a (fun z => hB k hk (by rw [z]; exact As.pa_root e)) hs h
  · obtain ⟨p, e, h1⟩ := A.sub h1
    obtain ⟨q, e', h2⟩ := A.sub h2
    exact r.dj p.root q.root a (fun z => hne (As.pa_inj hN e e' z)) h1 h2
theorem evIx_set {i : Nat} {d d' : D} (h : slot δ i = some (.ow d)) : ∀ (e : Ex), evIx e (δ.set i (some (.ow d'))) = evIx e δ
  | .cst _ => by simp only [evIx]
  | .var j => by
    simp only [evIx, slot_set]
    by_cases z : i = j
    · subst z
      rw [if_pos rfl, if_pos (slot_lt h), h]
    · rw [if_neg z]
  | .neg a => by simp only [evIx, evIx_set h a]
  | .bor _ => by simp only [evIx]
  | .bin _ _ _ => by simp only [evIx]
  | .not_ _ => by simp only [evIx]
  | .and_ _ _ => by simp only [evIx]
  | .or_ _ _ => by simp only [evIx]
  | .cmp _ _ _ => by simp only [evIx]
  | .chn _ _ _ _ _ => by simp only [evIx]
  | .ite _ _ _ => by simp only [evIx]
  | .tup _ => by simp only [evIx]
  | .lst _ => by simp only [evIx]
  | .dct _ _ => by simp only [evIx]
  | .call _ _ => by simp only [evIx]
  | .bi _ _ => by simp only [evIx]
  | .mt _ _ _ => by simp only [evIx]
  | .pm _ _ _ => by simp only [evIx]
  | .idx _ _ => by simp only [evIx]
  | .slc _ _ _ => by simp only [evIx]
  | .rev _ => by simp only [evIx]
  | .lc _ _ _ _ => by simp only [evIx]
  | .lc2 _ _ _ _ _ _ => by simp only [evIx]
  | .dc _ _ _ _ _ _ => by simp only [evIx]
  | .isi _ _ => by simp only [evIx]
  | .fld _ _ => by simp only [evIx]
  | .caught _ => by simp only [evIx]
theorem keys_set {i : Nat} {d d' : D} (h : slot δ i = some (.ow d)) : ∀ (p : Pa), p.keys (δ.set i (some (.ow d'))) = p.keys δ
  | .v _ => rfl
  | .ix p e => by simp only [Pa.keys, keys_set h p, evIx_set h e]
/-- the slots behind a call -/
theorem putOs_slots {δc : Env} : ∀ {es : As} {ms : List Bool} {k : Nat} {os : List D} {δ δ2 : Env}, (∀ i p, es.pa i = some p → ms[i]? = some true) → (∀ i, ms[i]? = some true → ∃ p, es.pa i = some p) → (∀ i p, es.pa i = some p → (∃ d, slot δ p.root = some (.ow d)) ∧ (p.keys δ).isSome) → es.roots.Nodup → outsE ms k δc = some os → putOs es os δ = some δ2 →
    δ2.length = δ.length ∧ (∀ i, i ∉ es.roots → slot δ2 i = slot δ i) ∧ ∀ i p, es.pa i = some p → ∃ d y d' ks, slot δ p.root = some (.ow d) ∧ p.keys δ = some ks ∧ slot δc (k + i) = some (.ow y) ∧ putAt d ks y = some d' ∧ slot δ2 p.root = some (.ow d')
  | .nil, ms, k, os, δ, δ2, _, _, _, _, ho, h => by
    cases os with
    | nil => cases h; exact ⟨rfl, fun _ _ => rfl, fun i p e => by cases e⟩
    | cons a b => simp [putOs] at h
  | .val e r, ms, k, os, δ, δ2, h1, h1', h2, hn, ho, h => by
    cases ms with
    | nil =>
      have z : ∀ i p, r.pa i ≠ some p := fun i p e => by have := h1 (i + 1) p e; simp at this
      obtain ⟨a, b, c⟩ := putOs_slots (es := r) (ms := []) (k := k) (os := os) (δc := δc) (fun i p e => absurd e (z i p)) (fun i e => by simp at e) (fun i p e => absurd e (z i p)) hn (by simpa [outsE] using ho) h
      exact ⟨a, b, fun i p e => by cases i with
        | zero => cases e
        | succ i => exact absurd e (z i p)⟩
    | cons b ms =>
      cases b with
      | true => obtain ⟨p, e⟩ := h1' 0 rfl; cases e
      | false =>
        simp only [outsE] at ho
        obtain ⟨a, b, c⟩ := putOs_slots (es := r) (ms := ms) (k := k + 1) (δc := δc) (fun i p e => by simpa using h1 (i + 1) p e) (fun i e => by simpa [As.pa] using h1' (i + 1) (by simpa using e)) (fun i p e => h2 (i + 1) p e) hn ho h
        refine ⟨a, b, fun i p e => ?_⟩
        cases i with
        | zero => cases e
        | succ i =>
          obtain ⟨d, y, d', ks, q⟩ := c i p e
          refine ⟨d, y, d', ks, ?_⟩
          rw [show k + (i + 1) = k + 1 + i by omega]
          exact q
  | .io p0 r, ms, k, os, δ, δ2, h1, h1', h2, hn, ho, h => by
    cases ms with
    | nil => have := h1 0 p0 rfl; simp at this
    | cons b ms =>
      cases b with
      | false => have := h1 0 p0 rfl; simp at this
      | true =>
        simp only [outsE] at ho
        split at ho <;> first | (cases ho; done) | skip
        rename_i y0 ey
        obtain ⟨os', ho', rfl⟩ := Option.map_eq_some_iff.mp ho
        simp only [putOs] at h
        split at h <;> first | (cases h; done) | skip
        rename_i δm em
        obtain ⟨⟨d0, hd0⟩, hk0⟩ := h2 0 p0 rfl
        obtain ⟨ks0, hks0⟩ := Option.isSome_iff_exists.mp hk0
        obtain ⟨d0', hp0, rfl⟩ := setP_some em hd0 hks0
        have hn' := List.nodup_cons.mp hn
        have other : ∀ i p, r.pa i = some p → p0.root ≠ p.root := fun i p e z => hn'.1 (by rw [z]; exact As.pa_root e)
        obtain ⟨a, b, c⟩ := putOs_slots (es := r) (ms := ms) (k := k + 1) (δc := δc) (fun i p e => by simpa using h1 (i + 1) p e) (fun i e => by simpa [As.pa] using h1' (i + 1) (by simpa using e)) (fun i p e => by
          rw [slot_set, if_neg (other i p e), keys_set hd0]
          exact h2 (i + 1) p e) hn'.2 ho' h
        refine ⟨by rw [a, List.length_set], fun i hi => ?_, fun i p e => ?_⟩
        · rw [b i fun z => hi (List.mem_cons_of_mem _ z), slot_set, if_neg fun z => hi (by rw [← z]; exact List.mem_cons_self)]
        · cases i with
          | zero =>
            cases e
            refine ⟨d0, y0, d0', ks0, hd0, hks0, ey, hp0, ?_⟩
            rw [b _ hn'.1, slot_set, if_pos rfl, if_pos (slot_lt hd0)]
          | succ i =>
            obtain ⟨d, y, d', ks, q1, q2, q3, q4, q5⟩ := c i p e
            rw [slot_set, if_neg (other i p e)] at q1
            rw [keys_set hd0] at q2
            refine ⟨d, y, d', ks, q1, q2, ?_, q4, q5⟩
            rw [show k + (i + 1) = k + 1 + i by omega]
            exact q3
end
end PyI

set_option Elab.async false
set_option linter.all false
set_option maxRecDepth 100000
namespace PyI
open PySem PySem.Spec PyProof.Rows L2 LamX
def anySl : Slots := fun _ => True
section
variable {W : Wd} {T : List (Addr × Str)} {Φ : Nat → Option Fn} {cf : CF} {XW : WX} {X : Cx} {σ σ' : L2.St} {Ψ Ψ0 Ψ1 Ψ2 Ψ' : Own} {H H0 H1 H2 H' : Hp} {δ δ1 δ2 δ' : Env} {m m1 : Md} {ms ms1 : List Bool} {M M1 : Slots} {Q : VK} {pos p2 p1 p3 apos : Pos} {o o1 : Bool} {B : List Nat} {es : As} {ds os : List D} {vs : List V} {Fss : List (List Addr)}
/-- the caller's state behind a call -/
theorem call_back (r : Rel W T Ψ1 δ1 σ H1) (A : ArgR W Ψ1 δ1 σ H1 B es ms ds vs Fss) (hB : ∀ i ∈ B, i ∉ es.roots) (hN : es.roots.Nodup) (sc : Step anySl ⟨FC B Ψ1, fun j => Fss.getD j []⟩ H1 Ψ' H') (rc : Rel W T Ψ' δ' σ' H') (ho : outsE ms 0 δ' = some os)
    (hσ : ∀ (j : Nat) (v : V), ms[j]? = some true → vs[j]? = some v → σ'[j]? = some (some v)) (hp : putOs es os δ1 = some δ2) (G : Addr → Prop) (hG : ∀ a, G a → trk H' a ∧ ¬ Ψ'.fs a ∧ (∀ j, a ∉ Ψ'.fo j) ∧ (¬ trk H1 a ∨ ∃ j, a ∈ Fss.getD j [])) :
    ∃ Ψ2, Step (sl es.roots) Ψ1 H1 Ψ2 H' ∧ Rel W T Ψ2 δ2 σ H' ∧ (∀ a, Ψ2.fs a ↔ (Ψ'.fs a ∧ ¬ ∃ i ∈ B, a ∈ Ψ1.fo i) ∨ G a) ∧ ∀ i a, a ∈ Ψ2.fo i → (a ∈ Ψ1.fo i ∧ ∀ j, a ∉ Fss.getD j []) ∨ ∃ j, a ∈ Ψ'.fo j := by
  have lent : ∀ j a, a ∈ Fss.getD j [] → ∃ p, es.pa j = some p ∧ a ∈ Ψ1.fo p.root := fun j a h => A.sub h
  have foTrk : ∀ i a, a ∈ Ψ1.fo i → trk H1 a := fun i a h => by
    obtain ⟨o, e, n, _⟩ := r.fo_trk h
    exact ⟨o, e, n⟩
  have newFo : ∀ j a, a ∈ Ψ'.fo j → ¬ trk H1 a ∨ ∃ k, a ∈ Fss.getD k [] := fun j a h => (sc.foM j trivial a h).imp id fun ⟨k, _, z⟩ => ⟨k, z⟩
  have keep : ∀ a o, H1 a = some o → (∀ ps, o ≠ .tbl ps) → (∀ k, a ∉ Fss.getD k []) → H' a = some o := fun a o e n k => sc.keep a o e n fun i _ => k i
  obtain ⟨hl, hout, hin⟩ := putOs_slots (δc := δ') (ms := ms) (k := 0) A.pa_ms (fun i e => by
      obtain ⟨p, _, _, _, _, _, _, e1, _⟩ := A.ow i e
      exact ⟨p, e1⟩) (fun i p e => by
      obtain ⟨q, x, d, v, w, ks, kvs, e1, _, _, At⟩ := A.ow i (A.pa_ms i p e)
      rw [e] at e1
      cases e1
      exact ⟨⟨d, At.slot⟩, by rw [At.keys]; rfl⟩) hN ho hp
  -- each slot's footprint
  have each : ∀ i, ∃ F : List Addr, (i ∉ es.roots → F = Ψ1.fo i) ∧ (∀ d, slot δ2 i = some (.ow d) → ∃ v, σ[i]? = some (some v) ∧ Tree W H' d v F) ∧ ((∀ d, slot δ2 i ≠ some (.ow d)) → F = []) ∧
      ∀ a ∈ F, (a ∈ Ψ1.fo i ∧ ∀ j, a ∉ Fss.getD j []) ∨ ∃ j p, a ∈ Ψ'.fo j ∧ es.pa j = some p ∧ p.root = i := by
    intro i
    by_cases hi : i ∈ es.roots
    · obtain ⟨j, p, ep, rfl⟩ := As.root_pa hi
      obtain ⟨q, x, d, v, w, ks, kvs, e1, ex, ew, At⟩ := A.ow j (A.pa_ms j p ep)
      rw [ep] at e1
      cases e1
      obtain ⟨d0, y, d', ks0, q1, q2, q3, q4, q5⟩ := hin j p ep
      rw [At.slot] at q1
      cases q1
      rw [At.keys] at q2
      cases q2
      rw [Nat.zero_add] at q3
      obtain ⟨v', ev', ty⟩ := rc.ow j y q3
      rw [hσ j w (A.pa_ms j p ep) ew] at ev'
      cases ev'
      have uni : ∀ k a, a ∈ Fss.getD k [] → a ∈ Ψ1.fo p.root → k = j := fun k a h1 h2 => by
        obtain ⟨p', e', h'⟩ := lent k a h1
        by_cases z : p'.root = p.root
        · exact As.pa_inj hN e' ep z
        · exact absurd h2 (r.dj p'.root p.root a z h')
      obtain ⟨F', tF, mF⟩ := At.spl.put H' y (Ψ'.fo j) (fun a ha hn => by
          obtain ⟨o, eo, no, _⟩ := r.fo_trk ha
          rw [eo]
          exact keep a o eo no fun k hk => hn (by rw [← uni k a hk ha]; exact hk)) sc.tup sc.frz ty (fun a ha hb => by
          rcases newFo j a ha with z | ⟨k, z⟩
          · exact absurd (foTrk _ a hb) z
          · rw [← uni k a z hb]; exact z) d' q4
      refine ⟨F', fun z => absurd hi z, fun d2 e2 => ?_, fun z => absurd q5 (z d'), fun a ha => ?_⟩
      · rw [q5] at e2
        cases e2
        exact ⟨v, At.sig, tF⟩
      · rcases (mF a).mp ha with ⟨z, n⟩ | z
        · exact .inl ⟨z, fun k hk => n (by rw [← uni k a hk z]; exact hk)⟩
        · exact .inr ⟨j, p, z, ep, rfl⟩
    · have nl : ∀ a ∈ Ψ1.fo i, ∀ j, a ∉ Fss.getD j [] := fun a ha j hj => by
        obtain ⟨p, e, h⟩ := lent j a hj
        exact r.dj i p.root a (fun z => hi (by rw [z]; exact As.pa_root e)) ha h
      refine ⟨Ψ1.fo i, fun _ => rfl, fun d e => ?_, fun h => ?_, fun a ha => .inl ⟨ha, nl a ha⟩⟩
      · rw [hout i hi] at e
        obtain ⟨v, ev, t⟩ := r.ow i d e
        exact ⟨v, ev, t.stay ⟨fun a ha o eo no => keep a o eo no (nl a ha), sc.tup, sc.frz⟩⟩
      · exact r.no i fun d e => h d (by rw [hout i hi]; exact e)
  obtain ⟨fo2, hfo⟩ := Classical.axiomOfChoice each
  have sub2 : ∀ i a, a ∈ fo2 i → (a ∈ Ψ1.fo i ∧ ∀ j, a ∉ Fss.getD j []) ∨ ∃ j p, a ∈ Ψ'.fo j ∧ es.pa j = some p ∧ p.root = i := fun i a h => (hfo i).2.2.2 a h
  have shF : ∀ a, Ψ1.fs a → Ψ'.fs a ∧ ¬ ∃ i ∈ B, a ∈ Ψ1.fo i := fun a h => ⟨sc.fsL a (.inl h), fun ⟨i, _, z⟩ => r.ns i a z h⟩
  refine ⟨⟨fun a => (Ψ'.fs a ∧ ¬ ∃ i ∈ B, a ∈ Ψ1.fo i) ∨ G a, fo2⟩, ?_, ?_, fun a => Iff.rfl, fun i a h => (sub2 i a h).imp id fun ⟨j, p, z, _⟩ => ⟨j, z⟩⟩
  · refine ⟨fun a o e n k => keep a o e n fun j hj => ?_, sc.trk, sc.tup, sc.frz, fun a h => .inl (shF a h), fun a h => ?_, fun i hi => (hfo i).1 hi, fun i hi a ha => ?_⟩
    · obtain ⟨p, e1, h1⟩ := lent j a hj
      exact k p.root (As.pa_root e1) h1
    · have lentM : ∀ k, a ∈ Fss.getD k [] → ∃ i ∈ sl es.roots, a ∈ Ψ1.fo i := fun k hk => by
        obtain ⟨p, e1, h1⟩ := lent k a hk
        exact ⟨p.root, As.pa_root e1, h1⟩
      rcases h with ⟨h, nb⟩ | h
      · rcases sc.fsR a h with z | z | ⟨k, _, z⟩
        · rcases z with z | z
          · exact .inl z
          · exact absurd z nb
        · exact .inr (.inl z)
        · exact .inr (.inr (lentM k z))
      · rcases (hG a h).2.2.2 with z | ⟨k, z⟩
        · exact .inr (.inl z)
        · exact .inr (.inr (lentM k z))
    · rcases sub2 i a ha with ⟨z, _⟩ | ⟨j, p, z, ep, er⟩
      · exact .inr ⟨i, hi, z⟩
      · rcases newFo j a z with y | ⟨k, y⟩
        · exact .inl y
        · obtain ⟨p', e1, h1⟩ := lent k a y
          exact .inr ⟨p'.root, As.pa_root e1, h1⟩
  · refine ⟨by rw [hl]; exact r.len, fun i d e => ?_, fun i d e => (hfo i).2.1 d e, fun i h => (hfo i).2.2.1 h, fun a h => ?_, fun i a ha hf => ?_, fun i j a hne h1 h2 => ?_, rc.tb⟩
    · have hi : i ∉ es.roots := fun hi => by
        obtain ⟨j, p, ep, rfl⟩ := As.root_pa hi
        obtain ⟨_, _, d', _, _, _, _, _, q5⟩ := hin j p ep
        rw [q5] at e
        cases e
      rw [hout i hi] at e
      obtain ⟨v, ev, rp⟩ := r.sh i d e
      refine ⟨v, ev, rp.stay ⟨fun a fa o eo no => keep a o eo no fun j hj => ?_, sc.tup, sc.frz⟩ fun a fa => .inl (shF a fa)⟩
      obtain ⟨p, _, h1⟩ := lent j a hj
      exact r.ns _ a h1 fa
    · rcases h with h | h
      · exact rc.fs a h.1
      · exact (hG a h).1
    · rcases sub2 i a ha with ⟨z, zn⟩ | ⟨j, p, z, ep, er⟩
      · rcases hf with ⟨hf, nb⟩ | hf
        · rcases sc.fsR a hf with y | y | ⟨k, _, y⟩
          · rcases y with y | y
            · exact r.ns i a z y
            · exact nb y
          · exact y (foTrk i a z)
          · exact zn k y
        · rcases (hG a hf).2.2.2 with y | ⟨k, y⟩
          · exact y (foTrk i a z)
          · exact zn k y
      · rcases hf with ⟨hf, _⟩ | hf
        · exact rc.ns j a z hf
        · exact (hG a hf).2.2.1 j z
    · rcases sub2 i a h1 with ⟨z, zn⟩ | ⟨k, p, z, ep, er⟩
      · rcases sub2 j a h2 with ⟨y, _⟩ | ⟨k, p, y, ep, er⟩
        · exact r.dj i j a hne z y
        · rcases newFo k a y with x | ⟨l, x⟩
          · exact x (foTrk i a z)
          · exact zn l x
      · rcases sub2 j a h2 with ⟨y, yn⟩ | ⟨k', p', y, ep', er'⟩
        · rcases newFo k a z with x | ⟨l, x⟩
          · exact x (foTrk j a y)
          · exact yn l x
        · by_cases q : k = k'
          · subst q
            rw [ep] at ep'
            cases ep'
            exact hne (er.symm.trans er')
          · exact rc.dj k k' a q z y
end
theorem As.roots_mods : ∀ {es : As} (i : Nat), i ∈ es.roots → i ∈ es.mods
  | .nil, _, h => by cases h
  | .val e r, i, h => List.mem_append_right _ (As.roots_mods (es := r) i h)
  | .io p r, i, h => by
    rcases List.mem_cons.mp h with rfl | h
    · exact List.mem_cons_self
    · exact List.mem_cons_of_mem _ (As.roots_mods (es := r) i h)
/-- what a def promises -/
def spF (W : Wd) (T : List (Addr × Str)) (Φ : Nat → Option Fn) (cf : CF) (f : Nat) : Sp := fun vs H Q E => ∃ fn ds Ψ, Φ f = some fn ∧ vs.length = fn.ow.length ∧ ds.length = fn.ow.length ∧ Rel W T Ψ (startE fn ds) (startS fn.sz vs) H ∧ match cf f ds with
  | .rt r os => ∀ v H' Ψ' δ' σ', Step anySl Ψ H Ψ' H' → Rel W T Ψ' δ' σ' H' → outsE fn.ow 0 δ' = some os → (∀ (j : Nat) (v : V), fn.ow[j]? = some true → vs[j]? = some v → σ'[j]? = some (some v)) → RP W (if fn.ro then .ow else .sh) anySl Ψ H Ψ' H' r v → Q v H'
  | .er x os => ∀ cls dd H' Ψ' δ' σ', Step anySl Ψ H Ψ' H' → Rel W T Ψ' δ' σ' H' → outsE fn.ow 0 δ' = some os → (∀ (j : Nat) (v : V), fn.ow[j]? = some true → vs[j]? = some v → σ'[j]? = some (some v)) → ExV W x cls dd H' Ψ'.fs → E cls dd H'
  | .bad => False
/-- a def kept as promised, with room for repr -/
structure FnG (P : Program) (w : World) (K : PySem.W.Frag) (mg : Str → Option Value) (base : Heap) (k : Nat) (f : Addr) (fd : FuncData) (ps : List Str) (sp : Sp) : Prop where
  len : ∀ vs H Q E, sp vs H Q E → vs.length = ps.length
  run : ∀ (A : Around) (outer : List PySem.Env) (s : Shared) (H : Hp) (args : Args) (us : List Value) (vs : List V) (Q : VK) (E : XK), Room k A → A.guards = some [] → Env0 P w K mg base A outer s H →
    BindsTo s fd args (ps.zip us) → Vals vs us → sp vs H Q E → codeAny (model P w) A (.call (.ref f) args) (CR (L2.CX P w) outer P w H s Q E) s
section
variable {W : Wd} {T : List (Addr × Str)} {Φ : Nat → Option Fn} {cf : CF} {XW : WX} {X : Cx} {σ σ' : L2.St} {Ψ Ψ0 Ψ1 Ψ2 Ψ' : Own} {H H0 H1 H2 H' : Hp} {δ δ1 δ2 δ' : Env} {M M1 : Slots} {Q : VK} {pos p2 p1 p3 apos : Pos} {o : Bool}
theorem run_fnG {k : Nat} {f : Addr} {fd : FuncData} {ps : List Str} {sp : Sp} {E : L2.St → XK} {pins : List (Addr × Obj)} {s : Shared} {us : List Value} {vs : List V} (F : FnG X.prog X.w X.K X.mg X.base k f fd ps sp) (hr : Room k X.A)
    (hG : X.A.guards = some []) (hb : L2.Binds X.K fd ps []) (hx : L2.PassesAt (L2.CX X.prog X.w) X σ (E σ)) (I : Inv X pins σ H s) (r : Vals vs us) (h : sp vs H Q (E σ)) :
    wpAny (model X.prog X.w) X.A (call (.ref f) us) (EP X pins σ Q) X.xe s := by
  have hl : us.length = ps.length := by rw [← r.length]; exact F.len _ _ _ _ h
  have b := hb s us I.kIn (by rw [List.append_nil]; exact hl)
  rw [List.append_nil] at b
  have z := F.run X.A X.stack s H ⟨us, []⟩ us vs Q (E σ) hr hG I.env0 b r h
  refine wpAny_call (codeAny_mono z fun res s' hq => ?_)
  match res, hq with
  | .error e, hq => exact hx pins H s e s' I hq
  | .ok (.ret u), hq => exact I.after hq
theorem pe_callG {k : Nat} {f : Addr} {fd : FuncData} {ps : List Str} {sp : Sp} {E : L2.St → XK} {x : Str} {xs : List Expr} {t : TA} (F : FnG X.prog X.w X.K X.mg X.base k f fd ps sp) (hr : Room k X.A) (hG : X.A.guards = some [])
    (hg : Gl X x) (hm : X.mg x = some (.ref f)) (hk : PySem.W.keepIn X.K (.ref f) = true) (hb : L2.Binds X.K fd ps []) (hx : ∀ σ, L2.PassesAt (L2.CX X.prog X.w) X σ (E σ)) (ha : PA X xs t) (hdb : (x == ("__debug__" : Str)) = false)
    (hc : ∀ {Q : Value → Shared → Prop} {s : Shared}, X.K.In s.heap → wpAny (model X.prog X.w) X.A (spliced (backTo pos (starEach xs X.env))) (fun us s' => X.K.In s'.heap ∧ wpAny (model X.prog X.w) X.A (call (.ref f) us) Q X.xe s') X.xe s →
      wpAny (model X.prog X.w) X.A (callWith pos (.ref f) [] (backTo pos (starEach xs X.env)) []) Q X.xe s) :
    PE X (.Call (.Name x p1) xs [] pos) (L2.tCallS sp E t) := by
  refine ⟨fun pins s σ H Q I h => ?_⟩
  refine wpAny_Call_Name_kw (ld_glob I hg hm ?_ hdb)
  refine hc I.kIn (thn (ha.run pos pins s σ H _ I h) fun us s1 hh => ?_)
  obtain ⟨vs, H1, I1, r, q⟩ := hh
  exact ⟨I1.kIn, run_fnG F hr hG hb (hx σ) I1 r q⟩
theorem te_call {f : Nat} {es : As} (hB : ∀ i ∈ es.bors, i ∉ es.roots) (hN : es.roots.Nodup) (hbor : es.hasBor = false → es.bors = []) (h : tE W T Φ cf XW (.call f es) o σ H Q) : L2.tCallS (spF W T Φ cf f) (L2.WE XW) (tAs W T Φ cf XW es) σ H Q := by
  obtain ⟨δ, Ψ, r, h⟩ := h
  simp only [ev] at h
  cases hf : Φ f with
  | none => rw [hf] at h; exact h.elim
  | some fn =>
    rw [hf] at h
    simp only at h
    refine ⟨δ, Ψ, r, ?_⟩
    cases q : evA Φ cf es δ with
    | bad => rw [q] at h; exact h.elim
    | er x δ1 => rw [q] at h; exact h
    | ok xs δ1 =>
      rw [q] at h
      simp only [OutL.then_ok] at h
      intro vs H1 Ψ1 s1 r1 av
      cases ea : argsOf es fn.ow xs δ1 with
      | none => rw [ea] at h; exact h.elim
      | some ds =>
        rw [ea] at h
        simp only at h
        obtain ⟨Fss, A⟩ := argR_of r1 (fun i hi => hi) av ea
        obtain ⟨l1, l2⟩ := A.lens
        have rootsM : ∀ i ∈ sl es.roots, i ∈ sl (Ex.call f es).mods := fun i hi => As.roots_mods i hi
        cases ec : cf f ds with
        | bad => rw [ec] at h; exact h.elim
        | rt rr os =>
          rw [ec] at h
          simp only at h
          cases eo : putOs es os δ1 with
          | none => rw [eo] at h; exact h.elim
          | some δ2 =>
            rw [eo] at h
            simp only at h
            refine ⟨fn, ds, _, hf, l2, l1, A.rel r1 hB hN, ?_⟩
            rw [ec]
            intro v H' Ψ' δ' σ' sc rc ho hσ rp
            cases hro : fn.ro with
            | true =>
              rw [hro] at h rp
              simp only [if_true] at h rp
              obtain ⟨F, t, pe, bk⟩ := rp
              cases o with
              | false =>
                obtain ⟨Ψ2, S, R, f1, f2⟩ := call_back r1 A hB hN sc rc ho hσ eo (fun a => a ∈ F) fun a ha => ⟨pe.trk a ha, pe.ns a ha, pe.no a ha, (bk a ha).imp id fun ⟨j, _, z⟩ => ⟨j, z⟩⟩
                exact h v H' Ψ2 (s1.trans (S.mono rootsM)) R (Rep.mono (fun a ha => (f1 a).mpr (.inr ha)) t.rep)
              | true =>
                obtain ⟨Ψ2, S, R, f1, f2⟩ := call_back r1 A hB hN sc rc ho hσ eo (fun a => False) fun a ha => ha.elim
                refine h v H' Ψ2 (s1.trans (S.mono rootsM)) R ⟨F, t, ⟨pe.trk, fun a ha z => ?_, fun a ha i z => ?_⟩, fun a ha => ?_⟩
                · rcases (f1 a).mp z with y | y
                  · exact pe.ns a ha y.1
                  · exact y
                · rcases f2 i a z with ⟨y1, y2⟩ | ⟨j, y⟩
                  · rcases bk a ha with x | ⟨j, _, x⟩
                    · obtain ⟨o, e, n, _⟩ := r1.fo_trk y1
                      exact x ⟨o, e, n⟩
                    · exact y2 j x
                  · exact pe.no a ha j y
                · rcases bk a ha with x | ⟨j, _, x⟩
                  · exact .inl fun y => x (s1.trk a y)
                  · obtain ⟨p, e1, h1⟩ := A.sub x
                    exact s1.foM p.root (rootsM _ (As.pa_root e1)) a h1
            | false =>
              rw [hro] at h rp
              simp only [Bool.false_eq_true, if_false] at h rp
              obtain ⟨Ψ2, S, R, f1, f2⟩ := call_back r1 A hB hN sc rc ho hσ eo (fun a => False) fun a ha => ha.elim
              have S2 := s1.trans (S.mono rootsM)
              cases hi : rr.imm with
              | true =>
                have h : Post W T XW ((Ex.call f es).md o) (sl (Ex.call f es).mods) Ψ H σ (.ok rr δ2) Q := by
                  rw [hi] at h
                  simpa using h
                exact h v H' Ψ2 S2 R (rp_imm hi rp)
              | false =>
                rw [hi] at h
                cases o with
                | true => exact h.elim
                | false =>
                  cases hb : es.hasBor with
                  | true => rw [hb] at h; exact h.elim
                  | false =>
                    rw [hb] at h
                    have h : Post W T XW .sh (sl (Ex.call f es).mods) Ψ H σ (.ok rr δ2) Q := h
                    refine h v H' Ψ2 S2 R (Rep.mono (fun a ha => (f1 a).mpr (.inl ⟨ha, ?_⟩)) rp)
                    rw [hbor hb]
                    exact fun ⟨i, hi, _⟩ => by cases hi
        | er x os =>
          rw [ec] at h
          simp only at h
          cases eo : putOs es os δ1 with
          | none => rw [eo] at h; exact h.elim
          | some δ2 =>
            rw [eo] at h
            simp only at h
            by_cases hx : x.excI = true
            · rw [if_pos hx] at h
              refine ⟨fn, ds, _, hf, l2, l1, A.rel r1 hB hN, ?_⟩
              rw [ec]
              intro cls dd H' Ψ' δ' σ' sc rc ho hσ xv
              obtain ⟨Ψ2, S, R, f1, f2⟩ := call_back r1 A hB hN sc rc ho hσ eo (fun a => False) fun a ha => ha.elim
              refine h cls dd H' Ψ2 (s1.trans (S.mono rootsM)) R ?_
              cases x <;> first | (exact xv.elim) | skip
              rename_i c fs
              obtain ⟨hc, hv⟩ := xv
              refine ⟨hc, ?_⟩
              cases fs with
              | nil => exact hv
              | cons y rest =>
                obtain ⟨rfl, d, f', u, rfl, fd, hd, he, rp⟩ := hv
                have hy : y.imm = true := by
                  have : immAll [y] = true := hx
                  simp only [immAll, Bool.and_eq_true] at this
                  exact this.1
                refine ⟨rfl, d, f', u, rfl, (f1 d).mpr (.inl ⟨fd, fun ⟨i, hi, hm⟩ => ?_⟩), hd, he, rp.imm hy⟩
                -- a lent place holds no error's dict
                cases es1 : slot δ1 i with
                | none => rw [r1.no i (by rw [es1]; exact fun _ z => by cases z)] at hm; cases hm
                | some s =>
                  cases s with
                  | sh q => rw [r1.no i (by rw [es1]; exact fun _ z => by cases z)] at hm; cases hm
                  | ow q =>
                    obtain ⟨v, _, t⟩ := r1.ow i q es1
                    obtain ⟨ob, e1, w1⟩ := t.wr d hm
                    have k := sc.keep d ob e1 w1.no.1 fun j _ hj => by
                      obtain ⟨p, e2, h2⟩ := A.sub hj
                      exact r1.dj i p.root d (fun z => hB i hi (by rw [z]; exact As.pa_root e2)) hm h2
                    rw [hd] at k
                    cases k
                    exact w1
            · rw [if_neg hx] at h
              exact h.elim
end
end PyI

set_option Elab.async false
set_option linter.all false
set_option maxRecDepth 100000
namespace PyI
open PySem PySem.Spec PyProof.Rows L2 LamX
/-- these slots' values are as they were -/
def Keep (kp : Slots) (σ σ' : L2.St) : Prop := ∀ i ∈ kp, σ'[i]? = σ[i]?
theorem Keep.refl (kp : Slots) (σ : L2.St) : Keep kp σ σ := fun _ _ => rfl
theorem Keep.trans {kp : Slots} {a b c : L2.St} (h : Keep kp a b) (k : Keep kp b c) : Keep kp a c := fun i hi => (k i hi).trans (h i hi)
theorem Keep.set {kp : Slots} {σ : L2.St} {i : Nat} {v : Option V} (h : i ∉ kp) : Keep kp σ (σ.set i v) := fun j hj => List.getElem?_set_ne fun z => h (by rw [z]; exact hj)
section
variable {W : Wd} {T : List (Addr × Str)} {Φ : Nat → Option Fn} {cf : CF} {XW : WX} {X : Cx} {σ σ' : L2.St} {Ψ Ψ0 Ψ1 Ψ2 Ψ' : Own} {H H0 H1 H2 H' : Hp} {δ δ1 δ2 δ' : Env} {M M1 : Slots} {Q : VK} {pos p2 p1 p3 apos : Pos} {o : Bool} {kp : Slots}
/-- a slot has these places from now on -/
def Own.put (Ψ : Own) (i : Nat) (F : List Addr) : Own := ⟨Ψ.fs, fun j => if j = i then F else Ψ.fo j⟩
def Own.give (Ψ : Own) (F : List Addr) : Own := ⟨fun a => Ψ.fs a ∨ a ∈ F, Ψ.fo⟩
theorem Rel.give {F : List Addr} (r : Rel W T Ψ δ σ H) (p : Pend Ψ H F) : Rel W T (Ψ.give F) δ σ H := by
  refine ⟨r.len, fun i d h => ?_, r.ow, r.no, fun a h => ?_, fun i a ha h => ?_, r.dj, r.tb⟩
  · obtain ⟨v, e, rp⟩ := r.sh i d h
    exact ⟨v, e, rp.mono fun a z => .inl z⟩
  · exact h.elim (r.fs a) (p.trk a)
  · exact h.elim (r.ns i a ha) fun z => p.no a z i ha
theorem Rel.put_ow {i : Nat} {d : D} {v : V} {F : List Addr} (r : Rel W T Ψ δ σ H) (hi : i < δ.length) (t : Tree W H d v F) (p : Pend Ψ H F) : Rel W T (Ψ.put i F) (δ.set i (some (.ow d))) (σ.set i (some v)) H := by
  have hs : i < σ.length := by rw [← r.len]; exact hi
  refine ⟨by rw [List.length_set, List.length_set]; exact r.len, fun j e h => ?_, fun j e h => ?_, fun j h => ?_, r.fs, fun j a ha hf => ?_, fun j k a hne h1 h2 => ?_, r.tb⟩
  · rw [slot_set] at h
    by_cases z : i = j
    · rw [if_pos z, if_pos hi] at h; cases h
    · rw [if_neg z] at h
      rw [List.getElem?_set_ne z]
      exact r.sh j e h
  · rw [slot_set] at h
    by_cases z : i = j
    · subst z
      rw [if_pos rfl, if_pos hi] at h
      cases h
      refine ⟨v, List.getElem?_set_self hs, ?_⟩
      show Tree W H d v (if i = i then F else Ψ.fo i)
      rw [if_pos rfl]
      exact t
    · rw [if_neg z] at h
      rw [List.getElem?_set_ne z]
      obtain ⟨u, e1, t1⟩ := r.ow j e h
      refine ⟨u, e1, ?_⟩
      show Tree W H e u (if j = i then F else Ψ.fo j)
      rw [if_neg (Ne.symm z)]
      exact t1
  · show (if j = i then F else Ψ.fo j) = []
    by_cases z : j = i
    · exfalso
      refine h d ?_
      rw [slot_set, if_pos z.symm, if_pos hi]
    · rw [if_neg z]
      refine r.no j fun e he => h e ?_
      rw [slot_set, if_neg (Ne.symm z)]
      exact he
  · have ha' : a ∈ (if j = i then F else Ψ.fo j) := ha
    by_cases z : j = i
    · rw [if_pos z] at ha'; exact p.ns a ha' hf
    · rw [if_neg z] at ha'; exact r.ns j a ha' hf
  · have h1' : a ∈ (if j = i then F else Ψ.fo j) := h1
    have h2' : a ∈ (if k = i then F else Ψ.fo k) := h2
    by_cases z : j = i
    · by_cases y : k = i
      · exact hne (z.trans y.symm)
      · rw [if_pos z] at h1'; rw [if_neg y] at h2'; exact p.no a h1' k h2'
    · by_cases y : k = i
      · rw [if_neg z] at h1'; rw [if_pos y] at h2'; exact p.no a h2' j h1'
      · rw [if_neg z] at h1'; rw [if_neg y] at h2'; exact r.dj j k a hne h1' h2'
theorem Rel.put_sh {i : Nat} {d : D} {v : V} (r : Rel W T Ψ δ σ H) (hi : i < δ.length) (rp : Rep W H Ψ.fs d v) : Rel W T (Ψ.put i []) (δ.set i (some (.sh d))) (σ.set i (some v)) H := by
  have hs : i < σ.length := by rw [← r.len]; exact hi
  refine ⟨by rw [List.length_set, List.length_set]; exact r.len, fun j e h => ?_, fun j e h => ?_, fun j h => ?_, r.fs, fun j a ha hf => ?_, fun j k a hne h1 h2 => ?_, r.tb⟩
  · rw [slot_set] at h
    by_cases z : i = j
    · subst z
      rw [if_pos rfl, if_pos hi] at h
      cases h
      exact ⟨v, List.getElem?_set_self hs, rp⟩
    · rw [if_neg z] at h
      rw [List.getElem?_set_ne z]
      exact r.sh j e h
  · rw [slot_set] at h
    by_cases z : i = j
    · rw [if_pos z, if_pos hi] at h; cases h
    · rw [if_neg z] at h
      rw [List.getElem?_set_ne z]
      obtain ⟨u, e1, t1⟩ := r.ow j e h
      refine ⟨u, e1, ?_⟩
      show Tree W H e u (if j = i then [] else Ψ.fo j)
      rw [if_neg (Ne.symm z)]
      exact t1
  · show (if j = i then [] else Ψ.fo j) = []
    by_cases z : j = i
    · rw [if_pos z]
    · rw [if_neg z]
      refine r.no j fun e he => h e ?_
      rw [slot_set, if_neg (Ne.symm z)]
      exact he
  · have ha' : a ∈ (if j = i then [] else Ψ.fo j) := ha
    by_cases z : j = i
    · rw [if_pos z] at ha'; cases ha'
    · rw [if_neg z] at ha'; exact r.ns j a ha' hf
  · have h1' : a ∈ (if j = i then [] else Ψ.fo j) := h1
    have h2' : a ∈ (if k = i then [] else Ψ.fo k) := h2
    by_cases z : j = i
    · rw [if_pos z] at h1'; cases h1'
    · by_cases y : k = i
      · rw [if_pos y] at h2'; cases h2'
      · rw [if_neg z] at h1'; rw [if_neg y] at h2'; exact r.dj j k a hne h1' h2'
/-- what a store does, told from the run's beginning -/
theorem step_put {i : Nat} {F : List Addr} (hi : i ∈ M) (s : Step M Ψ0 H0 Ψ H) (b : ∀ a ∈ F, ¬ trk H0 a ∨ ∃ j ∈ M, a ∈ Ψ0.fo j) : Step M Ψ0 H0 (Ψ.put i F) H := by
  refine ⟨s.keep, s.trk, s.tup, s.frz, s.fsL, s.fsR, fun j hj => ?_, fun j hj a ha => ?_⟩
  · show (if j = i then F else Ψ.fo j) = Ψ0.fo j
    rw [if_neg (fun z : j = i => hj (by rw [z]; exact hi))]
    exact s.foN j hj
  · have ha' : a ∈ (if j = i then F else Ψ.fo j) := ha
    by_cases z : j = i
    · rw [if_pos z] at ha'; exact b a ha'
    · rw [if_neg z] at ha'; exact s.foM j hj a ha'
theorem step_give {F : List Addr} (s : Step M Ψ0 H0 Ψ H) (b : ∀ a ∈ F, ¬ trk H0 a ∨ ∃ j ∈ M, a ∈ Ψ0.fo j) : Step M Ψ0 H0 (Ψ.give F) H := by
  refine ⟨s.keep, s.trk, s.tup, s.frz, fun a h => .inl (s.fsL a h), fun a h => ?_, s.foN, s.foM⟩
  rcases h with h | h
  · exact s.fsR a h
  · exact .inr (b a h)
/-- where a target's stores lead: the value is owned (o) or shared; G: what else is kept apart -/
def tGx (W : Wd) (T : List (Addr × Str)) (kp : Slots) (M : Slots) (o : Bool) (t : Tg) : TG := fun v σ H Q => ∃ Ψ0 H0 Ψ δ d δ' G, Step M Ψ0 H0 Ψ H ∧ Rel W T Ψ δ σ H ∧ bindT t d δ = some δ' ∧ Pend Ψ H G ∧
  (if o then ∃ F, Tree W H d v F ∧ Pend Ψ H F ∧ (∀ a ∈ F, a ∉ G) ∧ ∀ a ∈ F, ¬ trk H0 a ∨ ∃ j ∈ M, a ∈ Ψ0.fo j else Rep W H Ψ.fs d v) ∧
  ∀ σ' Ψ', Step M Ψ0 H0 Ψ' H → Rel W T Ψ' δ' σ' H → Pend Ψ' H G → (∀ a, Ψ.fs a → Ψ'.fs a) → Keep kp σ σ' → Q σ' H
def tGs (W : Wd) (T : List (Addr × Str)) (kp : Slots) (M : Slots) (o : Bool) (ts : List Tg) : TGs := fun vs σ H Q => ∃ Ψ0 H0 Ψ δ ds δ' G, Step M Ψ0 H0 Ψ H ∧ Rel W T Ψ δ σ H ∧ bindTs ts ds δ = some δ' ∧ Pend Ψ H G ∧
  (if o then ∃ F, Trees W H ds vs F ∧ Pend Ψ H F ∧ (∀ a ∈ F, a ∉ G) ∧ ∀ a ∈ F, ¬ trk H0 a ∨ ∃ j ∈ M, a ∈ Ψ0.fo j else Reps W H Ψ.fs ds vs) ∧
  ∀ σ' Ψ', Step M Ψ0 H0 Ψ' H → Rel W T Ψ' δ' σ' H → Pend Ψ' H G → (∀ a, Ψ.fs a → Ψ'.fs a) → Keep kp σ σ' → Q σ' H
theorem Pend.put {G F : List Addr} {i : Nat} (p : Pend Ψ H G) (dj : ∀ a ∈ F, a ∉ G) : Pend (Ψ.put i F) H G := by
  refine ⟨p.trk, p.ns, fun a ha j hj => ?_⟩
  have hj' : a ∈ (if j = i then F else Ψ.fo j) := hj
  by_cases z : j = i
  · rw [if_pos z] at hj'; exact dj a hj' ha
  · rw [if_neg z] at hj'; exact p.no a ha j hj'
theorem Pend.give {G F : List Addr} (p : Pend Ψ H G) (dj : ∀ a ∈ F, a ∉ G) : Pend (Ψ.give F) H G :=
  ⟨p.trk, fun a ha h => h.elim (p.ns a ha) fun z => dj a z ha, p.no⟩
/-- a name -/
theorem pgx_name {i : Nat} {b : Bool} {x : Expr} (hm : i ∈ M) (hk : i ∉ kp) (hb : b = true → o = true) (h : PG X x (gName i)) : PG X x (tGx W T kp M o (.nm b i)) := ⟨fun pins s σ H v u Q I rv hh => by
  refine h.run pins s σ H v u Q I rv ?_
  obtain ⟨Ψ0, H0, Ψ, δ, d, δ', G, S, R, e, pG, hv, k⟩ := hh
  simp only [bindT] at e
  split at e <;> cases e
  rename_i hi
  show Q (σ.set i (some v)) H
  cases b with
  | true =>
    rw [hb rfl] at hv
    obtain ⟨F, t, p, dj, bk⟩ := hv
    exact k _ (Ψ.put i F) (step_put hm S bk) (R.put_ow hi t p) (pG.put dj) (fun _ h => h) (Keep.set hk)
  | false =>
    cases o with
    | false => exact k _ (Ψ.put i []) (step_put hm S fun a ha => absurd ha List.not_mem_nil) (R.put_sh hi hv) (pG.put fun a ha => absurd ha List.not_mem_nil) (fun _ h => h) (Keep.set hk)
    | true =>
      obtain ⟨F, t, p, dj, bk⟩ := hv
      have R2 := R.give p
      exact k _ ((Ψ.give F).put i []) (step_put hm (step_give S bk) fun a ha => absurd ha List.not_mem_nil) (R2.put_sh hi (t.rep.mono fun a ha => .inr ha)) ((pG.give dj).put fun a ha => absurd ha List.not_mem_nil) (fun _ h => .inl h) (Keep.set hk)⟩
theorem pgsx_nil : PGs X [] (tGs W T kp M o []) := ⟨fun pins s σ H vs us Q I rv hh => by
  refine pgs_nil.run pins s σ H vs us Q I rv ?_
  obtain ⟨Ψ0, H0, Ψ, δ, ds, δ', G, S, R, e, pG, hv, k⟩ := hh
  cases ds with
  | cons a b => simp [bindTs] at e
  | nil =>
    cases e
    have hvs : vs = [] := by
      cases o with
      | false => simpa only [Reps] using (show Reps W H Ψ.fs [] vs from hv)
      | true =>
        obtain ⟨F, t, _⟩ := hv
        simp only [Trees] at t
        exact t.1
    exact ⟨hvs, k σ Ψ S R pG (fun _ h => h) (Keep.refl _ _)⟩⟩
theorem pgsx_cons {t : Tg} {ts : List Tg} {x : Expr} {xs : List Expr} (h1 : PG X x (tGx W T kp M o t)) (h2 : PGs X xs (tGs W T kp M o ts)) (hs : (assignEach (x :: xs) X.env).map (·.2) = assign x X.env :: (assignEach xs X.env).map (·.2)) : PGs X (x :: xs) (tGs W T kp M o (t :: ts)) := ⟨fun pins s σ H vs us Q I rv hh => by
  refine (pgs_cons h1 h2 hs).run pins s σ H vs us Q I rv ?_
  obtain ⟨Ψ0, H0, Ψ, δ, ds, δ', G, S, R, e, pG, hv, k⟩ := hh
  cases ds with
  | nil => simp [bindTs] at e
  | cons d ds =>
    simp only [bindTs] at e
    obtain ⟨δ1, e1, e2⟩ := Option.bind_eq_some_iff.mp e
    cases o with
    | false =>
      have hv : Reps W H Ψ.fs (d :: ds) vs := hv
      simp only [Reps] at hv
      obtain ⟨v, r, rfl, hv1, hv2⟩ := hv
      refine ⟨v, r, rfl, Ψ0, H0, Ψ, δ, d, δ1, G, S, R, e1, pG, hv1, fun σ1 Ψ1 S1 R1 pG1 f1 k1 => ?_⟩
      exact ⟨Ψ0, H0, Ψ1, δ1, ds, δ', G, S1, R1, e2, pG1, Reps.mono (fun a ha => f1 a ha) hv2, fun σ2 Ψ2 S2 R2 pG2 f2 k2 => k σ2 Ψ2 S2 R2 pG2 (fun a ha => f2 a (f1 a ha)) (k1.trans k2)⟩
    | true =>
      obtain ⟨F, t, p, dj, bk⟩ := hv
      simp only [Trees] at t
      obtain ⟨v, r, F1, F2, rfl, rfl, t1, t2, n⟩ := t
      have pG' : Pend Ψ H (F2 ++ G) := by
        refine ⟨fun a ha => ?_, fun a ha => ?_, fun a ha => ?_⟩ <;> rcases List.mem_append.mp ha with ha | ha
        · exact p.trk a (List.mem_append_right _ ha)
        · exact pG.trk a ha
        · exact p.ns a (List.mem_append_right _ ha)
        · exact pG.ns a ha
        · exact p.no a (List.mem_append_right _ ha)
        · exact pG.no a ha
      have pl : ∀ {Ψ : Own} {A B : List Addr}, Pend Ψ H (A ++ B) → Pend Ψ H A ∧ Pend Ψ H B := fun p => ⟨⟨fun a ha => p.trk a (List.mem_append_left _ ha), fun a ha => p.ns a (List.mem_append_left _ ha), fun a ha => p.no a (List.mem_append_left _ ha)⟩,
        ⟨fun a ha => p.trk a (List.mem_append_right _ ha), fun a ha => p.ns a (List.mem_append_right _ ha), fun a ha => p.no a (List.mem_append_right _ ha)⟩⟩
      refine ⟨v, r, rfl, Ψ0, H0, Ψ, δ, d, δ1, F2 ++ G, S, R, e1, pG', ⟨F1, t1, (pl p).1, fun a ha hb => ?_, fun a ha => bk a (List.mem_append_left _ ha)⟩, fun σ1 Ψ1 S1 R1 pG1 f1 k1 => ?_⟩
      · rcases List.mem_append.mp hb with hb | hb
        · exact n a ha hb
        · exact dj a (List.mem_append_left _ ha) hb
      · obtain ⟨q1, q2⟩ := pl pG1
        exact ⟨Ψ0, H0, Ψ1, δ1, ds, δ', G, S1, R1, e2, q2, ⟨F2, t2, q1, fun a ha => dj a (List.mem_append_right _ ha), fun a ha => bk a (List.mem_append_right _ ha)⟩, fun σ2 Ψ2 S2 R2 pG2 f2 k2 => k σ2 Ψ2 S2 R2 pG2 (fun a ha => f2 a (f1 a ha)) (k1.trans k2)⟩⟩
theorem bindTs_len : ∀ {ts : List Tg} {ds : List D} {δ δ' : Env}, bindTs ts ds δ = some δ' → ds.length = ts.length
  | [], [], _, _, _ => rfl
  | [], _ :: _, _, _, h => by simp [bindTs] at h
  | _ :: _, [], _, _, h => by simp [bindTs] at h
  | t :: ts, d :: ds, δ, δ', h => by
    simp only [bindTs] at h
    obtain ⟨δ1, _, e2⟩ := Option.bind_eq_some_iff.mp h
    simp [bindTs_len e2]
theorem pgx_tup {ts : List Tg} {xs : List Expr} {k : Nat} (hK : W.K = X.K) (hc : X.calm = true) (h : PGs X xs (tGs W T kp M o ts)) (hn : (assignEach xs X.env).length = ts.length) (hst : (assignEach xs X.env).findIdx? (·.1) = none) : PG X (.Tuple xs k pos) (tGx W T kp M o (.tp ts)) := ⟨fun pins s σ H v u Q I rv hh => by
  refine (pg_tup hc h hn hst).run pins s σ H v u Q I rv ?_
  obtain ⟨Ψ0, H0, Ψ, δ, d, δ', G, S, R, e, pG, hv, k⟩ := hh
  cases d <;> simp only [bindT] at e <;> first | (cases e; done) | skip
  rename_i ds
  have hl := bindTs_len e
  cases o with
  | false =>
    have hv : Rep W H Ψ.fs (.tup ds) v := hv
    simp only [Rep] at hv
    obtain ⟨a, vs, rfl, h1, hz, h2⟩ := hv
    rw [hK] at h1
    exact ⟨a, vs, rfl, h1, by rw [← h2.len]; exact hl, Ψ0, H0, Ψ, δ, ds, δ', G, S, R, e, pG, h2, k⟩
  | true =>
    obtain ⟨F, t, q⟩ := hv
    simp only [Tree] at t
    obtain ⟨a, vs, rfl, h1, hz, h2⟩ := t
    rw [hK] at h1
    exact ⟨a, vs, rfl, h1, by rw [← h2.len]; exact hl, Ψ0, H0, Ψ, δ, ds, δ', G, S, R, e, pG, ⟨F, h2, q⟩, k⟩⟩
end
end PyI

set_option Elab.async false
set_option linter.all false
set_option maxRecDepth 100000
namespace PyI
open PySem PySem.Spec PyProof.Rows L2 LamX
section
variable (W : Wd) (T : List (Addr × Str)) (Φ : Nat → Option Fn) (cf : CF) (XW : WX) (ro : Bool) (kp : Slots)
mutual
def S.mods : S → List Nat
  | .set i e | .own i e | .aug i _ e => i :: e.mods
  | .unp _ t e => tgSlots t ++ e.mods
  | .par ts es => ts.map (·.2) ++ es.mods
  | .pset p i e => p.root :: (e.mods ++ i.mods)
  | .paug p i _ e => p.root :: (i.mods ++ e.mods)
  | .exp e | .ret e => e.mods
  | .ifs c a b => c.mods ++ a.mods ++ b.mods
  | .whl c b => c.mods ++ b.mods
  | .forr t it b => it.mods ++ tgSlots t ++ b.mods
  | .rais _ es => es.mods
  | .brk | .cnt | .pas => []
def Ss.mods : Ss → List Nat
  | .nil => []
  | .cons s ss => s.mods ++ ss.mods
end
/-- what is wanted behind a statement -/
def PostS (M : Slots) (Ψ : Own) (H : Hp) (σ : L2.St) (fl : Fl) (En : Ends) : Prop := match fl with
  | .nx δ' => ∀ σ' H' Ψ', Step M Ψ H Ψ' H' → Rel W T Ψ' δ' σ' H' → Keep kp σ σ' → En.nx σ' H'
  | .bk δ' => ∀ σ' H' Ψ', Step M Ψ H Ψ' H' → Rel W T Ψ' δ' σ' H' → Keep kp σ σ' → En.bk σ' H'
  | .ct δ' => ∀ σ' H' Ψ', Step M Ψ H Ψ' H' → Rel W T Ψ' δ' σ' H' → Keep kp σ σ' → En.ct σ' H'
  | .rt d δ' => ∀ v σ' H' Ψ', Step M Ψ H Ψ' H' → Rel W T Ψ' δ' σ' H' → Keep kp σ σ' → RP W (if ro then .ow else .sh) M Ψ H Ψ' H' d v → En.rt v H'
  | .er x δ' => ∀ cls dd σ' H' Ψ', Step M Ψ H Ψ' H' → Rel W T Ψ' δ' σ' H' → Keep kp σ σ' → ExV W x cls dd H' Ψ'.fs → XW cls dd σ' H'
  | .bad => False
def tS (s : S) : TS := fun En σ H => ∃ δ Ψ, Rel W T Ψ δ σ H ∧ PostS W T XW ro kp (sl s.mods) Ψ H σ (ex Φ cf ro s δ) En
def tSs (ss : Ss) : TS := fun En σ H => ∃ δ Ψ, Rel W T Ψ δ σ H ∧ PostS W T XW ro kp (sl ss.mods) Ψ H σ (exs Φ cf ro ss δ) En
end
section
variable {W : Wd} {T : List (Addr × Str)} {Φ : Nat → Option Fn} {cf : CF} {XW : WX} {X : Cx} {σ σ' : L2.St} {Ψ Ψ0 Ψ1 Ψ2 Ψ' : Own} {H H0 H1 H2 H' : Hp} {δ δ1 δ2 δ' : Env} {M M1 : Slots} {Q : VK} {pos p2 p1 p3 apos : Pos} {o ro : Bool} {kp : Slots} {En : Ends}
theorem _root_.L2.PS.weak {a : Stmt} {t t' : TS} (h : PS X a t) (k : ∀ En σ H, t' En σ H → t En σ H) : PS X a t' := ⟨fun pins s σ H En I q => h.run pins s σ H En I (k En σ H q)⟩
theorem _root_.L2.PSs.weak {a : List Stmt} {t t' : TS} (h : PSs X a t) (k : ∀ En σ H, t' En σ H → t En σ H) : PSs X a t' := ⟨fun pins s σ H En I q => h.run pins s σ H En I (k En σ H q)⟩
theorem PostS.shift {fl : Fl} (s : Step M Ψ H Ψ1 H1) (k : Keep kp σ σ') (h : PostS W T XW ro kp M Ψ H σ fl En) : PostS W T XW ro kp M Ψ1 H1 σ' fl En := by
  cases fl with
  | nx δ' => exact fun σ2 H' Ψ' t r q => h σ2 H' Ψ' (s.trans t) r (k.trans q)
  | bk δ' => exact fun σ2 H' Ψ' t r q => h σ2 H' Ψ' (s.trans t) r (k.trans q)
  | ct δ' => exact fun σ2 H' Ψ' t r q => h σ2 H' Ψ' (s.trans t) r (k.trans q)
  | rt d δ' => exact fun v σ2 H' Ψ' t r q p => h v σ2 H' Ψ' (s.trans t) r (k.trans q) (p.shift s)
  | er x δ' => exact fun cls dd σ2 H' Ψ' t r q p => h cls dd σ2 H' Ψ' (s.trans t) r (k.trans q) p
  | bad => exact h
theorem PostS.less {fl : Fl} (hM : ∀ i ∈ M1, i ∈ M) (h : PostS W T XW ro kp M Ψ H σ fl En) : PostS W T XW ro kp M1 Ψ H σ fl En := by
  cases fl with
  | nx δ' => exact fun σ2 H' Ψ' t r q => h σ2 H' Ψ' (t.mono hM) r q
  | bk δ' => exact fun σ2 H' Ψ' t r q => h σ2 H' Ψ' (t.mono hM) r q
  | ct δ' => exact fun σ2 H' Ψ' t r q => h σ2 H' Ψ' (t.mono hM) r q
  | rt d δ' => exact fun v σ2 H' Ψ' t r q p => h v σ2 H' Ψ' (t.mono hM) r q (p.more hM)
  | er x δ' => exact fun cls dd σ2 H' Ψ' t r q p => h cls dd σ2 H' Ψ' (t.mono hM) r q p
  | bad => exact h
/-- an expression, then the rest -/
theorem seqE {e : Ex} {f : D → Env → Fl} {R : VK} (hM : ∀ i ∈ sl e.mods, i ∈ M) (s0 : Step M Ψ0 H0 Ψ H) (r : Rel W T Ψ δ σ H) (h : PostS W T XW ro kp M Ψ0 H0 σ ((ev Φ cf e o δ).thenF f) En)
    (k : ∀ d δ1 v H1 Ψ1, Step (sl e.mods) Ψ H Ψ1 H1 → Rel W T Ψ1 δ1 σ H1 → RP W (e.md o) (sl e.mods) Ψ H Ψ1 H1 d v → PostS W T XW ro kp M Ψ0 H0 σ (f d δ1) En → R v H1) : tE W T Φ cf XW e o σ H R := by
  refine ⟨δ, Ψ, r, ?_⟩
  cases q : ev Φ cf e o δ with
  | bad => rw [q] at h; exact h.elim
  | er x δ1 => rw [q] at h; exact fun cls dd H' Ψ' s r p => h cls dd σ H' Ψ' (s0.trans (s.mono hM)) r (Keep.refl _ _) p
  | ok d δ1 => rw [q] at h; exact fun v H1 Ψ1 s r p => k d δ1 v H1 Ψ1 s r p h
/-- .. a test -/
theorem seqT {e : Ex} {f : Bool → Env → Fl} {R : Bool → Hp → Prop} (hM : ∀ i ∈ sl e.mods, i ∈ M) (s0 : Step M Ψ0 H0 Ψ H) (r : Rel W T Ψ δ σ H) (h : PostS W T XW ro kp M Ψ0 H0 σ (match ev Φ cf e false δ with
    | .ok d δ1 => match truth d with
      | some b => f b δ1
      | none => .bad
    | .er x δ1 => .er x δ1
    | .bad => .bad) En) (k : ∀ b δ1 H1 Ψ1, Step (sl e.mods) Ψ H Ψ1 H1 → Rel W T Ψ1 δ1 σ H1 → PostS W T XW ro kp M Ψ0 H0 σ (f b δ1) En → R b H1) : tT W T Φ cf XW e σ H R := by
  refine ⟨δ, Ψ, r, ?_⟩
  cases q : ev Φ cf e false δ with
  | bad => rw [q] at h; exact h.elim
  | er x δ1 => rw [q] at h; exact fun cls dd H' Ψ' s r p => h cls dd σ H' Ψ' (s0.trans (s.mono hM)) r (Keep.refl _ _) p
  | ok d δ1 =>
    rw [q] at h
    simp only at h
    cases e1 : truth d with
    | none => rw [e1] at h; exact h.elim
    | some b =>
      rw [e1] at h
      exact ⟨b, e1, fun H1 Ψ1 s r => k b δ1 H1 Ψ1 s r h⟩
theorem pss_nilE : PSs X [] (tSs W T Φ cf XW ro kp .nil) := pss_nil.weak fun En σ H ⟨δ, Ψ, r, h⟩ => h σ H Ψ Step.refl r (Keep.refl _ _)
theorem pss_consE {s : S} {ss : Ss} {x : Stmt} {xs : List Stmt} (h1 : PS X x (tS W T Φ cf XW ro kp s)) (h2 : PSs X xs (tSs W T Φ cf XW ro kp ss)) : PSs X (x :: xs) (tSs W T Φ cf XW ro kp (.cons s ss)) := (pss_cons h1 h2).weak fun En σ H ⟨δ, Ψ, r, h⟩ => by
  simp only [exs] at h
  refine ⟨δ, Ψ, r, ?_⟩
  cases q : ex Φ cf ro s δ with
  | nx δ1 => rw [q] at h; exact fun σ1 H1 Ψ1 s1 r1 k1 => ⟨δ1, Ψ1, r1, (h.shift (s1.mono sub_l) k1).less sub_r⟩
  | bk δ1 => rw [q] at h; exact h.less (fl := .bk δ1) sub_l
  | ct δ1 => rw [q] at h; exact h.less (fl := .ct δ1) sub_l
  | rt d δ1 => rw [q] at h; exact h.less (fl := .rt d δ1) sub_l
  | er x δ1 => rw [q] at h; exact h.less (fl := .er x δ1) sub_l
  | bad => rw [q] at h; exact h
/-- text that does nothing -/
theorem pss_docE {ss : Ss} {x : Str} {j : Nat} {xs : List Stmt} (h2 : PSs X xs (tSs W T Φ cf XW ro kp ss)) : PSs X (.Expr (.Constant (.str x) j p1) pos :: xs) (tSs W T Φ cf XW ro kp ss) := (pss_cons ps_doc h2).weak fun En σ H h => h
theorem RP.own_bk {e : Ex} {d : D} {v : V} (hM : ∀ i ∈ sl e.mods, i ∈ M) (s0 : Step M Ψ0 H0 Ψ H) (p : RP W (e.md true) (sl e.mods) Ψ H Ψ1 H1 d v) : ∃ F, Tree W H1 d v F ∧ Pend Ψ1 H1 F ∧ ∀ a ∈ F, ¬ trk H0 a ∨ ∃ j ∈ M, a ∈ Ψ0.fo j := by
  obtain ⟨F, t, q, b⟩ := p
  refine ⟨F, t, q, fun a ha => ?_⟩
  rcases b a ha with z | ⟨j, hj, z⟩
  · exact .inl fun y => z (s0.trk a y)
  · exact s0.foM j (hM j hj) a z
/-- the value into a target -/
theorem store_to {t : Tg} {e : Ex} {d : D} {v : V} {δ2 : Env} (hM : ∀ i ∈ sl e.mods, i ∈ M) (hb : o = true ∨ isBor e = false) (s1 : Step (sl e.mods) Ψ H Ψ1 H1) (r1 : Rel W T Ψ1 δ1 σ H1) (p : RP W (e.md o) (sl e.mods) Ψ H Ψ1 H1 d v) (eb : bindT t d δ1 = some δ2) (h : PostS W T XW ro kp M Ψ H σ (.nx δ2) En) : tGx W T kp M o t v σ H1 En.nx := by
  refine ⟨Ψ, H, Ψ1, δ1, d, δ2, [], s1.mono hM, r1, eb, pend_nil, ?_, fun σ' Ψ' S R _ _ K => h σ' H1 Ψ' S R K⟩
  cases o with
  | false =>
    rw [Ex.md_sh (hb.elim (fun z => by cases z) id)] at p
    exact p
  | true =>
    obtain ⟨F, t, q, b⟩ := RP.own_bk hM Step.refl p
    exact ⟨F, t, q, fun a _ z => absurd z List.not_mem_nil, b⟩
theorem ps_storeE {t : Tg} {e : Ex} {s : S} {x y : Expr} (hmo : ∀ i ∈ sl e.mods, i ∈ sl s.mods) (hs' : ∀ δ, ex Φ cf ro s δ = (ev Φ cf e o δ).thenF fun d δ1 => match bindT t d δ1 with
    | some δ2 => .nx δ2
    | none => .bad) (hb : o = true ∨ isBor e = false) (he : PE X y (tE W T Φ cf XW e o)) (hg : PG X x (tGx W T kp (sl s.mods) o t)) (hs : swapsWithSole [x] y pos.line X.env = pure false) (hw : swappedStores [x] y X.env = pure none)
    (h1 : (assignEach [x] X.env).map (·.2) = [assign x X.env]) : PS X (.Assign [x] y pos) (tS W T Φ cf XW ro kp s) := (ps_asg he hg hs hw h1).weak fun En σ H ⟨δ, Ψ, r, h⟩ => by
  rw [hs'] at h
  refine seqE hmo Step.refl r h fun d δ1 v H1 Ψ1 s1 r1 p1 h1 => ?_
  cases eb : bindT t d δ1 with
  | none => rw [eb] at h1; exact h1.elim
  | some δ2 =>
    rw [eb] at h1
    exact store_to hmo hb s1 r1 p1 eb h1
theorem ps_expE {e : Ex} {y : Expr} (he : PE X y (tE W T Φ cf XW e false)) (hs : swapsWith y none pos.line X.env = pure false) : PS X (.Expr y pos) (tS W T Φ cf XW ro kp (.exp e)) := (ps_expr he hs).weak fun En σ H ⟨δ, Ψ, r, h⟩ => by
  simp only [ex] at h
  exact seqE (fun _ h => h) Step.refl r h fun d δ1 v H1 Ψ1 s1 r1 p1 h1 => h1 σ H1 Ψ1 s1 r1 (Keep.refl _ _)
theorem ps_retE {e : Ex} {y : Expr} (hb : ro = true ∨ isBor e = false) (he : PE X y (tE W T Φ cf XW e ro)) : PS X (.Return (some y) pos) (tS W T Φ cf XW ro kp (.ret e)) := (ps_ret he).weak fun En σ H ⟨δ, Ψ, r, h⟩ => by
  simp only [ex] at h
  refine seqE (fun _ h => h) Step.refl r h fun d δ1 v H1 Ψ1 s1 r1 p1 h1 => h1 v σ H1 Ψ1 s1 r1 (Keep.refl _ _) ?_
  cases ro with
  | false =>
    rw [Ex.md_sh (hb.elim (fun z => by cases z) id)] at p1
    exact p1
  | true => exact RP.own_bk (fun _ h => h) Step.refl p1
theorem ps_retNE : PS X (.Return none pos) (tS W T Φ cf XW ro kp (.ret (.cst .non))) := ps_retN.weak fun En σ H ⟨δ, Ψ, r, h⟩ => by
  simp only [ex, ev, Out.thenF_ok] at h
  exact h .non σ H Ψ Step.refl r (Keep.refl _ _) (rp_imm (F := fun _ => False) rfl (by simp only [Rep]))
theorem ps_passE : PS X (.Pass pos) (tS W T Φ cf XW ro kp .pas) := ps_pass.weak fun En σ H ⟨δ, Ψ, r, h⟩ => h σ H Ψ Step.refl r (Keep.refl _ _)
theorem ps_brkE : PS X (.Break pos) (tS W T Φ cf XW ro kp .brk) := ps_break.weak fun En σ H ⟨δ, Ψ, r, h⟩ => h σ H Ψ Step.refl r (Keep.refl _ _)
theorem ps_cntE : PS X (.Continue pos) (tS W T Φ cf XW ro kp .cnt) := ps_continue.weak fun En σ H ⟨δ, Ψ, r, h⟩ => h σ H Ψ Step.refl r (Keep.refl _ _)
theorem ps_ifE {c : Ex} {a b : Ss} {z : Expr} {xs ys : List Stmt} (hc : PT X z (tT W T Φ cf XW c)) (ha : PSs X xs (tSs W T Φ cf XW ro kp a)) (hb : PSs X ys (tSs W T Φ cf XW ro kp b)) : PS X (.If z xs ys pos) (tS W T Φ cf XW ro kp (.ifs c a b)) := (ps_if hc ha hb).weak fun En σ H ⟨δ, Ψ, r, h⟩ => by
  simp only [ex] at h
  have sM : ∀ i ∈ sl c.mods, i ∈ sl (S.ifs c a b).mods := fun i hi => List.mem_append_left _ (List.mem_append_left _ hi)
  refine seqT (En := En) (kp := kp) (ro := ro) (M := sl (S.ifs c a b).mods) (f := fun k δ1 => if k then exs Φ cf ro a δ1 else exs Φ cf ro b δ1) sM Step.refl r ?_ fun k δ1 H1 Ψ1 s1 r1 h1 => ?_
  · cases q : ev Φ cf c false δ with
    | bad => rw [q] at h; exact h
    | er x δ1 => rw [q] at h; exact h
    | ok d δ1 =>
      rw [q] at h
      simp only [Out.thenF_ok] at h ⊢
      cases e : truth d with
      | none => rw [e] at h; exact h
      | some k => rw [e] at h; cases k <;> exact h
  · cases k with
    | true => exact ⟨δ1, Ψ1, r1, (h1.shift (s1.mono sM) (Keep.refl _ _)).less fun i hi => List.mem_append_left _ (List.mem_append_right _ hi)⟩
    | false => exact ⟨δ1, Ψ1, r1, (h1.shift (s1.mono sM) (Keep.refl _ _)).less fun i hi => List.mem_append_right _ hi⟩
theorem ps_whlE {c : Ex} {b : Ss} {z : Expr} {xs : List Stmt} (hp : PassesOwn (model X.prog X.w) X.A X.env X.xe) (hc : PT X z (tT W T Φ cf XW c)) (hb : PSs X xs (tSs W T Φ cf XW ro kp b)) : PS X (.While z xs [] pos) (tS W T Φ cf XW ro kp (.whl c b)) := (ps_while hp hc hb).weak fun En σ H ⟨δ, Ψ, r, h⟩ => by
  simp only [ex] at h
  refine ⟨fun n σ1 H1 => ∃ δ1 Ψ1, Rel W T Ψ1 δ1 σ1 H1 ∧ PostS W T XW ro kp (sl (S.whl c b).mods) Ψ1 H1 σ1 (wloop (fun δ => ev Φ cf c false δ) (fun δ => exs Φ cf ro b δ) n δ1) En, ⟨FUEL, δ, Ψ, r, h⟩, ?_⟩
  rintro n σ1 H1 ⟨δ1, Ψ1, r1, h1⟩
  have sM : ∀ i ∈ sl c.mods, i ∈ sl (S.whl c b).mods := sub_l
  have sB : ∀ i ∈ sl b.mods, i ∈ sl (S.whl c b).mods := sub_r
  cases n with
  | zero => exact h1.elim
  | succ n =>
    simp only [wloop] at h1
    refine seqT (En := En) (kp := kp) (ro := ro) (M := sl (S.whl c b).mods) (f := fun k δ2 => if k then (match exs Φ cf ro b δ2 with
        | .nx δ3 => wloop (fun δ => ev Φ cf c false δ) (fun δ => exs Φ cf ro b δ) n δ3
        | .ct δ3 => wloop (fun δ => ev Φ cf c false δ) (fun δ => exs Φ cf ro b δ) n δ3
        | .bk δ3 => .nx δ3
        | .rt d δ3 => .rt d δ3
        | .er d δ3 => .er d δ3
        | .bad => .bad) else .nx δ2) sM Step.refl r1 ?_ fun k δ2 H2 Ψ2 s2 r2 h2 => ?_
    · cases q : ev Φ cf c false δ1 with
      | bad => rw [q] at h1; exact h1
      | er x δ1 => rw [q] at h1; exact h1
      | ok d δ1 =>
        rw [q] at h1
        simp only at h1 ⊢
        cases e : truth d with
        | none => rw [e] at h1; exact h1
        | some k => rw [e] at h1; cases k <;> exact h1
    · have h2 := h2.shift (s2.mono sM) (Keep.refl _ _)
      cases k with
      | false => exact h2 σ1 H2 Ψ2 Step.refl r2 (Keep.refl _ _)
      | true =>
        refine ⟨fun σ3 H3 => ∃ δ3 Ψ3, Rel W T Ψ3 δ3 σ3 H3 ∧ PostS W T XW ro kp (sl (S.whl c b).mods) Ψ3 H3 σ3 (wloop (fun δ => ev Φ cf c false δ) (fun δ => exs Φ cf ro b δ) n δ3) En, fun σ3 H3 h3 => ⟨n, Nat.lt_succ_self n, h3⟩, δ2, Ψ2, r2, ?_⟩
        rw [if_pos rfl] at h2
        cases q : exs Φ cf ro b δ2 with
        | nx δ3 => rw [q] at h2; exact fun σ3 H3 Ψ3 s3 r3 k3 => ⟨δ3, Ψ3, r3, h2.shift (s3.mono sB) k3⟩
        | ct δ3 => rw [q] at h2; exact fun σ3 H3 Ψ3 s3 r3 k3 => ⟨δ3, Ψ3, r3, h2.shift (s3.mono sB) k3⟩
        | bk δ3 => rw [q] at h2; exact fun σ3 H3 Ψ3 s3 r3 k3 => h2 σ3 H3 Ψ3 (s3.mono sB) r3 k3
        | rt d δ3 => rw [q] at h2; exact fun v σ3 H3 Ψ3 s3 r3 k3 p => h2 v σ3 H3 Ψ3 (s3.mono sB) r3 k3 (p.more sB)
        | er x δ3 => rw [q] at h2; exact fun cls dd σ3 H3 Ψ3 s3 r3 k3 p => h2 cls dd σ3 H3 Ψ3 (s3.mono sB) r3 k3 p
        | bad => rw [q] at h2; exact h2
/-- a op= b, at ints and texts -/
def rAu (W : Wd) (op : BOp) : R2 := fun x y H Q => ∃ F d e z, (∀ a, F a → trk H a) ∧ Rep W H F d x ∧ Rep W H F e y ∧ augOk op d e = true ∧ binS op d e = some z ∧ ∀ v, Rep W H F z v → Q v H
theorem iop_ok (op : BOp) : OpR X (inplaceOp (bOp op)) (rAu W op) := by
  intro pins s σ H x y v u Q I rx ry ⟨F, d, e, z, hF, hd, he, ha, hz, q⟩
  cases d <;> cases e <;> simp only [augOk] at ha <;> first | (cases ha; done) | skip
  · rename_i i j
    simp only [Rep] at hd he
    subst hd he
    cases op <;> simp only [binS] at hz <;> first | (cases ha; done) | skip
    · cases hz
      exact iop_add pins s σ H _ _ v u Q I rx ry ⟨i, j, rfl, rfl, q _ (by simp only [Rep])⟩
    · cases hz
      exact iop_sub pins s σ H _ _ v u Q I rx ry ⟨i, j, rfl, rfl, q _ (by simp only [Rep])⟩
    · split at hz <;> cases hz
      rename_i k
      exact iop_mul pins s σ H _ _ v u Q I rx ry ⟨i, j, rfl, rfl, smallI_mul k, q _ (by simp only [Rep])⟩
    · split at hz <;> cases hz
      rename_i k
      have k : 0 < j ∧ j < 1073741824 := of_decide_eq_true k
      exact iop_fdiv pins s σ H _ _ v u Q I rx ry ⟨i, j, rfl, rfl, k, q _ (by simp only [Rep])⟩
    · split at hz <;> cases hz
      rename_i k
      exact iop_mod pins s σ H _ _ v u Q I rx ry ⟨i, j, rfl, rfl, of_decide_eq_true k, q _ (by simp only [Rep])⟩
  · rename_i a b
    simp only [Rep] at hd he
    obtain ⟨rfl, _⟩ := hd
    obtain ⟨rfl, _⟩ := he
    cases op <;> simp only [binS] at hz <;> first | (cases hz; done) | skip
    obtain ⟨rfl, hl⟩ := okStr_some hz
    have q := q (.str (strV (a ++ b))) (by simp only [Rep]; exact ⟨trivial, hl⟩)
    rw [← strV_append] at q
    exact iop_add_str pins s σ H _ _ v u Q I rx ry ⟨_, _, rfl, rfl, by rw [strV_length, strV_length]; simpa using hl, q⟩
theorem ps_augE {i : Nat} {op : BOp} {e : Ex} {x : Str} {y : Expr} (hk : i ∉ kp) (hb : isBor e = false) (hm : i ∉ e.mods) (hN : X.N.Nodup) (hi : X.N[i]? = some x) (hx : Loc X.env.scope x) (hf : X.fn x = true ∨ X.env.scope.names.lookup x = some .local) (he : PE X y (tE W T Φ cf XW e false)) :
    PS X (.AugAssign (.Name x p1) (bOp op) y pos) (tS W T Φ cf XW ro kp (.aug i op e)) := (ps_aug hN hi hx he (iop_ok (W := W) op) hf).weak fun En σ H ⟨δ, Ψ, r, h⟩ => by
  simp only [ex] at h
  cases es : slot δ i with
  | none => rw [es] at h; exact h.elim
  | some s =>
    cases s with
    | ow d => rw [es] at h; exact h.elim
    | sh old =>
      rw [es] at h
      simp only at h
      split at h
      · obtain ⟨v, e1, rp⟩ := r.sh i old es
        refine ⟨v, e1, seqE (fun i hi => List.mem_cons_of_mem _ hi) Step.refl r h fun d δ1 w H1 Ψ1 s1 r1 p1 h1 => ?_⟩
        cases ez : binS op old d with
        | none => rw [ez] at h1; exact h1.elim
        | some z =>
          rw [ez] at h1
          simp only at h1
          by_cases ha : augOk op old d = true
          · rw [if_pos ha] at h1
            rw [Ex.md_sh hb] at p1
            refine ⟨Ψ1.fs, old, d, z, r1.fs, rp.stay (r.stay_fs s1) s1.fsL, p1, ha, ez, fun u ru => ?_⟩
            cases eb : bindT (.nm false i) z δ1 with
            | none => rw [eb] at h1; exact h1.elim
            | some δ2 =>
              rw [eb] at h1
              simp only [bindT] at eb
              split at eb <;> cases eb
              rename_i hl
              exact h1 _ H1 (Ψ1.put i []) (step_put (mem_sl.mpr List.mem_cons_self) (s1.mono fun i hi => List.mem_cons_of_mem _ hi) fun a ha => absurd ha List.not_mem_nil) (r1.put_sh hl ru) (Keep.set hk)
          · rw [if_neg ha] at h1
            exact h1.elim
      · exact h.elim
end
end PyI

set_option Elab.async false
set_option linter.all false
set_option maxRecDepth 100000
namespace PyI
open PySem PySem.Spec PyProof.Rows L2 LamX
/-- a walk yields these items, as long as these values stand -/
def Walk (W : Wd) (J : L2.It) (xs : List D) (ds : List D) (vs : List V) : Prop := ∀ H F, (∀ a, F a → trk H a) → Reps W H F ds vs →
  (∀ i x, xs[i]? = some x → J.go i H ∧ ∀ w H', J.yld i H w H' → Same H H' ∧ Rep W H' (fun a => F a ∨ (¬ trk H a ∧ trk H' a)) x w) ∧ J.stop xs.length H
/-- the slots whose things are walked -/
def It.lents : It → List Nat
  | .over e | .enu e | .items e | .vals e => (match e.lent with
    | some i => [i]
    | none => [])
  | .zip a b => (match a.lent with
    | some i => [i]
    | none => []) ++ (match b.lent with
    | some i => [i]
    | none => [])
  | _ => []
section
variable (W : Wd) (T : List (Addr × Str)) (Φ : Nat → Option Fn) (cf : CF) (XW : WX)
def PostI (B : List Nat) (M : Slots) (Ψ : Own) (H : Hp) (σ : L2.St) (out : OutL) (R : L2.It → Hp → Prop) : Prop := match out with
  | .ok xs δ' => ∀ J ds vs H' Ψ', Step M Ψ H Ψ' H' → Rel W T Ψ' δ' σ H' → Walk W J xs ds vs → Reps W H' (FC B Ψ') ds vs → (B = [] ∨ immAll xs = true) → R J H'
  | .er x δ' => ∀ cls dd H' Ψ', Step M Ψ H Ψ' H' → Rel W T Ψ' δ' σ H' → ExV W x cls dd H' Ψ'.fs → XW cls dd σ H'
  | .bad => False
def tI (it : It) : TI := fun σ H R => ∃ δ Ψ, Rel W T Ψ δ σ H ∧ PostI W T XW it.lents (sl it.mods) Ψ H σ (evIt Φ cf it δ) R
end
section
variable {W : Wd} {T : List (Addr × Str)} {Φ : Nat → Option Fn} {cf : CF} {XW : WX} {X : Cx} {σ σ' : L2.St} {Ψ Ψ0 Ψ1 Ψ2 Ψ' : Own} {H H0 H1 H2 H' : Hp} {δ δ1 δ2 δ' : Env} {M M1 : Slots} {Q : VK} {pos p2 p1 p3 apos : Pos} {o ro : Bool} {kp : Slots} {En : Ends} {tg : Expr}
theorem walk_lst {a : Addr} {xs : List D} : Walk W (Itl W.K a) xs [.lst xs] [.ref a] := by
  intro H F hF h
  obtain ⟨v, e, rp⟩ := h.one
  cases e
  simp only [Rep] at rp
  obtain ⟨b, vs, e, fa, h1, hz, h2⟩ := rp
  cases e
  refine ⟨fun i x ex => ?_, ⟨vs, SqL.of h1, by rw [h2.len]; exact Nat.le_refl _⟩⟩
  obtain ⟨w, ew, rw'⟩ := h2.get ex
  refine ⟨⟨vs, w, SqL.of h1, ew⟩, fun u H' ⟨eH, hu⟩ => ?_⟩
  subst eH
  have := hu vs (SqL.of h1)
  rw [ew] at this
  cases this
  exact ⟨Same.refl _, rw'.mono fun _ z => .inl z⟩
theorem walk_scr {a : Addr} {is : List Int} : Walk W (Itl W.K a) (is.map .int) [.scr is] [.ref a] := by
  intro H F hF h
  obtain ⟨v, e, rp⟩ := h.one
  cases e
  simp only [Rep] at rp
  obtain ⟨b, e, h1, hz⟩ := rp
  cases e
  have sq := scr_sql h1
  refine ⟨fun i x ex => ?_, ⟨_, sq, by rw [List.length_map, List.length_map]; exact Nat.le_refl _⟩⟩
  rw [List.getElem?_map] at ex
  obtain ⟨k, ek, rfl⟩ := Option.map_eq_some_iff.mp ex
  have ew : (is.map V.int)[i]? = some (.int k) := by rw [List.getElem?_map, ek]; rfl
  refine ⟨⟨_, _, sq, ew⟩, fun u H' ⟨eH, hu⟩ => ?_⟩
  subst eH
  have := hu _ sq
  rw [ew] at this
  cases this
  exact ⟨Same.refl _, by simp only [Rep]⟩
theorem walk_tup {a : Addr} {xs : List D} : Walk W (Itt W.K a) xs [.tup xs] [.ref a] := by
  intro H F hF h
  obtain ⟨v, e, rp⟩ := h.one
  cases e
  simp only [Rep] at rp
  obtain ⟨b, vs, e, h1, hz, h2⟩ := rp
  cases e
  refine ⟨fun i x ex => ?_, ⟨vs, h1, by rw [h2.len]; exact Nat.le_refl _⟩⟩
  obtain ⟨w, ew, rw'⟩ := h2.get ex
  refine ⟨⟨vs, w, h1, ew⟩, fun u H' ⟨eH, hu⟩ => ?_⟩
  subst eH
  have := hu vs h1
  rw [ew] at this
  cases this
  exact ⟨Same.refl _, rw'.mono fun _ z => .inl z⟩
theorem walk_str {cs : List Nat} : Walk W (Its (strV cs)) (cs.map fun c => .str [c]) [] [] := by
  intro H F hF h
  have hs : (strV cs).cps.size = cs.length := by simp [strV]
  refine ⟨fun i x ex => ?_, by show (strV cs).cps.size ≤ _; rw [hs, List.length_map]; exact Nat.le_refl _⟩
  rw [List.getElem?_map] at ex
  obtain ⟨c, ec, rfl⟩ := Option.map_eq_some_iff.mp ex
  refine ⟨?_, fun u H' ⟨eH, c', ec', hu⟩ => ?_⟩
  · show i < (strV cs).cps.size
    rw [hs]
    exact (List.getElem?_eq_some_iff.mp ec).1
  · subst eH hu
    have : c' = c := by
      have z : (strV cs).cps[i]? = cs[i]? := by simp [strV]
      rw [z, ec] at ec'
      exact (Option.some.inj ec').symm
    subst this
    exact ⟨Same.refl _, by simp only [Rep]; exact ⟨rfl, by rw [sizeLine_eq, List.length_singleton]; decide⟩⟩
theorem walk_rng {lo : Int} {n : Nat} : Walk W (Itr lo n) ((List.range n).map fun (k : Nat) => D.int (lo + (k : Int))) [] [] := by
  intro H F hF h
  refine ⟨fun i x ex => ?_, by show n ≤ _; simp⟩
  rw [List.getElem?_map] at ex
  obtain ⟨k, ek, rfl⟩ := Option.map_eq_some_iff.mp ex
  have hi : i < n := by
    have := (List.getElem?_eq_some_iff.mp ek).1
    simpa using this
  rw [List.getElem?_range hi] at ek
  cases ek
  refine ⟨hi, fun u H' ⟨eH, hu⟩ => ?_⟩
  subst eH hu
  exact ⟨Same.refl _, by simp only [Rep]⟩
/-- a part, then a row that is walked -/
theorem seqI {e : Ex} {B : List Nat} {f : D → Env → OutL} {R : L2.It → Hp → Prop} {R' : VK} (hM : ∀ i ∈ sl e.mods, i ∈ M) (r : Rel W T Ψ δ σ H) (h : PostI W T XW B M Ψ H σ ((ev Φ cf e o δ).thenL f) R)
    (k : ∀ d δ1, ev Φ cf e o δ = .ok d δ1 → ∀ v H1 Ψ1, Step (sl e.mods) Ψ H Ψ1 H1 → Rel W T Ψ1 δ1 σ H1 → RP W (e.md o) (sl e.mods) Ψ H Ψ1 H1 d v → PostI W T XW B M Ψ1 H1 σ (f d δ1) R → R' v H1) : tE W T Φ cf XW e o σ H R' := by
  refine ⟨δ, Ψ, r, ?_⟩
  cases q : ev Φ cf e o δ with
  | bad => rw [q] at h; exact h.elim
  | er x δ1 => rw [q] at h; exact fun cls dd H' Ψ' s r p => h cls dd H' Ψ' (s.mono hM) r p
  | ok d δ1 =>
    rw [q] at h
    intro v H1 Ψ1 s r p
    refine k d δ1 q v H1 Ψ1 s r p ?_
    simp only [Out.thenL_ok] at h
    cases q2 : f d δ1 with
    | ok xs δ2 => rw [q2] at h; exact fun J ds vs H' Ψ' s' r' => h J ds vs H' Ψ' ((s.mono hM).trans s') r'
    | er x δ2 => rw [q2] at h; exact fun cls dd H' Ψ' s' r' p => h cls dd H' Ψ' ((s.mono hM).trans s') r' p
    | bad => rw [q2] at h; exact h
theorem rp_fc {e : Ex} {d : D} {v : V} (p : RP W (e.md false) M Ψ H Ψ1 H1 d v) : Rep W H1 (FC (match e.lent with
    | some i => [i]
    | none => []) Ψ1) d v := by
  cases e
  case bor p0 =>
    exact Rep.mono (fun a z => z.imp id fun z => ⟨_, List.mem_cons_self, z⟩) p
  all_goals exact Rep.mono (fun a z => .inl z) p
theorem pi_overE (hK : W.K = X.K) {e : Ex} {x : Expr} (ha : PE X x (tE W T Φ cf XW e false)) : PI X tg x (tI W T Φ cf XW (.over e)) := ⟨fun pins s σ H R I ⟨δ, Ψ, r, h⟩ => by
  simp only [evIt] at h
  have go : ∀ (d : D) (xs : List D), itemsOf d = some xs → ∀ δ1, ev Φ cf e false δ = .ok d δ1 → ∀ v H1 Ψ1, Step (sl e.mods) Ψ H Ψ1 H1 → Rel W T Ψ1 δ1 σ H1 → RP W (e.md false) (sl e.mods) Ψ H Ψ1 H1 d v → PostI W T XW (It.over e).lents (sl (It.over e).mods) Ψ1 H1 σ (match itemsOf d with
      | some xs => if isBor e && !immAll xs then .bad else .ok xs δ1
      | none => .bad) R → ∀ J ds vs, Walk W J xs ds vs → Reps W H1 (FC (It.over e).lents Ψ1) ds vs → R J H1 := by
    intro d xs hx δ1 _ v H1 Ψ1 s1 r1 p1 h1 J ds vs wk rp
    rw [hx] at h1
    simp only at h1
    cases hb : isBor e with
    | false =>
      rw [hb] at h1
      refine h1 J ds vs H1 Ψ1 Step.refl r1 wk rp (.inl ?_)
      cases e <;> first | (cases hb; done) | rfl
    | true =>
      cases hi : immAll xs with
      | false => rw [hb, hi] at h1; exact h1.elim
      | true =>
        rw [hb, hi] at h1
        exact h1 J ds vs H1 Ψ1 Step.refl r1 wk rp (.inr hi)
  cases q : ev Φ cf e false δ with
  | bad => rw [q] at h; exact h.elim
  | er x δ1 =>
    refine (pi_list (tg := tg) ha).run pins s σ H R I ?_
    exact seqI (M := sl (It.over e).mods) (fun _ h => h) r h fun d δ1 e1 => by rw [q] at e1; cases e1
  | ok d δ1 =>
    have nb : itemsOf d ≠ none := fun z => by rw [q] at h; simp only [Out.thenL_ok, z] at h; exact h
    cases d <;> first | (exact absurd rfl nb) | skip
    · rename_i cs
      refine (pi_str (tg := tg) ha).run pins s σ H R I ?_
      refine seqI (M := sl (It.over e).mods) (fun _ h => h) r h fun d δ2 e1 v H1 Ψ1 s1 r1 p1 h1 => ?_
      rw [q] at e1
      cases e1
      have rp := rp_fc p1
      simp only [Rep] at rp
      obtain ⟨rfl, _⟩ := rp
      exact ⟨_, rfl, go _ _ rfl _ q _ _ _ s1 r1 p1 h1 _ [] [] walk_str Reps.nil⟩
    · rename_i xs
      refine (pi_tup (tg := tg) ha).run pins s σ H R I ?_
      refine seqI (M := sl (It.over e).mods) (fun _ h => h) r h fun d δ2 e1 v H1 Ψ1 s1 r1 p1 h1 => ?_
      rw [q] at e1
      cases e1
      have rp := rp_fc p1
      have rp' := rp
      simp only [Rep] at rp'
      obtain ⟨a, vs, rfl, h2, _⟩ := rp'
      rw [← hK]
      exact ⟨a, rfl, ⟨vs, h2⟩, go _ _ rfl _ q _ _ _ s1 r1 p1 h1 _ _ _ walk_tup (Reps.cons rp Reps.nil)⟩
    · rename_i xs
      refine (pi_list (tg := tg) ha).run pins s σ H R I ?_
      refine seqI (M := sl (It.over e).mods) (fun _ h => h) r h fun d δ2 e1 v H1 Ψ1 s1 r1 p1 h1 => ?_
      rw [q] at e1
      cases e1
      have rp := rp_fc p1
      have rp' := rp
      simp only [Rep] at rp'
      obtain ⟨a, vs, rfl, fa, h2, _⟩ := rp'
      rw [← hK]
      exact ⟨a, rfl, ⟨vs, SqL.of h2⟩, go _ _ rfl _ q _ _ _ s1 r1 p1 h1 _ _ _ walk_lst (Reps.cons rp Reps.nil)⟩
    · rename_i is
      refine (pi_list (tg := tg) ha).run pins s σ H R I ?_
      refine seqI (M := sl (It.over e).mods) (fun _ h => h) r h fun d δ2 e1 v H1 Ψ1 s1 r1 p1 h1 => ?_
      rw [q] at e1
      cases e1
      have rp := rp_fc p1
      have rp' := rp
      simp only [Rep] at rp'
      obtain ⟨a, rfl, h2, _⟩ := rp'
      rw [← hK]
      exact ⟨a, rfl, ⟨_, scr_sql h2⟩, go _ _ rfl _ q _ _ _ s1 r1 p1 h1 _ _ _ walk_scr (Reps.cons rp Reps.nil)⟩⟩
theorem pi_rng1E {a : Ex} {x : Expr} (hg : Gl X "range") (hm : X.mg "range" = none) (ha : PA X [x] (tEs W T Φ cf XW (.cons a .nil) false)) (hs : starEach [x] X.env = [(false, eval x X.env)]) : PI X tg (.Call (.Name "range" p1) [x] [] pos) (tI W T Φ cf XW (.rng1 a)) := ⟨fun pins s σ H R I ⟨δ, Ψ, r, h⟩ => by
  simp only [evIt] at h
  refine (pi_range1 hg hm ha hs).run pins s σ H R I ⟨δ, Ψ, r, ?_⟩
  simp only [evs]
  cases q : ev Φ cf a false δ with
  | bad => rw [q] at h; exact h.elim
  | er x δ1 => rw [q] at h; exact fun cls dd H' Ψ' s r p => h cls dd H' Ψ' (s.mono fun i hi => (List.mem_append.mp hi).elim id fun z => by cases z) r p
  | ok d δ1 =>
    rw [q] at h
    simp only [Out.thenL_ok] at h
    intro vs H1 Ψ1 s1 r1 p1
    obtain ⟨d', ds', v, vs', e1, e2, pv, pr⟩ := (show RPs W _ Ψ H Ψ1 H1 [a.md false] [d] vs from p1)
    obtain ⟨rfl, rfl⟩ := pr
    cases e1
    subst e2
    have rp := RP.rep (e := a) pv (b := true) fun _ => rfl
    cases d <;> first | (exact h.elim) | skip
    rename_i n
    simp only at h
    simp only [Rep] at rp
    subst rp
    split at h
    · rename_i k
      have k := of_decide_eq_true k
      refine ⟨n, rfl, k.1, k.2, ?_⟩
      have wk := walk_rng (W := W) (lo := 0) (n := n.toNat)
      have e : ((List.range n.toNat).map fun (k : Nat) => D.int (0 + (k : Int))) = upTo n.toNat := by
        unfold upTo
        congr 1
        funext k
        rw [Int.zero_add]
      rw [e] at wk
      exact h _ [] [] H1 Ψ1 (s1.mono fun i hi => (List.mem_append.mp hi).elim id fun z => by cases z) r1 wk Reps.nil (.inl rfl)
    · exact h.elim⟩
theorem fc_step {B : List Nat} {ds : List D} {vs : List V} (r : Rel W T Ψ δ σ H) (s : Step M Ψ H Ψ1 H1) (hB : ∀ i ∈ B, i ∉ M) (h : Reps W H (FC B Ψ) ds vs) : Reps W H1 (FC B Ψ1) ds vs := by
  refine h.stay (s.stay ?_) ?_
  · rintro a (z | ⟨k, hk, z⟩) i hi y
    · exact r.ns i a y z
    · exact r.dj k i a (fun e => hB k hk (by rw [e]; exact hi)) z y
  · rintro a (z | ⟨k, hk, z⟩)
    · exact .inl (s.fsL a z)
    · exact .inr ⟨k, hk, by rw [s.foN k (hB k hk)]; exact z⟩
theorem immAll_get : ∀ {xs : List D} {i : Nat} {x : D}, immAll xs = true → xs[i]? = some x → x.imm = true
  | [], i, x, _, e => by simp at e
  | y :: xs, 0, x, h, e => by
    simp at e
    subst e
    simp only [immAll, Bool.and_eq_true] at h
    exact h.1
  | y :: xs, i + 1, x, h, e => by
    simp only [immAll, Bool.and_eq_true] at h
    exact immAll_get (i := i) h.2 (by simpa using e)
/-- an item is told over the shared places -/
theorem item_rep {B : List Nat} {xs : List D} {i : Nat} {x : D} {w : V} (hB : B = [] ∨ immAll xs = true) (e : xs[i]? = some x) (h : Rep W H1 (fun a => FC B Ψ a ∨ (¬ trk H a ∧ trk H1 a)) x w) : Rep W H1 (Ψ.ext H H1).fs x w := by
  rcases hB with rfl | hi
  · refine h.mono ?_
    rintro a ((z | ⟨k, hk, z⟩) | z)
    · exact .inl z
    · cases hk
    · exact .inr z
  · exact h.imm (immAll_get hi e)
/-- what a for does from its walk on -/
theorem ps_forE {t : Tg} {it : It} {b : Ss} {x : Expr} {xs : List Stmt} (hB : ∀ i ∈ it.lents, i ∉ tgSlots t ++ b.mods) (hp : PassesOwn (model X.prog X.w) X.A X.env X.xe) (hc : X.calm = true) (hi : PI X tg x (tI W T Φ cf XW it))
    (hg : PG X tg (tGx W T kp (sl (tgSlots t ++ b.mods)) false t)) (hb : PSs X xs (tSs W T Φ cf XW ro kp b)) (hs : ∀ v, foldedSetIterable x X.env v = pure v) : PS X (.For tg x xs [] pos) (tS W T Φ cf XW ro kp (.forr t it b)) :=
  (ps_for hp hc hi hg hb (hs := hs)).weak fun En σ H ⟨δ, Ψ, r, h⟩ => by
  simp only [ex] at h
  refine ⟨δ, Ψ, r, ?_⟩
  have mI : ∀ i ∈ sl it.mods, i ∈ sl (S.forr t it b).mods := fun i hi => List.mem_append_left _ (List.mem_append_left _ hi)
  have mT : ∀ i ∈ sl (tgSlots t ++ b.mods), i ∈ sl (S.forr t it b).mods := fun i hi => by
    rcases List.mem_append.mp hi with z | z
    · exact List.mem_append_left _ (List.mem_append_right _ z)
    · exact List.mem_append_right _ z
  cases q : evIt Φ cf it δ with
  | bad => rw [q] at h; exact h.elim
  | er x δ1 => rw [q] at h; exact fun cls dd H' Ψ' s r p => h cls dd σ H' Ψ' (s.mono mI) r (Keep.refl _ _) p
  | ok ys δ1 =>
    rw [q] at h
    simp only [OutL.thenF_ok] at h
    intro J ds vs H1 Ψ1 s1 r1 wk rp hB2
    refine ⟨fun i m σ2 H2 => m = ys.length - i ∧ i ≤ ys.length ∧ ∃ δ2 Ψ2, Rel W T Ψ2 δ2 σ2 H2 ∧ Reps W H2 (FC it.lents Ψ2) ds vs ∧ PostS W T XW ro kp (sl (S.forr t it b).mods) Ψ2 H2 σ2 (forGo (fun x δ2 => match bindT t x δ2 with
      | some δ3 => exs Φ cf ro b δ3
      | none => .bad) (ys.drop i) δ2) En, ⟨_, rfl, Nat.zero_le _, δ1, Ψ1, r1, rp, h.shift (s1.mono mI) (Keep.refl _ _)⟩, ?_⟩
    rintro i m σ2 H2 ⟨rfl, hi, δ2, Ψ2, r2, rp2, h2⟩
    have fcT : ∀ a, FC it.lents Ψ2 a → trk H2 a := by
      rintro a (z | ⟨k, _, z⟩)
      · exact r2.fs a z
      · obtain ⟨o, e, n, _⟩ := r2.fo_trk z
        exact ⟨o, e, n⟩
    obtain ⟨wgo, wst⟩ := wk H2 _ fcT rp2
    by_cases hlt : i < ys.length
    · obtain ⟨go, yl⟩ := wgo i ys[i] (List.getElem?_eq_getElem hlt)
      rw [List.drop_eq_getElem_cons hlt] at h2
      simp only [forGo] at h2
      refine .inr ⟨go, fun σ4 H4 => ∃ δ4 Ψ4, Rel W T Ψ4 δ4 σ4 H4 ∧ Reps W H4 (FC it.lents Ψ4) ds vs ∧ PostS W T XW ro kp (sl (S.forr t it b).mods) Ψ4 H4 σ4 (forGo (fun x δ2 => match bindT t x δ2 with
        | some δ3 => exs Φ cf ro b δ3
        | none => .bad) (ys.drop (i + 1)) δ4) En, fun σ4 H4 h4 => ⟨ys.length - (i + 1), by omega, rfl, hlt, h4⟩, fun w H3 y => ?_⟩
      obtain ⟨sm, rw'⟩ := yl w H3 y
      cases eb : bindT t ys[i] δ2 with
      | none => rw [eb] at h2; exact h2.elim
      | some δ3 =>
        rw [eb] at h2
        simp only at h2
        have g := Same.grow sm
        refine ⟨Ψ2, H2, Ψ2.ext H2 H3, δ2, ys[i], δ3, [], g.step, r2.same sm, eb, pend_nil, item_rep hB2 (List.getElem?_eq_getElem hlt) rw', fun σ3 Ψ3 S3 R3 _ _ K3 => ⟨δ3, Ψ3, R3, ?_⟩⟩
        have h3 := h2.shift (S3.mono mT) K3
        have rp3 := fc_step r2 S3 hB rp2
        cases q3 : exs Φ cf ro b δ3 with
        | nx δ4 =>
          rw [q3] at h3
          exact fun σ4 H4 Ψ4 s4 r4 k4 => ⟨δ4, Ψ4, r4, fc_step R3 s4 (fun j hj z => hB j hj (List.mem_append_right _ z)) rp3, h3.shift ((s4.mono fun j hj => mT j (List.mem_append_right _ hj))) k4⟩
        | ct δ4 =>
          rw [q3] at h3
          exact fun σ4 H4 Ψ4 s4 r4 k4 => ⟨δ4, Ψ4, r4, fc_step R3 s4 (fun j hj z => hB j hj (List.mem_append_right _ z)) rp3, h3.shift ((s4.mono fun j hj => mT j (List.mem_append_right _ hj))) k4⟩
        | bk δ4 => rw [q3] at h3; exact fun σ4 H4 Ψ4 s4 r4 k4 => h3 σ4 H4 Ψ4 (s4.mono fun j hj => mT j (List.mem_append_right _ hj)) r4 k4
        | rt d δ4 => rw [q3] at h3; exact fun v σ4 H4 Ψ4 s4 r4 k4 p => h3 v σ4 H4 Ψ4 (s4.mono fun j hj => mT j (List.mem_append_right _ hj)) r4 k4 (p.more fun j hj => mT j (List.mem_append_right _ hj))
        | er x δ4 => rw [q3] at h3; exact fun cls dd σ4 H4 Ψ4 s4 r4 k4 p => h3 cls dd σ4 H4 Ψ4 (s4.mono fun j hj => mT j (List.mem_append_right _ hj)) r4 k4 p
        | bad => rw [q3] at h3; exact h3
    · have e : i = ys.length := by omega
      subst e
      rw [List.drop_length] at h2
      exact .inl ⟨wst, h2 σ2 H2 Ψ2 Step.refl r2 (Keep.refl _ _)⟩
end
end PyI

set_option Elab.async false
set_option linter.all false
set_option maxRecDepth 100000
namespace PyI
open PySem PySem.Spec PyProof.Rows L2 LamX
def noX : WX := fun _ _ _ _ => False
def offS (vs : List Nat) : Slots := fun i => i ∉ vs
theorem wipe_at {σ : L2.St} {i : Nat} : ∀ {vs : List Nat}, (L2.wipe σ vs)[i]? = if i ∈ vs then (if i < σ.length then some none else none) else σ[i]?
  | [] => by simp [L2.wipe]
  | v :: vs => by
    show ((L2.wipe σ vs).set v none)[i]? = _
    rw [List.getElem?_set, L2.wipe_length, wipe_at (vs := vs)]
    by_cases h : v = i
    · subst h
      simp
    · rw [if_neg h]
      have : (i ∈ v :: vs) ↔ i ∈ vs := by simp [Ne.symm h]
      simp only [this]
theorem clr_at {i : Nat} : ∀ {vs : List Nat} {δ : Env}, slot (clr vs δ) i = if i ∈ vs then none else slot δ i
  | [], δ => by simp [clr]
  | v :: vs, δ => by
    show slot (clr vs (δ.set v none)) i = _
    rw [clr_at (vs := vs), slot_set]
    by_cases h : v = i
    · subst h
      simp
    · rw [if_neg h]
      have : (i ∈ v :: vs) ↔ i ∈ vs := by simp [Ne.symm h]
      simp only [this]
theorem clr_length : ∀ {vs : List Nat} {δ : Env}, (clr vs δ).length = δ.length
  | [], δ => rfl
  | v :: vs, δ => by
    show (clr vs (δ.set v none)).length = _
    rw [clr_length, List.length_set]
theorem restore_length {δ : Env} : ∀ {vs : List Nat} {δ' : Env}, (restore vs δ δ').length = δ'.length
  | [], δ' => rfl
  | v :: vs, δ' => by
    show (restore vs δ (δ'.set v (slot δ v))).length = _
    rw [restore_length, List.length_set]
theorem restore_at {δ : Env} {i : Nat} : ∀ {vs : List Nat} {δ' : Env}, δ'.length = δ.length → slot (restore vs δ δ') i = if i ∈ vs then slot δ i else slot δ' i
  | [], δ', _ => by simp [restore]
  | v :: vs, δ', hl => by
    show slot (restore vs δ (δ'.set v (slot δ v))) i = _
    rw [restore_at (vs := vs) (by rw [List.length_set]; exact hl)]
    by_cases h : i ∈ vs
    · rw [if_pos h, if_pos (List.mem_cons_of_mem _ h)]
    · rw [if_neg h, slot_set]
      by_cases k : v = i
      · subst k
        rw [if_pos rfl, if_pos List.mem_cons_self]
        by_cases hv : v < δ'.length
        · rw [if_pos hv]
        · rw [if_neg hv]
          unfold slot
          rw [List.getElem?_eq_none (by omega)]
      · rw [if_neg k, if_neg (by simp [Ne.symm k, h])]
mutual
theorem bindT_len : ∀ {t : Tg} {d : D} {δ δ' : Env}, bindT t d δ = some δ' → δ'.length = δ.length
  | .nm o i, d, δ, δ', h => by
    simp only [bindT] at h
    split at h <;> cases h
    rw [List.length_set]
  | .tp ts, d, δ, δ', h => by
    cases d <;> simp only [bindT] at h <;> first | (cases h; done) | exact bindTs_lenE h
theorem bindTs_lenE : ∀ {ts : List Tg} {ds : List D} {δ δ' : Env}, bindTs ts ds δ = some δ' → δ'.length = δ.length
  | [], [], δ, δ', h => by cases h; rfl
  | [], _ :: _, _, _, h => by simp [bindTs] at h
  | _ :: _, [], _, _, h => by simp [bindTs] at h
  | t :: ts, d :: ds, δ, δ', h => by
    simp only [bindTs] at h
    obtain ⟨δ1, e1, e2⟩ := Option.bind_eq_some_iff.mp h
    rw [bindTs_lenE e2, bindT_len e1]
end
section
variable {W : Wd} {T : List (Addr × Str)} {Φ : Nat → Option Fn} {cf : CF} {XW : WX} {X : Cx} {σ σ' : L2.St} {Ψ Ψ0 Ψ1 Ψ2 Ψ' : Own} {H H0 H1 H2 H' : Hp} {δ δ1 δ2 δ' : Env} {M M1 : Slots} {Q : VK} {pos p2 p1 p3 apos : Pos} {o ro : Bool} {kp : Slots} {tg : Expr}
def Own.clr (Ψ : Own) (vs : List Nat) : Own := ⟨Ψ.fs, fun i => if i ∈ vs then [] else Ψ.fo i⟩
theorem Rel.clr {vs : List Nat} (r : Rel W T Ψ δ σ H) : Rel W T (Ψ.clr vs) (clr vs δ) (L2.wipe σ vs) H := by
  refine ⟨by rw [clr_length, L2.wipe_length]; exact r.len, fun i d h => ?_, fun i d h => ?_, fun i h => ?_, r.fs, fun i a ha hf => ?_, fun i j a hne h1 h2 => ?_, r.tb⟩
  · rw [clr_at] at h
    by_cases z : i ∈ vs
    · rw [if_pos z] at h; cases h
    · rw [if_neg z] at h
      rw [wipe_at, if_neg z]
      exact r.sh i d h
  · rw [clr_at] at h
    by_cases z : i ∈ vs
    · rw [if_pos z] at h; cases h
    · rw [if_neg z] at h
      rw [wipe_at, if_neg z]
      obtain ⟨v, e, t⟩ := r.ow i d h
      refine ⟨v, e, ?_⟩
      show Tree W H d v (if i ∈ vs then [] else Ψ.fo i)
      rw [if_neg z]
      exact t
  · show (if i ∈ vs then [] else Ψ.fo i) = []
    by_cases z : i ∈ vs
    · rw [if_pos z]
    · rw [if_neg z]
      refine r.no i fun d e => h d ?_
      rw [clr_at, if_neg z]
      exact e
  · have ha' : a ∈ (if i ∈ vs then [] else Ψ.fo i) := ha
    by_cases z : i ∈ vs
    · rw [if_pos z] at ha'; cases ha'
    · rw [if_neg z] at ha'; exact r.ns i a ha' hf
  · have h1' : a ∈ (if i ∈ vs then [] else Ψ.fo i) := h1
    have h2' : a ∈ (if j ∈ vs then [] else Ψ.fo j) := h2
    by_cases z : i ∈ vs
    · rw [if_pos z] at h1'; cases h1'
    · by_cases y : j ∈ vs
      · rw [if_pos y] at h2'; cases h2'
      · rw [if_neg z] at h1'; rw [if_neg y] at h2'; exact r.dj i j a hne h1' h2'
theorem step_clr {vs : List Nat} (hv : ∀ i ∈ vs, i ∈ M) (s : Step M Ψ0 H0 Ψ H) : Step M Ψ0 H0 (Ψ.clr vs) H := by
  refine ⟨s.keep, s.trk, s.tup, s.frz, s.fsL, s.fsR, fun j hj => ?_, fun j hj a ha => ?_⟩
  · show (if j ∈ vs then [] else Ψ.fo j) = Ψ0.fo j
    rw [if_neg fun z => hj (hv j z)]
    exact s.foN j hj
  · have ha' : a ∈ (if j ∈ vs then [] else Ψ.fo j) := ha
    by_cases z : j ∈ vs
    · rw [if_pos z] at ha'; cases ha'
    · rw [if_neg z] at ha'; exact s.foM j hj a ha'
theorem Pend.clr {vs : List Nat} {F : List Addr} (p : Pend Ψ H F) : Pend (Ψ.clr vs) H F := by
  refine ⟨p.trk, p.ns, fun a ha i hi => ?_⟩
  have hi' : a ∈ (if i ∈ vs then [] else Ψ.fo i) := hi
  by_cases z : i ∈ vs
  · rw [if_pos z] at hi'; cases hi'
  · rw [if_neg z] at hi'; exact p.no a ha i hi'
/-- a thing that nobody has is written -/
theorem Rel.upd {a : Addr} {ob ob' : HO} (r : Rel W T Ψ δ σ H) (e : H a = some ob) (w : Wr ob) (w' : Wr ob') (hs : ¬ Ψ.fs a) (hf : ∀ i, a ∉ Ψ.fo i) : Rel W T Ψ δ σ (upd H a ob') := by
  have st : ∀ F : Addr → Prop, (¬ F a) → Stay F H (L2.upd H a ob') := fun F h => ⟨fun b fb o q _ => by rw [upd_ne fun z => h (by rw [← z]; exact fb)]; exact q,
    fun b xs q => by rw [upd_ne fun z => by rw [z, e] at q; cases q; exact w]; exact q, fun b o u q => by rw [upd_ne fun z => by rw [z, e] at q; cases q; exact w]; exact q⟩
  refine ⟨r.len, fun i d h => ?_, fun i d h => ?_, r.no, fun b h => ?_, r.ns, r.dj, ?_⟩
  · obtain ⟨v, ev, rp⟩ := r.sh i d h
    exact ⟨v, ev, rp.stay (st _ hs) fun _ z => z⟩
  · obtain ⟨v, ev, t⟩ := r.ow i d h
    exact ⟨v, ev, t.stay (st _ (hf i))⟩
  · obtain ⟨o, q, n⟩ := r.fs b h
    exact ⟨o, by rw [upd_ne fun z => hs (by rw [← z]; exact h)]; exact q, n⟩
  · exact tabs_upd r.tb fun o q => by
      rw [e] at q
      cases q
      exact ⟨w.no.1, w.no.2.1⟩
theorem step_upd {a : Addr} {ob ob' : HO} (s : Step M Ψ0 H0 Ψ H) (e : H a = some ob) (w : Wr ob) (w' : Wr ob') (hn : ¬ trk H0 a) : Step M Ψ0 H0 Ψ (upd H a ob') := by
  have ne : ∀ b o, H0 b = some o → (∀ ps, o ≠ .tbl ps) → b ≠ a := fun b o q n z => hn ⟨o, by rw [← z]; exact q, n⟩
  refine ⟨fun b o q n k => ?_, fun b q => ?_, fun b xs q => ?_, fun b o u q => ?_, s.fsL, s.fsR, s.foN, s.foM⟩
  · rw [upd_ne (ne b o q n)]; exact s.keep b o q n k
  · obtain ⟨o, q2, n⟩ := s.trk b q
    obtain ⟨o0, q0, n0⟩ := q
    exact ⟨o, by rw [upd_ne (ne b o0 q0 n0)]; exact q2, n⟩
  · rw [upd_ne (ne b _ q fun _ z => by cases z)]; exact s.tup b xs q
  · rw [upd_ne (ne b _ q fun _ z => by cases z)]; exact s.frz b o u q
theorem mapGo_cons {f : D → Env → OutL} {x : D} {xs total : List D} {δ6 : Env} (h : mapGo f (x :: xs) δ = .ok total δ6) : ∃ ds δ1 es, f x δ = .ok ds δ1 ∧ mapGo f xs δ1 = .ok es δ6 ∧ total = ds ++ es := by
  simp only [mapGo] at h
  split at h <;> first | (cases h; done) | skip
  rename_i ds δ1 e1
  split at h <;> first | (cases h; done) | skip
  rename_i es δ2 e2
  cases h
  exact ⟨ds, δ1, es, e1, e2, rfl⟩
theorem noOw_at {vs : List Nat} (h : noOw vs δ = true) {i : Nat} (hi : i ∈ vs) (d : D) : slot δ i ≠ some (.ow d) := fun z => by
  have := List.all_eq_true.mp h i hi
  rw [z] at this
  cases this
/-- one test, or none -/
def cT (W : Wd) (T : List (Addr × Str)) (Φ : Nat → Option Fn) (cf : CF) : Exs → TT
  | .cons c _ => tT W T Φ cf noX c
  | .nil => tYes
def Exs.one : Exs → Bool
  | .nil => true
  | .cons _ .nil => true
  | _ => false
theorem te_lc {t : Tg} {it : It} {cs : Exs} {e : Ex} (hcs : cs.one = true) (hb : isBor e = false) (hB : ∀ i ∈ it.lents, i ∉ tgSlots t ++ cs.mods ++ e.mods) (h : tE W T Φ cf XW (.lc t it cs e) o σ H Q) :
    tLc (tI W T Φ cf XW it) (tGx W T (offS (tgSlots t)) (sl (tgSlots t)) false t) (cT W T Φ cf cs) (tE W T Φ cf noX e false) (tgSlots t) σ H Q := by
  obtain ⟨δ, Ψ, r, h⟩ := h
  simp only [ev] at h
  refine ⟨δ, Ψ, r, ?_⟩
  generalize hvs : tgSlots t = vs at *
  have mI : ∀ i ∈ sl it.mods, i ∈ sl (Ex.lc t it cs e).mods := fun i hi => List.mem_append_left _ (List.mem_append_left _ (List.mem_append_left _ hi))
  have mV : ∀ i ∈ vs, i ∈ sl (Ex.lc t it cs e).mods := fun i hi => List.mem_append_left _ (List.mem_append_left _ (List.mem_append_right _ (by rw [hvs]; exact hi)))
  have mC : ∀ i ∈ sl cs.mods, i ∈ sl (Ex.lc t it cs e).mods := fun i hi => List.mem_append_left _ (List.mem_append_right _ hi)
  have mE : ∀ i ∈ sl e.mods, i ∈ sl (Ex.lc t it cs e).mods := fun i hi => List.mem_append_right _ hi
  cases q : evIt Φ cf it δ with
  | bad => rw [q] at h; exact h.elim
  | er x δ1 => rw [q] at h; exact fun cls dd H' Ψ' s r p => h cls dd H' Ψ' (s.mono mI) r p
  | ok ys δ1 =>
    rw [q] at h
    simp only [OutL.then_ok] at h
    split at h <;> first | (exact h.elim) | skip
    rename_i hno
    generalize hf : (fun x δ2 => match bindT t x (clr vs δ2) with
        | some δ3 => condGo Φ cf cs (fun δ4 => (ev Φ cf e false δ4).thenL fun d δ5 => OutL.ok [d] δ5) δ3
        | none => OutL.bad) = f at h
    cases qm : mapGo f ys δ1 with
    | bad => rw [qm] at h; exact h.elim
    | er x δ6 =>
      exfalso
      have : ∀ (ys : List D) (δ1 : Env) (x : D) (δ6 : Env), mapGo f ys δ1 ≠ .er x δ6 := by
        intro ys
        induction ys with
        | nil => intro δ1 x δ6 z; simp [mapGo] at z
        | cons y ys ih =>
          intro δ1 x δ6 z
          simp only [mapGo] at z
          split at z <;> first | (cases z; done) | skip
          split at z <;> cases z
      exact this ys δ1 x δ6 qm
    | ok total δ6 =>
      rw [qm] at h
      simp only [OutL.then_ok] at h
      cases eo : okLst total with
      | none => rw [eo] at h; exact h.elim
      | some z =>
        rw [eo, opt_some] at h
        obtain ⟨rfl, hz⟩ := okLst_some eo
        intro J ds cvs H1 Ψ1 s1 r1 wk rp hB2
        intro Dl hD
        have hD0 : ¬ trk H Dl := fun z => not_trk hD (s1.trk Dl z)
        have sm0 : Same H1 (upd H1 Dl (.lst [])) := same_new hD
        refine ⟨fun i m H2 => m = ys.length - i ∧ i ≤ ys.length ∧ ∃ δ2 Ψ2 acc ads rest, Step (sl (Ex.lc t it cs e).mods) Ψ H Ψ2 H2 ∧ Step (sl (vs ++ cs.mods ++ e.mods)) Ψ1 H1 Ψ2 H2 ∧ Rel W T Ψ2 (clr vs δ2) (L2.wipe σ vs) H2 ∧ δ2.length = δ1.length ∧ H2 Dl = some (.lst acc) ∧ Pend Ψ2 H2 [Dl] ∧
          Reps W H2 Ψ2.fs ads acc ∧ Reps W H2 (FC it.lents Ψ2) ds cvs ∧ mapGo f (ys.drop i) δ2 = .ok rest δ6 ∧ total = ads ++ rest, ⟨ys.length, by simp, Nat.zero_le _, δ1, Ψ1.clr vs, [], [], total, ?_, ?_, ?_, rfl, upd_same, ?_, Reps.nil, ?_, qm, rfl⟩, ?_⟩
        · exact step_clr mV ((s1.mono mI).trans (Grow.step0 (Same.grow sm0)))
        · exact step_clr (fun i hi => List.mem_append_left _ (List.mem_append_left _ hi)) (Grow.step0 (Same.grow sm0))
        · exact (r1.same0 sm0).clr
        · refine ⟨fun a ha => ?_, fun a ha z => ?_, fun a ha i z => ?_⟩ <;> rw [List.mem_singleton.mp ha] at *
          · exact trk_lst upd_same
          · exact not_trk hD (r1.fs _ z)
          · have z' : Dl ∈ (if i ∈ vs then [] else Ψ1.fo i) := z
            by_cases y : i ∈ vs
            · rw [if_pos y] at z'; cases z'
            · rw [if_neg y] at z'
              obtain ⟨o, e, _⟩ := r1.fo_trk z'
              rw [hD] at e; cases e
        · refine fc_step (M := sl vs) r1 (step_clr (fun i hi => hi) (Grow.step0 (Same.grow sm0))) (fun i hi z => hB i hi (List.mem_append_left _ (List.mem_append_left _ z))) rp
        rintro i m H2 ⟨rfl, hi, δ2, Ψ2, acc, ads, rest, S2, S12, R2, len2, eD, pD, ra, rp2, eM, etot⟩
        have fcT : ∀ a, FC it.lents Ψ2 a → trk H2 a := by
          rintro a (z | ⟨k, _, z⟩)
          · exact R2.fs a z
          · obtain ⟨o, e, n, _⟩ := R2.fo_trk z
            exact ⟨o, e, n⟩
        obtain ⟨wgo, wst⟩ := wk H2 _ fcT rp2
        by_cases hlt : i < ys.length
        · obtain ⟨go, yl⟩ := wgo i ys[i] (List.getElem?_eq_getElem hlt)
          rw [List.drop_eq_getElem_cons hlt] at eM
          obtain ⟨ds', δ', es', ef, eM', rfl⟩ := mapGo_cons eM
          refine .inr ⟨go, fun H4 => ∃ δ4 Ψ4 acc ads rest, Step (sl (Ex.lc t it cs e).mods) Ψ H Ψ4 H4 ∧ Step (sl (vs ++ cs.mods ++ e.mods)) Ψ1 H1 Ψ4 H4 ∧ Rel W T Ψ4 (clr vs δ4) (L2.wipe σ vs) H4 ∧ δ4.length = δ1.length ∧ H4 Dl = some (.lst acc) ∧ Pend Ψ4 H4 [Dl] ∧
            Reps W H4 Ψ4.fs ads acc ∧ Reps W H4 (FC it.lents Ψ4) ds cvs ∧ mapGo f (ys.drop (i + 1)) δ4 = .ok rest δ6 ∧ total = ads ++ rest, fun H4 h4 => ⟨ys.length - (i + 1), by omega, rfl, hlt, h4⟩, fun w H3 y => ?_⟩
          obtain ⟨sm, rw'⟩ := yl w H3 y
          have g := Same.grow sm
          have ef' := ef
          rw [← hf] at ef'
          simp only at ef'
          cases eb : bindT t ys[i] (clr vs δ2) with
          | none => rw [eb] at ef'; cases ef'
          | some δ3 =>
            rw [eb] at ef'
            simp only at ef'
            refine ⟨Ψ2, H2, Ψ2.ext H2 H3, clr vs δ2, ys[i], δ3, [Dl], g.step, R2.same sm, eb, ?_, item_rep hB2 (List.getElem?_eq_getElem hlt) rw', fun σ3 Ψ3 S3 R3 pD3 f3 K3 => ?_⟩
            · refine ⟨fun a ha => g.trk (pD.trk a ha), fun a ha z => ?_, pD.no⟩
              rcases z with z | z
              · exact pD.ns a ha z
              · exact z.1 (pD.trk a ha)
            have l3 : δ3.length = δ1.length := by rw [bindT_len eb, clr_length]; exact len2
            have hw : L2.wipe σ3 vs = L2.wipe σ vs := by
              refine List.ext_getElem? fun k => ?_
              rw [wipe_at, wipe_at]
              have ls : σ3.length = σ.length := by
                rw [← R3.len, l3, r1.len]
              by_cases hk : k ∈ vs
              · rw [if_pos hk, if_pos hk, ls]
              · rw [if_neg hk, if_neg hk]
                have := K3 k hk
                rw [wipe_at, if_neg hk] at this
                exact this
            have mV' : ∀ i ∈ sl vs, i ∈ sl (vs ++ cs.mods ++ e.mods) := fun i hi => List.mem_append_left _ (List.mem_append_left _ hi)
            have S3a : Step (sl (Ex.lc t it cs e).mods) Ψ H Ψ3 H3 := S2.trans (S3.mono mV)
            have S3b : Step (sl (vs ++ cs.mods ++ e.mods)) Ψ1 H1 Ψ3 H3 := S12.trans (S3.mono mV')
            have lentV : ∀ i ∈ it.lents, i ∉ sl vs := fun i hi z => hB i hi (List.mem_append_left _ (List.mem_append_left _ z))
            have rp3 := fc_step R2 S3 lentV rp2
            have ra3 : Reps W H3 Ψ3.fs ads acc := ra.stay (R2.stay_fs S3) S3.fsL
            have eD3 : H3 Dl = some (.lst acc) := sm _ _ eD
            refine ⟨hw, ?_⟩
            -- the element, behind the test
            have elem : ∀ δ4 Ψ4 H4, Step (sl (cs.mods)) Ψ3 H3 Ψ4 H4 → Rel W T Ψ4 δ4 σ3 H4 → δ4.length = δ1.length → ((ev Φ cf e false δ4).thenL fun d δ5 => OutL.ok [d] δ5) = .ok ds' δ' →
                tE W T Φ cf noX e false σ3 H4 fun y H5 => ∃ acc, H5 Dl = some (.lst acc) ∧ acc.length < sizeLine ∧ ∃ δ4 Ψ4 acc' ads rest, Step (sl (Ex.lc t it cs e).mods) Ψ H Ψ4 (upd H5 Dl (.lst (acc ++ [y]))) ∧ Step (sl (vs ++ cs.mods ++ e.mods)) Ψ1 H1 Ψ4 (upd H5 Dl (.lst (acc ++ [y]))) ∧ Rel W T Ψ4 (clr vs δ4) (L2.wipe σ vs) (upd H5 Dl (.lst (acc ++ [y]))) ∧ δ4.length = δ1.length ∧
                  (upd H5 Dl (.lst (acc ++ [y]))) Dl = some (.lst acc') ∧ Pend Ψ4 (upd H5 Dl (.lst (acc ++ [y]))) [Dl] ∧ Reps W (upd H5 Dl (.lst (acc ++ [y]))) Ψ4.fs ads acc' ∧ Reps W (upd H5 Dl (.lst (acc ++ [y]))) (FC it.lents Ψ4) ds cvs ∧ mapGo f (ys.drop (i + 1)) δ4 = .ok rest δ6 ∧ total = ads ++ rest := by
              intro δ4 Ψ4 H4 s4 r4 l4 ee
              refine ⟨δ4, Ψ4, r4, ?_⟩
              cases qe : ev Φ cf e false δ4 with
              | bad => rw [qe] at ee; cases ee
              | er x δ5 => rw [qe] at ee; cases ee
              | ok d δ5 =>
                rw [qe] at ee
                cases ee
                intro y H5 Ψ5 s5 r5 p5
                rw [Ex.md_sh hb] at p5
                have s35 : Step (sl (cs.mods ++ e.mods)) Ψ3 H3 Ψ5 H5 := (s4.mono sub_l).trans (s5.mono sub_r)
                have pD5 : Pend Ψ5 H5 [Dl] := pD3.step s35
                have eD5 : H5 Dl = some (.lst acc) := s35.keep Dl _ eD3 (fun _ z => by cases z) fun k _ z => pD3.no Dl List.mem_cons_self k z
                have nfs := pD5.ns Dl List.mem_cons_self
                have nfo := pD5.no Dl List.mem_cons_self
                have lentM : ∀ k ∈ it.lents, k ∉ sl (cs.mods ++ e.mods) := fun k hk z => hB k hk (by
                  rw [List.append_assoc]
                  exact List.mem_append_right _ z)
                have la : acc.length = ads.length := ra.len.symm
                refine ⟨acc, eD5, ?_, δ', Ψ5.clr vs, acc ++ [y], ads ++ [d], es', ?_, ?_, ?_, ?_, upd_same, ?_, ?_, ?_, eM', by rw [etot, List.append_assoc]⟩
                · rw [la]
                  rw [etot, List.length_append, List.length_append, List.length_singleton] at hz
                  omega
                · exact step_clr mV (step_upd (S3a.trans (s35.mono fun k hk => (List.mem_append.mp hk).elim (mC k) (mE k))) eD5 trivial trivial hD0)
                · exact step_clr mV' (step_upd (S3b.trans (s35.mono fun k hk => by
                    rw [List.append_assoc]
                    exact List.mem_append_right _ hk)) eD5 trivial trivial (not_trk hD))
                · rw [← hw]
                  exact (r5.upd (ob' := .lst (acc ++ [y])) eD5 trivial trivial nfs nfo).clr
                · rw [r5.len, ← r4.len]; exact l4
                · refine Pend.clr ⟨fun a ha => ?_, pD5.ns, pD5.no⟩
                  rw [List.mem_singleton.mp ha]
                  exact trk_lst upd_same
                · have st : Stay Ψ5.fs H5 (upd H5 Dl (.lst (acc ++ [y]))) := ⟨fun a fa o q _ => by rw [upd_ne fun z => nfs (by rw [← z]; exact fa)]; exact q, fun a xs q => by rw [upd_ne fun z => by rw [z, eD5] at q; cases q]; exact q, fun a o u q => by rw [upd_ne fun z => by rw [z, eD5] at q; cases q]; exact q⟩
                  exact Reps.append ((ra3.stay (R3.stay_fs s35) s35.fsL).stay st fun _ z => z) (Reps.cons (Rep.stay st (fun _ z => z) p5) Reps.nil)
                · have st : Stay (FC it.lents Ψ5) H5 (upd H5 Dl (.lst (acc ++ [y]))) := ⟨fun a fa o q _ => by
                      rw [upd_ne fun z => ?_]
                      · exact q
                      · rw [z] at fa
                        rcases fa with fa | ⟨k, _, fa⟩
                        · exact nfs fa
                        · exact nfo k fa, fun a xs q => by rw [upd_ne fun z => by rw [z, eD5] at q; cases q]; exact q, fun a o u q => by rw [upd_ne fun z => by rw [z, eD5] at q; cases q]; exact q⟩
                  refine (fc_step R3 s35 lentM rp3).stay st ?_
                  rintro a (z | ⟨k, hk, z⟩)
                  · exact .inl z
                  · refine .inr ⟨k, hk, ?_⟩
                    show a ∈ (if k ∈ vs then [] else Ψ5.fo k)
                    rw [if_neg (show k ∉ vs from lentV k hk)]
                    exact z
            -- a turn that gives nothing
            have none_ : ∀ δ4 Ψ4 H4, Step (sl (cs.mods)) Ψ3 H3 Ψ4 H4 → Rel W T Ψ4 δ4 σ3 H4 → ds' = [] → δ' = δ4 → ∃ δ4 Ψ4 acc ads rest, Step (sl (Ex.lc t it cs e).mods) Ψ H Ψ4 H4 ∧ Step (sl (vs ++ cs.mods ++ e.mods)) Ψ1 H1 Ψ4 H4 ∧ Rel W T Ψ4 (clr vs δ4) (L2.wipe σ vs) H4 ∧ δ4.length = δ1.length ∧ H4 Dl = some (.lst acc) ∧ Pend Ψ4 H4 [Dl] ∧
                Reps W H4 Ψ4.fs ads acc ∧ Reps W H4 (FC it.lents Ψ4) ds cvs ∧ mapGo f (ys.drop (i + 1)) δ4 = .ok rest δ6 ∧ total = ads ++ rest := by
              intro δ4 Ψ4 H4 s4 r4 e1 e2
              subst e1 e2
              have lentM : ∀ k ∈ it.lents, k ∉ sl cs.mods := fun k hk z => hB k hk (List.mem_append_left _ (List.mem_append_right _ z))
              refine ⟨δ', Ψ4.clr vs, acc, ads, es', step_clr mV (S3a.trans (s4.mono mC)), step_clr mV' (S3b.trans (s4.mono fun k hk => List.mem_append_left _ (List.mem_append_right _ hk))), ?_, ?_, ?_, (pD3.step s4).clr, ra3.stay (R3.stay_fs s4) s4.fsL, ?_, eM', by rw [etot]; rfl⟩
              · rw [← hw]
                exact r4.clr
              · rw [r4.len, ← R3.len]; exact l3
              · exact s4.keep Dl _ eD3 (fun _ z => by cases z) fun k _ z => pD3.no Dl List.mem_cons_self k z
              · refine (fc_step R3 s4 lentM rp3).mono ?_
                rintro a (z | ⟨k, hk, z⟩)
                · exact .inl z
                · refine .inr ⟨k, hk, ?_⟩
                  show a ∈ (if k ∈ vs then [] else Ψ4.fo k)
                  rw [if_neg (show k ∉ vs from lentV k hk)]
                  exact z
            cases cs with
            | nil =>
              simp only [condGo] at ef'
              exact elem δ3 Ψ3 H3 Step.refl R3 l3 ef'
            | cons c cr =>
              cases cr with
              | cons _ _ => cases hcs
              | nil =>
                simp only [condGo] at ef'
                refine ⟨δ3, Ψ3, R3, ?_⟩
                cases qc : ev Φ cf c false δ3 with
                | bad => rw [qc] at ef'; cases ef'
                | er x δ4 => rw [qc] at ef'; cases ef'
                | ok d δ4 =>
                  rw [qc] at ef'
                  simp only [Out.thenL_ok] at ef'
                  cases et : truth d with
                  | none => rw [et] at ef'; cases ef'
                  | some k =>
                    rw [et] at ef'
                    refine ⟨k, et, fun H4 Ψ4 s4 r4 => ?_⟩
                    have s4' : Step (sl (Exs.cons c .nil).mods) Ψ3 H3 Ψ4 H4 := s4.mono fun j hj => List.mem_append_left _ hj
                    cases k with
                    | true =>
                      exact elem δ4 Ψ4 H4 s4' r4 (by rw [r4.len, ← R3.len]; exact l3) ef'
                    | false =>
                      cases ef'
                      exact none_ _ Ψ4 H4 s4' r4 rfl rfl
        · have e : i = ys.length := by omega
          subst e
          rw [List.drop_length] at eM
          cases eM
          rw [List.append_nil] at etot
          subst etot
          refine .inl ⟨wst, ?_⟩
          have R6 : Rel W T Ψ2 (restore vs δ1 δ6) σ H2 := by
            have rl := fun (k : Nat) => restore_at (δ := δ1) (i := k) (vs := vs) (δ' := δ6) len2
            have nfo : ∀ k ∈ vs, Ψ2.fo k = [] := fun k hk => R2.no k fun d z => by rw [clr_at, if_pos hk] at z; cases z
            refine ⟨by rw [restore_length, len2]; exact r1.len, fun k d hk => ?_, fun k d hk => ?_, fun k hk => ?_, R2.fs, R2.ns, R2.dj, R2.tb⟩
            · rw [rl] at hk
              by_cases z : k ∈ vs
              · rw [if_pos z] at hk
                obtain ⟨v, ev, rv⟩ := r1.sh k d hk
                exact ⟨v, ev, rv.stay (r1.stay_fs S12) S12.fsL⟩
              · rw [if_neg z] at hk
                obtain ⟨v, ev, rv⟩ := R2.sh k d (by rw [clr_at, if_neg z]; exact hk)
                rw [wipe_at, if_neg z] at ev
                exact ⟨v, ev, rv⟩
            · rw [rl] at hk
              by_cases z : k ∈ vs
              · rw [if_pos z] at hk
                exact absurd hk (noOw_at hno z d)
              · rw [if_neg z] at hk
                obtain ⟨v, ev, rv⟩ := R2.ow k d (by rw [clr_at, if_neg z]; exact hk)
                rw [wipe_at, if_neg z] at ev
                exact ⟨v, ev, rv⟩
            · by_cases z : k ∈ vs
              · exact nfo k z
              · refine R2.no k fun d y => hk d ?_
                rw [clr_at, if_neg z] at y
                rw [rl, if_neg z]
                exact y
          have hza : acc.length ≤ sizeLine := by rw [← ra.len]; exact hz
          cases o with
          | false =>
            rw [fin_false] at h
            refine h (.ref Dl) H2 (Ψ2.give [Dl]) (step_give S2 fun a ha => .inl ?_) (R6.give pD) ?_
            · rw [List.mem_singleton.mp ha]; exact hD0
            · show Rep W H2 _ _ _
              simp only [Rep]
              exact ⟨Dl, acc, rfl, .inr List.mem_cons_self, eD, hza, ra.mono fun a z => .inl z⟩
          | true =>
            have hk : immAll total = true := by
              cases q : immAll total with
              | true => rfl
              | false =>
                have eb : fin true true (.lst total) (restore vs δ1 δ6) = .bad := by
                  unfold fin
                  show (if (true && !(if true = true then immAll total else _)) = true then _ else _) = _
                  rw [if_pos rfl, q]
                  rfl
                rw [eb] at h
                exact h.elim
            have ef : fin true true (.lst total) (restore vs δ1 δ6) = .ok (.lst total) (restore vs δ1 δ6) := by
              unfold fin
              show (if (true && !(if true = true then immAll total else _)) = true then _ else _) = _
              rw [if_pos rfl, hk]
              rfl
            rw [ef] at h
            refine h (.ref Dl) H2 Ψ2 S2 R6 ⟨[Dl], ?_, pD, fun a ha => .inl ?_⟩
            · simp only [Tree]
              exact ⟨Dl, acc, [], rfl, eD, hza, rfl, by simp, ra.trees hk⟩
            · rw [List.mem_singleton.mp ha]; exact hD0
end
end PyI

set_option Elab.async false
set_option linter.all false
set_option maxRecDepth 100000
namespace PyI
open PySem PySem.Spec PyProof.Rows L2 LamX
theorem Trees.setV {W : Wd} {H : Hp} {d : D} {v : V} {Fd : List Addr} (t : Tree W H d v Fd) : ∀ {xs : List D} {vs : List V} {F : List Addr} (n : Nat), Trees W H xs vs F → (∀ a ∈ F, a ∉ Fd) → ∃ F', Trees W H (xs.set n d) (vs.set n v) F' ∧ ∀ a ∈ F', a ∈ F ∨ a ∈ Fd
  | [], vs, F, n, h, _ => by
    have h' := h
    simp only [Trees] at h
    obtain ⟨rfl, rfl⟩ := h
    exact ⟨[], by simpa using h', fun a ha => by cases ha⟩
  | x :: xs, vs, F, n, h, dj => by
    simp only [Trees] at h
    obtain ⟨u, r, F1, F2, rfl, rfl, h1, h2, ds⟩ := h
    cases n with
    | zero =>
      refine ⟨Fd ++ F2, ?_, fun a ha => ?_⟩
      · simp only [List.set_cons_zero, Trees]
        exact ⟨v, r, Fd, F2, rfl, rfl, t, h2, fun a ha hb => dj a (List.mem_append_right _ hb) ha⟩
      · exact (List.mem_append.mp ha).elim .inr fun z => .inl (List.mem_append_right _ z)
    | succ n =>
      obtain ⟨F', t', m'⟩ := Trees.setV t (F := F2) n h2 fun a ha => dj a (List.mem_append_right _ ha)
      refine ⟨F1 ++ F', ?_, fun a ha => ?_⟩
      · simp only [List.set_cons_succ, Trees]
        refine ⟨u, _, F1, F', rfl, rfl, h1, t', fun a ha hb => ?_⟩
        exact (m' a hb).elim (ds a ha) (dj a (List.mem_append_left _ ha))
      · rcases List.mem_append.mp ha with z | z
        · exact .inl (List.mem_append_left _ z)
        · exact (m' a z).imp (fun y => List.mem_append_right _ y) id
theorem kpos_none {ks : List D} {k : D} (h : dhas ks k = false) : kpos ks k = none := by
  induction ks with
  | nil => rfl
  | cons a as ih =>
    simp only [dhas, List.any_cons, Bool.or_eq_false_iff] at h
    unfold kpos
    rw [if_neg (of_decide_eq_false h.1), ih h.2]
    rfl
theorem kpos_some {ks : List D} {k : D} (h : dhas ks k = true) : ∃ n, kpos ks k = some n ∧ n < ks.length := by
  induction ks with
  | nil => cases h
  | cons a as ih =>
    unfold kpos
    by_cases e : a = k
    · exact ⟨0, by rw [if_pos e], by simp⟩
    · rw [if_neg e]
      have : dhas as k = true := by simpa [dhas, e] using h
      obtain ⟨n, e1, e2⟩ := ih this
      exact ⟨n + 1, by rw [e1]; rfl, by simpa using e2⟩
theorem putK_old (k : Key) (v : V) : ∀ (kk : List Key) (ws : List V), kk.length = ws.length → kk.Nodup → ∀ n, kpos (kk.map keyD) (keyD k) = some n → ((kk.zip ws).map fun kv => if kv.1 = k then (kv.1, v) else kv) = kk.zip (ws.set n v)
  | [], ws, _, _, n, e => by cases e
  | a :: as, [], h, _, n, e => by simp at h
  | a :: as, b :: bs, h, nd, n, e => by
    have nd' := List.nodup_cons.mp nd
    rw [List.zip_cons_cons, List.map_cons]
    rw [List.map_cons] at e
    unfold kpos at e
    by_cases q : a = k
    · subst q
      rw [if_pos rfl] at e
      cases e
      rw [if_pos rfl, List.set_cons_zero, List.zip_cons_cons]
      congr 1
      refine (List.map_congr_left fun p hp => ?_).trans (List.map_id _)
      rw [if_neg]
      · rfl
      · intro z
        exact nd'.1 (z ▸ (List.of_mem_zip hp).1)
    · rw [if_neg fun z => q (keyD_inj z)] at e
      obtain ⟨m, hm, rfl⟩ := Option.map_eq_some_iff.mp e
      rw [if_neg q, putK_old k v as bs (by simpa using h) nd'.2 m hm, List.set_cons_succ, List.zip_cons_cons]
/-- a dict with one more key, or a key's value exchanged -/
theorem dput_ok {kk : List Key} {ws : List V} {ds : List D} {k : Key} {v : V} {d : D} (hl : kk.length = ws.length) (hd : ds.length = ws.length) (nd : kk.Nodup) :
    (∃ n, n < ws.length ∧ dput (kk.map keyD) ds (keyD k) d = (kk.map keyD, ds.set n d) ∧ putK (kk.zip ws) k v = kk.zip (ws.set n v)) ∨
      (dput (kk.map keyD) ds (keyD k) d = ((kk ++ [k]).map keyD, ds ++ [d]) ∧ putK (kk.zip ws) k v = (kk ++ [k]).zip (ws ++ [v]) ∧ (kk ++ [k]).Nodup) := by
  have ha := dhas_key k kk ws hl
  have hb := valV_any k (kk.zip ws)
  cases q : dhas (kk.map keyD) (keyD k) with
  | true =>
    obtain ⟨n, e1, e2⟩ := kpos_some q
    rw [List.length_map] at e2
    refine .inl ⟨n, by omega, ?_, ?_⟩
    · unfold dput
      rw [if_pos q, dputV_pos _ _ _ _ (by rw [List.length_map]; omega) n e1]
    · unfold putK
      rw [hb, ← ha, q, if_pos rfl]
      exact putK_old k v kk ws hl nd n e1
  | false =>
    refine .inr ⟨?_, ?_, ?_⟩
    · unfold dput
      rw [q, if_neg Bool.false_ne_true]
      simp
    · rw [putK_new v (by rw [q] at ha; cases e : valV (kk.zip ws) k with
        | none => rfl
        | some _ => rw [e] at ha; cases ha)]
      rw [List.zip_append hl]
      rfl
    · refine List.nodup_append.mpr ⟨nd, by simp, fun a hma b hb z => ?_⟩
      rw [List.mem_singleton] at hb
      subst hb z
      have : dhas (kk.map keyD) (keyD a) = true := List.any_eq_true.mpr ⟨keyD a, List.mem_map_of_mem hma, by simp⟩
      rw [this] at q
      cases q
/-- o[i] = v, of lists and dicts -/
def rPut : TSet := fun o i v H Q => rSetL o i v H Q ∨ ∃ a kvs k, o = .ref a ∧ H a = some (.dK kvs) ∧ i = kV k ∧ kvs.length < sizeLine ∧ Q (upd H a (.dK (putK kvs k v)))
theorem set_put {X : Cx} (hu : X.A.units + 1 < cLine) : PSet X rPut := by
  intro pins s σ H o i v ov iv u Q I ro ri rv h
  rcases h with h | ⟨a, kvs, k, rfl, e, rfl, hz, q⟩
  · exact set_list pins s σ H o i v ov iv u Q I ro ri rv h
  · cases ro
    exact d_setItem hu I (.inl ⟨kvs, k, e, rfl, hz, rfl⟩) ri rv fun s' I' => ⟨_, I', q⟩
section
variable {W : Wd} {T : List (Addr × Str)} {Φ : Nat → Option Fn} {cf : CF} {XW : WX} {X : Cx} {σ σ' : L2.St} {Ψ Ψ0 Ψ1 Ψ2 Ψ' : Own} {H H0 H1 H2 H' : Hp} {δ δ1 δ2 δ' : Env} {M M1 : Slots} {Q : VK} {pos p2 p1 p3 apos : Pos} {o ro : Bool} {kp : Slots} {tg : Expr} {En : Ends}
/-- a container at a place gets v at k -/
theorem put_at {p : Pa} {x x' k d d' : D} {v w kv u : V} {ks : List D} {kvs : List V} {Fs F : List Addr} {R : Hp → Prop} (s : Step M Ψ0 H0 Ψ1 H1) (r : Rel W T Ψ1 δ1 σ H1) (A : At W Ψ1 δ1 σ H1 p x d v w ks kvs Fs) (hm : p.root ∈ M) {dv : D}
    (tv : Tree W H1 dv u F) (pF : Pend Ψ1 H1 F) (bF : ∀ a ∈ F, ¬ trk H0 a ∨ ∃ j ∈ M, a ∈ Ψ0.fo j) {Fk : Addr → Prop} (rk : Rep W H1 Fk k kv) (ep : subPut x k dv = some x') (e : putAt d ks x' = some d')
    (hR : ∀ H2 Ψ2, Step M Ψ0 H0 Ψ2 H2 → Rel W T Ψ2 (δ1.set p.root (some (.ow d'))) σ H2 → R H2) : rPut w kv u H1 R := by
  have nF : ∀ c ∈ F, c ∉ Fs := fun c hc hd => pF.no c hc _ (A.spl.sub c hd)
  have done : ∀ {a : Addr} {ob ob' : HO} {Fs' : List Addr}, a ∈ Fs → H1 a = some ob → Wr ob → Wr ob' → Tree W (upd H1 a ob') x' w Fs' → (∀ b ∈ Fs', b ∈ Fs ∨ b ∈ F) → R (upd H1 a ob') := by
    intro a ob ob' Fs' ha ho wo wo' t' hF
    obtain ⟨Ψ2, S2, R2, _⟩ := rel_write (G := fun _ => False) s r A hm ha ho wo wo' t' (fun b hb => (hF b hb).imp id fun z => ⟨pF.trk b z, pF.ns b z, pF.no b z, bF b z⟩) (fun b z => z.elim) e
    exact hR _ Ψ2 S2 R2
  cases x <;> simp only [subPut] at ep <;> first | (cases ep; done) | skip
  · rename_i xs
    split at ep <;> first | (cases ep; done) | skip
    rename_i i
    obtain ⟨n, hn, rfl⟩ := Option.map_eq_some_iff.mp ep
    simp only [Rep] at rk
    subst rk
    obtain ⟨a, us, F', rfl, q1, q2, rfl, na, tr⟩ := A.lst
    have aF : a ∉ F := fun z => nF a z List.mem_cons_self
    have st : ∀ G : List Addr, a ∉ G → Stay (fun c => c ∈ G) H1 (upd H1 a (.lst (us.set n u))) := fun G hG => ⟨fun c hc o e _ => by rw [upd_ne fun z => hG (by rw [← z]; exact hc)]; exact e, fun c ys e => by rw [upd_ne fun z => by rw [z, q1] at e; cases e]; exact e, fun c ob w e => by rw [upd_ne fun z => by rw [z, q1] at e; cases e]; exact e⟩
    obtain ⟨F2, t2, m2⟩ := Trees.setV (tv.stay (st _ aF)) n (tr.stay (st _ na)) fun c hc hd => nF c hd (List.mem_cons_of_mem _ hc)
    refine .inl ⟨a, us, i, n, rfl, rfl, q1, by rw [← place_ixN, ← tr.len]; exact hn, ?_⟩
    refine done (Fs' := a :: F2) List.mem_cons_self q1 trivial trivial ?_ fun b hb => ?_
    · simp only [Tree]
      exact ⟨a, _, F2, rfl, upd_same, by rw [List.length_set]; exact q2, rfl, fun z => (m2 a z).elim na aF, t2⟩
    · rcases List.mem_cons.mp hb with rfl | hb
      · exact .inl List.mem_cons_self
      · exact (m2 b hb).imp (fun z => List.mem_cons_of_mem _ z) id
  · rename_i ky ds
    split at ep <;> cases ep
    rename_i hk
    obtain ⟨hk1, hk2⟩ := Bool.and_eq_true_iff.mp hk
    have hk2 := of_decide_eq_true hk2
    rw [LINE_eq] at hk2
    obtain ⟨kk, rfl, rfl⟩ := key_Rep hk1 rk
    have t := A.spl.tree
    simp only [Tree] at t
    obtain ⟨a, o, ws, F', rfl, q1, ⟨ky', rfl, hl, rfl, nd⟩, hz, rfl, na, tr⟩ := t
    rw [List.length_map] at hk2
    have aF : a ∉ F := fun z => nF a z List.mem_cons_self
    have st : ∀ (ob : HO) (G : List Addr), a ∉ G → Stay (fun c => c ∈ G) H1 (upd H1 a ob) := fun ob G hG => ⟨fun c hc o e _ => by rw [upd_ne fun z => hG (by rw [← z]; exact hc)]; exact e, fun c ys e => by rw [upd_ne fun z => by rw [z, q1] at e; cases e]; exact e, fun c ob w e => by rw [upd_ne fun z => by rw [z, q1] at e; cases e]; exact e⟩
    refine .inr ⟨a, _, kk, rfl, q1, rfl, by rw [List.length_zip, ← hl, Nat.min_self]; exact hk2, ?_⟩
    rcases dput_ok (k := kk) (v := u) (d := dv) hl tr.len nd with ⟨n, hn, e1, e2⟩ | ⟨e1, e2, nd'⟩
    · rw [e2]
      obtain ⟨F2, t2, m2⟩ := Trees.setV (tv.stay (st (.dK (ky'.zip (ws.set n u))) _ aF)) n (tr.stay (st (.dK (ky'.zip (ws.set n u))) _ na)) fun c hc hd => nF c hd (List.mem_cons_of_mem _ hc)
      refine done (Fs' := a :: F2) List.mem_cons_self q1 trivial trivial ?_ fun b hb => ?_
      · rw [e1]
        simp only [Tree]
        exact ⟨a, _, ws.set n u, F2, rfl, upd_same, ⟨ky', rfl, by rw [List.length_set]; exact hl, rfl, nd⟩, by rw [List.length_set]; exact hz, rfl, fun z => (m2 a z).elim na aF, t2⟩
      · rcases List.mem_cons.mp hb with rfl | hb
        · exact .inl List.mem_cons_self
        · exact (m2 b hb).imp (fun z => List.mem_cons_of_mem _ z) id
    · rw [e2]
      refine done (Fs' := a :: (F' ++ F)) List.mem_cons_self q1 trivial trivial ?_ fun b hb => ?_
      · rw [e1]
        simp only [Tree]
        refine ⟨a, _, ws ++ [u], F' ++ F, rfl, upd_same, ⟨ky' ++ [kk], rfl, by simp [hl], rfl, nd'⟩, ?_, rfl, ?_, Trees.snoc (tr.stay (st _ _ na)) (tv.stay (st _ _ aF)) fun c hc hd => nF c hd (List.mem_cons_of_mem _ hc)⟩
        · rw [List.length_append, List.length_singleton, ← hl]; exact hk2
        · rw [List.mem_append]; exact fun z => z.elim na aF
      · rcases List.mem_cons.mp hb with rfl | hb
        · exact .inl List.mem_cons_self
        · exact (List.mem_append.mp hb).imp (fun z => List.mem_cons_of_mem _ z) id
theorem ps_psetE (hu : X.A.units + 1 < cLine) {p : Pa} {i e : Ex} {x y z : Expr} (hm : p.root ∉ i.mods) (hb : isBor i = false) (hx : PE X x (tPth p)) (hi : PE X y (tE W T Φ cf XW i false)) (he : PE X z (tE W T Φ cf XW e true)) (hs : swapsWithSole [.Subscript x y p1] z pos.line X.env = pure false) (hw : swappedStores [.Subscript x y p1] z X.env = pure none)
    (ha : ∀ v, assign (.Subscript x y p1) X.env v = (do
      let ov ← holding [v] (eval x X.env)
      let iv ← holding [v, ov] (eval y X.env)
      standAt p1
      holding [v, ov, iv] (setItem ov iv v)
      release [v, ov, iv] [])) : PS X (.Assign [.Subscript x y p1] z pos) (tS W T Φ cf XW ro kp (.pset p i e)) := (ps_asg he (pg_sub hx hi (set_put hu) ha) hs hw rfl).weak fun En σ H ⟨δ, Ψ, r, h⟩ => by
  simp only [ex] at h
  have mE : ∀ j ∈ sl e.mods, j ∈ sl (S.pset p i e).mods := fun j hj => List.mem_cons_of_mem _ (List.mem_append_left _ hj)
  have mI : ∀ j ∈ sl i.mods, j ∈ sl (S.pset p i e).mods := fun j hj => List.mem_cons_of_mem _ (List.mem_append_right _ hj)
  refine seqE mE Step.refl r h fun d δ1 v H1 Ψ1 s1 r1 p1 h1 => ?_
  obtain ⟨F, t, q, b⟩ := RP.own_bk mE Step.refl p1
  cases eg : getP p δ1 with
  | none => rw [eg] at h1; exact h1.elim
  | some x0 =>
    rw [eg] at h1
    simp only at h1
    obtain ⟨d0, v0, w0, ks0, kvs0, Fs0, A0⟩ := r1.at_ eg
    refine ⟨w0, A0.pv, ?_⟩
    refine seqE mI (s1.mono mE) r1 h1 fun k δ2 u H2 Ψ2 s2 r2 p2 h2 => ?_
    rw [Ex.md_sh hb] at p2
    cases eg2 : getP p δ2 with
    | none => rw [eg2] at h2; exact h2.elim
    | some x1 =>
      rw [eg2] at h2
      simp only [Option.bind_some] at h2
      cases ep : subPut x1 k d with
      | none => rw [ep] at h2; exact h2.elim
      | some x2 =>
        rw [ep] at h2
        simp only [Option.bind_some] at h2
        cases es : setP p x2 δ2 with
        | none => rw [es] at h2; exact h2.elim
        | some δ3 =>
          rw [es] at h2
          obtain ⟨d1, v1, w1, ks1, kvs1, Fs1, A1⟩ := r2.at_ eg2
          have hw : w1 = w0 := by
            have z := r1.pv_stay eg s2 hm
            rw [A1.pv, A0.pv] at z
            exact Option.some.inj z
          obtain ⟨d', e4, rfl⟩ := setP_some es A1.slot A1.keys
          rw [← hw]
          exact put_at ((s1.mono mE).trans (s2.mono mI)) r2 A1 (mem_sl.mpr List.mem_cons_self) (t.stay (q.stay s2)) (q.step s2) b p2 ep e4 fun H3 Ψ3 S3 R3 => h2 σ H3 Ψ3 S3 R3 (Keep.refl _ _)
end
end PyI

set_option Elab.async false
set_option linter.all false
set_option maxRecDepth 100000
namespace PyI
open PySem PySem.Spec PyProof.Rows L2 LamX
def inter : List D → List D → List D
  | k :: ks, v :: vs => k :: v :: inter ks vs
  | _, _ => []
theorem inter_length : ∀ {ks vs : List D}, ks.length = vs.length → (inter ks vs).length = 2 * ks.length
  | [], [], _ => rfl
  | [], _ :: _, h => by simp at h
  | _ :: _, [], h => by simp at h
  | k :: ks, v :: vs, h => by
    simp only [inter, List.length_cons]
    rw [inter_length (by simpa using h)]
    omega
def Kv.trs (W : Wd) (T : List (Addr × Str)) (Φ : Nat → Option Fn) (cf : CF) (XW : WX) (o : Bool) : Kv → List (TE × TE)
  | .nil => []
  | .cons k v r => (tE W T Φ cf XW k false, tE W T Φ cf XW v o) :: r.trs W T Φ cf XW o
/-- what lends within the pairs -/
def Kv.sep (o : Bool) : Kv → Bool
  | .nil => true
  | .cons k v r => !isBor k && (o || !isBor v) && r.sep o
section
variable {W : Wd} {T : List (Addr × Str)} {Φ : Nat → Option Fn} {cf : CF} {XW : WX} {X : Cx} {σ σ' : L2.St} {Ψ Ψ0 Ψ1 Ψ2 Ψ' : Own} {H H0 H1 H2 H' : Hp} {δ δ1 δ2 δ' : Env} {M M1 : Slots} {Q : VK} {pos p2 p1 p3 apos : Pos} {o ro : Bool} {kp : Slots} {tg : Expr} {En : Ends}
/-- several values, owned or shared, without loans -/
def RPo (W : Wd) (o : Bool) (M : Slots) (Ψ : Own) (H : Hp) (Ψ' : Own) (H' : Hp) (ds : List D) (vs : List V) : Prop :=
  if o then ∃ F, Trees W H' ds vs F ∧ Pend Ψ' H' F ∧ ∀ a ∈ F, ¬ trk H a ∨ ∃ j ∈ M, a ∈ Ψ.fo j else Reps W H' Ψ'.fs ds vs
theorem RPo.cons {d : D} {v : V} {ds : List D} {vs : List V} {e : Ex} (hb : o = true ∨ isBor e = false) (r1 : Rel W T Ψ1 δ1 σ H1) (hM : ∀ i ∈ sl e.mods, i ∈ M) (hM1 : ∀ i ∈ M1, i ∈ M) (s0 : Step M Ψ0 H0 Ψ H) (s1 : Step (sl e.mods) Ψ H Ψ1 H1) (p : RP W (e.md o) (sl e.mods) Ψ H Ψ1 H1 d v) (s2 : Step M1 Ψ1 H1 Ψ2 H2) (q : RPo W o M1 Ψ1 H1 Ψ2 H2 ds vs) : RPo W o M Ψ0 H0 Ψ2 H2 (d :: ds) (v :: vs) := by
  cases o with
  | false =>
    have p : RP W (e.md false) (sl e.mods) Ψ H Ψ1 H1 d v := p
    rw [Ex.md_sh (hb.elim (fun z => by cases z) id)] at p
    exact Reps.cons (Rep.stay (r1.stay_fs s2) s2.fsL p) q
  | true =>
    obtain ⟨F1, t1, q1, b1⟩ := p
    obtain ⟨F2, t2, q2, b2⟩ := q
    have q1' := q1.step s2
    refine ⟨F1 ++ F2, ?_, ⟨?_, ?_, ?_⟩, ?_⟩
    · simp only [Trees]
      refine ⟨v, vs, F1, F2, rfl, rfl, t1.stay (q1.stay s2), t2, fun a ha hb => ?_⟩
      rcases b2 a hb with z | ⟨j, _, z⟩
      · exact z (q1.trk a ha)
      · exact q1.no a ha j z
    · intro a ha
      exact (List.mem_append.mp ha).elim (q1'.trk a) (q2.trk a)
    · intro a ha
      exact (List.mem_append.mp ha).elim (q1'.ns a) (q2.ns a)
    · intro a ha
      exact (List.mem_append.mp ha).elim (q1'.no a) (q2.no a)
    · intro a ha
      rcases List.mem_append.mp ha with ha | ha
      · rcases b1 a ha with z | ⟨j, hj, z⟩
        · exact .inl fun y => z (s0.trk a y)
        · exact s0.foM j (hM j hj) a z
      · rcases b2 a ha with z | ⟨j, hj, z⟩
        · exact .inl fun y => z (s1.trk a (s0.trk a y))
        · exact (s0.trans (s1.mono hM)).foM j (hM1 j hj) a z
def PostK (W : Wd) (T : List (Addr × Str)) (XW : WX) (o : Bool) (M : Slots) (Ψ : Own) (H : Hp) (σ : L2.St) (out : OutL) (Q : List (V × V) → Hp → Prop) : Prop := match out with
  | .ok xs δ' => ∀ ks kv ds vs H' Ψ', Step M Ψ H Ψ' H' → Rel W T Ψ' δ' σ H' → xs = inter ks ds → ks.length = ds.length → Reps W H' Ψ'.fs ks kv → RPo W o M Ψ H Ψ' H' ds vs → Q (kv.zip vs) H'
  | .er x δ' => ∀ cls dd H' Ψ', Step M Ψ H Ψ' H' → Rel W T Ψ' δ' σ H' → ExV W x cls dd H' Ψ'.fs → XW cls dd σ H'
  | .bad => False
theorem tk_pairs : ∀ (kv : Kv) {Ψ : Own} {H : Hp} {δ : Env} {Q : List (V × V) → Hp → Prop}, kv.sep o = true → Rel W T Ψ δ σ H → PostK W T XW o (sl kv.mods) Ψ H σ (evs2 Φ cf kv o δ) Q → tPairs (kv.trs W T Φ cf XW o) σ H Q
  | .nil, Ψ, H, δ, Q, _, r, h => by
    refine h [] [] [] [] H Ψ Step.refl r rfl rfl Reps.nil ?_
    cases o with
    | false => exact (show Reps W H Ψ.fs [] [] from Reps.nil)
    | true => exact ⟨[], by simp only [Trees]; exact ⟨trivial, trivial⟩, pend_nil, fun a ha => absurd ha List.not_mem_nil⟩
  | .cons k v kr, Ψ, H, δ, Q, hs, r, h => by
    simp only [Kv.sep, Bool.and_eq_true] at hs
    obtain ⟨⟨hk, hv⟩, hr⟩ := hs
    have hk' : isBor k = false := by cases q : isBor k with
      | false => rfl
      | true => rw [q] at hk; cases hk
    have hv' : o = true ∨ isBor v = false := by
      cases o with
      | true => exact .inl rfl
      | false => exact .inr (by cases q : isBor v with
        | false => rfl
        | true => rw [q] at hv; cases hv)
    have mK : ∀ i ∈ sl k.mods, i ∈ sl (Kv.cons k v kr).mods := fun i hi => List.mem_append_left _ (List.mem_append_left _ hi)
    have mV : ∀ i ∈ sl v.mods, i ∈ sl (Kv.cons k v kr).mods := fun i hi => List.mem_append_left _ (List.mem_append_right _ hi)
    have mR : ∀ i ∈ sl kr.mods, i ∈ sl (Kv.cons k v kr).mods := fun i hi => List.mem_append_right _ hi
    simp only [evs2] at h
    show tE W T Φ cf XW k false σ H fun x H1 => tE W T Φ cf XW v o σ H1 fun y H2 => tPairs (kr.trs W T Φ cf XW o) σ H2 fun ps H3 => Q ((x, y) :: ps) H3
    refine ⟨δ, Ψ, r, ?_⟩
    cases q1 : ev Φ cf k false δ with
    | bad => rw [q1] at h; exact h.elim
    | er x δ1 => rw [q1] at h; exact fun cls dd H' Ψ' s r p => h cls dd H' Ψ' (s.mono mK) r p
    | ok dk δ1 =>
      rw [q1] at h
      simp only [Out.thenL_ok] at h
      intro xk H1 Ψ1 s1 r1 p1
      rw [Ex.md_sh hk'] at p1
      refine ⟨δ1, Ψ1, r1, ?_⟩
      cases q2 : ev Φ cf v o δ1 with
      | bad => rw [q2] at h; exact h.elim
      | er x δ2 => rw [q2] at h; exact fun cls dd H' Ψ' s r p => h cls dd H' Ψ' ((s1.mono mK).trans (s.mono mV)) r p
      | ok dv δ2 =>
        rw [q2] at h
        simp only [Out.thenL_ok] at h
        intro xv H2 Ψ2 s2 r2 p2
        refine tk_pairs kr hr r2 ?_
        cases q3 : evs2 Φ cf kr o δ2 with
        | bad => rw [q3] at h; exact h.elim
        | er x δ3 => rw [q3] at h; exact fun cls dd H' Ψ' s r p => h cls dd H' Ψ' (((s1.mono mK).trans (s2.mono mV)).trans (s.mono mR)) r p
        | ok xs δ3 =>
          rw [q3] at h
          simp only [OutL.thenL_ok] at h
          intro ks kv ds vs H3 Ψ3 s3 r3 ex hl rk rv
          have s23 : Step (sl (Kv.cons k v kr).mods) Ψ1 H1 Ψ3 H3 := (s2.mono mV).trans (s3.mono mR)
          refine h (dk :: ks) (xk :: kv) (dv :: ds) (xv :: vs) H3 Ψ3 ((s1.mono mK).trans s23) r3 (by rw [ex]; rfl) (by simp [hl]) (Reps.cons (Rep.stay (r1.stay_fs s23) s23.fsL p1) rk) ?_
          exact RPo.cons hv' r2 mV mR (s1.mono mK) s2 p2 s3 rv
/-- the pairs put in, one behind the other -/
theorem mk_ok : ∀ (ks ds : List D) (kv vs : List V) {F : Addr → Prop} {aks : List Key} {ads : List D} {avs : List V} {rk rv : List D}, ks.length = ds.length → ds.length = vs.length → Reps W H F ks kv → mkDctGo (inter ks ds) (aks.map keyD) ads = some (rk, rv) → aks.length = avs.length → ads.length = avs.length → aks.Nodup →
    ∃ (kk : List Key) (fk : List Key) (fv : List V), kv = kk.map kV ∧ kk.length = vs.length ∧ rk = fk.map keyD ∧ fk.length = fv.length ∧ rv.length = fv.length ∧ fk.Nodup ∧ mergeK (aks.zip avs) (kk.zip vs) = fk.zip fv ∧
      (∀ G : Addr → Prop, Reps W H G ads avs → Reps W H G ds vs → Reps W H G rv fv) ∧ (∀ F1 F2, Trees W H ads avs F1 → Trees W H ds vs F2 → (∀ a ∈ F1, a ∉ F2) → ∃ F3, Trees W H rv fv F3 ∧ ∀ a ∈ F3, a ∈ F1 ∨ a ∈ F2)
  | [], [], kv, vs, F, aks, ads, avs, rk, rv, _, hv, hk, h, hl, hd, nd => by
    have : vs = [] := List.length_eq_zero_iff.mp (by simpa using hv.symm)
    subst this
    simp only [Reps] at hk
    subst hk
    cases h
    exact ⟨[], aks, avs, rfl, rfl, rfl, hl, hd, nd, rfl, fun G h _ => h, fun F1 F2 t1 _ _ => ⟨F1, t1, fun a ha => .inl ha⟩⟩
  | [], _ :: _, _, _, _, _, _, _, _, _, h, _, _, _, _, _, _ => by simp at h
  | _ :: _, [], _, _, _, _, _, _, _, _, h, _, _, _, _, _, _ => by simp at h
  | k :: ks, d :: ds, kv, [], _, _, _, _, _, _, _, h, _, _, _, _, _ => by simp at h
  | k :: ks, d :: ds, kv, v :: vs, F, aks, ads, avs, rk, rv, hkd, hv, hk, h, hl, hd, nd => by
    simp only [Reps] at hk
    obtain ⟨xk, kv', rfl, h1, h2⟩ := hk
    simp only [inter, mkDctGo] at h
    split at h <;> first | (cases h; done) | skip
    rename_i hko
    obtain ⟨kk0, rfl, rfl⟩ := key_Rep hko h1
    have put := dput_ok (k := kk0) (v := v) (d := d) hl hd nd
    have go : ∀ (aks' : List Key) (ads' : List D) (avs' : List V), dput (aks.map keyD) ads (keyD kk0) d = (aks'.map keyD, ads') → putK (aks.zip avs) kk0 v = aks'.zip avs' → aks'.length = avs'.length → ads'.length = avs'.length → aks'.Nodup →
        (∀ G : Addr → Prop, Reps W H G ads avs → Rep W H G d v → Reps W H G ads' avs') → (∀ F1 F2, Trees W H ads avs F1 → Tree W H d v F2 → (∀ a ∈ F1, a ∉ F2) → ∃ F3, Trees W H ads' avs' F3 ∧ ∀ a ∈ F3, a ∈ F1 ∨ a ∈ F2) →
        ∃ (kk : List Key) (fk : List Key) (fv : List V), kV kk0 :: kv' = kk.map kV ∧ kk.length = (v :: vs).length ∧ rk = fk.map keyD ∧ fk.length = fv.length ∧ rv.length = fv.length ∧ fk.Nodup ∧ mergeK (aks.zip avs) (kk.zip (v :: vs)) = fk.zip fv ∧
          (∀ G : Addr → Prop, Reps W H G ads avs → Reps W H G (d :: ds) (v :: vs) → Reps W H G rv fv) ∧ (∀ F1 F2, Trees W H ads avs F1 → Trees W H (d :: ds) (v :: vs) F2 → (∀ a ∈ F1, a ∉ F2) → ∃ F3, Trees W H rv fv F3 ∧ ∀ a ∈ F3, a ∈ F1 ∨ a ∈ F2) := by
      intro aks' ads' avs' e1 e2 l1 l2 nd' rG tG
      rw [e1] at h
      obtain ⟨kk, fk, fv, a1, a2, a3, a4, a5, a6, a7, a8, a9⟩ := mk_ok ks ds kv' vs (by simpa using hkd) (by simpa using hv) h2 h l1 l2 nd'
      refine ⟨kk0 :: kk, fk, fv, by rw [a1]; rfl, by simp [a2], a3, a4, a5, a6, ?_, fun G hG hR => ?_, fun F1 F2 t1 t2 dj => ?_⟩
      · rw [List.zip_cons_cons]
        show mergeK (putK (aks.zip avs) kk0 v) (kk.zip vs) = _
        rw [e2]
        exact a7
      · simp only [Reps] at hR
        obtain ⟨v', r', e, r1, r2⟩ := hR
        cases e
        exact a8 G (rG G hG r1) r2
      · simp only [Trees] at t2
        obtain ⟨v', r', G1, G2, e, rfl, t3, t4, n⟩ := t2
        cases e
        obtain ⟨F3, t5, m5⟩ := tG F1 G1 t1 t3 fun a ha hb => dj a ha (List.mem_append_left _ hb)
        obtain ⟨F4, t6, m6⟩ := a9 F3 G2 t5 t4 fun a ha hb => (m5 a ha).elim (fun z => dj a z (List.mem_append_right _ hb)) fun z => n a z hb
        refine ⟨F4, t6, fun a ha => ?_⟩
        rcases m6 a ha with z | z
        · exact (m5 a z).imp id fun y => List.mem_append_left _ y
        · exact .inr (List.mem_append_right _ z)
    rcases put with ⟨n, hn, e1, e2⟩ | ⟨e1, e2, nd'⟩
    · exact go aks (ads.set n d) (avs.set n v) e1 e2 (by rw [List.length_set]; exact hl) (by rw [List.length_set, List.length_set]; exact hd) nd (fun G h1 h2 => Reps.set h2 n h1) (fun F1 F2 t1 t2 dj => Trees.setV t2 n t1 dj)
    · exact go (aks ++ [kk0]) (ads ++ [d]) (avs ++ [v]) e1 e2 (by simp [hl]) (by simp [hd]) nd' (fun G h1 h2 => Reps.append h1 (Reps.cons h2 Reps.nil)) (fun F1 F2 t1 t2 dj => ⟨F1 ++ F2, Trees.snoc t1 t2 dj, fun a ha => List.mem_append.mp ha⟩)
/-- the pairs of the display -/
theorem pe_dctE {kv : Kv} {keys : List (Option Expr)} {values : List Expr} {b : Bool} (hs : kv.sep o = true) (h : PPs X pos keys values (kv.trs W T Φ cf XW o)) (hall : keys.all (·.isSome) = true) (hl : keys.length = values.length) (h0 : keys ≠ []) (h15 : keys.length ≤ 15) :
    PE X (.Dict keys values pos) (tE W T Φ cf XW (.dct b kv) o) := (pe_disp h hall hl h0 h15).weak fun σ H Q ⟨δ, Ψ, r, h⟩ => by
  simp only [ev] at h
  intro p hp
  have sm := same_new (o := .dK []) hp
  have g := Same.grow sm
  have hp0 : ¬ trk H p := not_trk hp
  refine tk_pairs kv hs (r.same0 sm) ?_
  cases q : evs2 Φ cf kv o δ with
  | bad => rw [q] at h; exact h.elim
  | er x δ1 => rw [q] at h; exact fun cls dd H' Ψ' s r p => h cls dd H' Ψ' (g.step0.trans s) r p
  | ok xs δ1 =>
    rw [q] at h
    simp only [OutL.then_ok] at h
    intro ks kvv ds vs H2 Ψ2 s2 r2 ex hlen rk rv
    cases em : mkDct xs with
    | none => rw [em] at h; exact h.elim
    | some z =>
      rw [em, opt_some] at h
      unfold mkDct at em
      split at em <;> first | (cases em; done) | skip
      rename_i h30
      have h30 := of_decide_eq_true h30
      obtain ⟨⟨rkd, rvd⟩, eg, rfl⟩ := Option.map_eq_some_iff.mp em
      rw [ex] at eg h30
      rw [inter_length hlen] at h30
      have hvl : ds.length = vs.length := by
        cases o with
        | false => exact Reps.len rv
        | true => obtain ⟨F, t, _⟩ := rv; exact t.len
      obtain ⟨kk, fk, fv, a1, a2, a3, a4, a5, a6, a7, a8, a9⟩ := mk_ok (W := W) (H := H2) ks ds kvv vs (aks := []) (ads := []) (avs := []) hlen hvl rk eg rfl rfl List.nodup_nil
      have pP : Pend Ψ2 H2 [p] := by
        refine Pend.step (Ψ := Ψ) (H := upd H p (.dK [])) ⟨fun a ha => ?_, fun a ha z => ?_, fun a ha i z => ?_⟩ s2 <;> rw [List.mem_singleton.mp ha] at *
        · exact trk_of upd_same fun _ z => by cases z
        · exact hp0 (r.fs _ z)
        · obtain ⟨o, e, _⟩ := r.fo_trk z
          rw [hp] at e; cases e
      have eP : H2 p = some (.dK []) := s2.keep p _ upd_same (fun _ z => by cases z) fun i _ z => by
        obtain ⟨o, e, _⟩ := r.fo_trk z
        rw [hp] at e; cases e
      refine ⟨eP, kk.zip vs, ?_, by rw [List.length_zip, a2, Nat.min_self, ← hvl, ← hlen]; omega, ?_⟩
      · rw [a1, List.zip_map_left]
        refine List.map_congr_left fun p hp => rfl
      have a7 : mergeK [] (kk.zip vs) = fk.zip fv := a7
      rw [a7]
      have hz : fv.length ≤ sizeLine := by
        have : (fk.zip fv).length ≤ (kk.zip vs).length := by rw [← a7]; have := length_mergeK (kk.zip vs) []; simpa using this
        rw [List.length_zip, a4, Nat.min_self, List.length_zip, a2, Nat.min_self, ← hvl, ← hlen] at this
        rw [sizeLine_eq]; omega
      have nfs := pP.ns p List.mem_cons_self
      have nfo := pP.no p List.mem_cons_self
      have R3 := r2.upd (ob' := .dK (fk.zip fv)) eP trivial trivial nfs nfo
      have S3 : Step (sl (Ex.dct b kv).mods) Ψ H Ψ2 (upd H2 p (.dK (fk.zip fv))) := step_upd (g.step0.trans s2) eP trivial trivial hp0
      have pP3 : Pend Ψ2 (upd H2 p (.dK (fk.zip fv))) [p] := ⟨fun a ha => (by rw [List.mem_singleton.mp ha]; exact trk_of upd_same fun _ z => by cases z), pP.ns, pP.no⟩
      have dco : DcO (.dK (fk.zip fv)) rkd fv := ⟨fk, a3, a4, rfl, a6⟩
      cases o with
      | false =>
        have rr := a8 Ψ2.fs Reps.nil rv
        have st : Stay Ψ2.fs H2 (upd H2 p (.dK (fk.zip fv))) := ⟨fun a fa o q _ => by rw [upd_ne fun z => nfs (by rw [← z]; exact fa)]; exact q, fun a xs q => by rw [upd_ne fun z => by rw [z, eP] at q; cases q]; exact q, fun a o u q => by rw [upd_ne fun z => by rw [z, eP] at q; cases q]; exact q⟩
        refine h (.ref p) _ (Ψ2.give [p]) (step_give S3 fun a ha => .inl ?_) (R3.give pP3) ?_
        · rw [List.mem_singleton.mp ha]; exact hp0
        · show Rep W _ _ _ _
          simp only [Rep]
          exact ⟨p, _, fv, rfl, .inr List.mem_cons_self, .inl upd_same, dco, hz, rr.stay st fun a z => .inl z⟩
      | true =>
        obtain ⟨F, t, pF, bF⟩ := rv
        obtain ⟨F3, t3, m3⟩ := a9 [] F (by simp only [Trees]; exact ⟨trivial, trivial⟩) t fun a ha => absurd ha List.not_mem_nil
        have m3 : ∀ a ∈ F3, a ∈ F := fun a ha => (m3 a ha).elim (fun z => absurd z List.not_mem_nil) id
        have nF : p ∉ F := fun z => by
          rcases bF p z with y | ⟨j, _, y⟩
          · exact y (trk_of upd_same fun _ z => by cases z)
          · obtain ⟨o, e, _⟩ := r.fo_trk y
            rw [hp] at e; cases e
        have st : Stay (fun a => a ∈ F3) H2 (upd H2 p (.dK (fk.zip fv))) := ⟨fun a fa o q _ => by rw [upd_ne fun z => nF (by rw [← z]; exact m3 a fa)]; exact q, fun a xs q => by rw [upd_ne fun z => by rw [z, eP] at q; cases q]; exact q, fun a o u q => by rw [upd_ne fun z => by rw [z, eP] at q; cases q]; exact q⟩
        refine h (.ref p) _ Ψ2 S3 R3 ⟨p :: F3, ?_, ⟨fun a ha => ?_, fun a ha => ?_, fun a ha => ?_⟩, fun a ha => ?_⟩
        · simp only [Tree]
          exact ⟨p, _, fv, F3, rfl, upd_same, dco, hz, rfl, fun z => nF (m3 p z), t3.stay st⟩
        · rcases List.mem_cons.mp ha with rfl | ha
          · exact trk_of upd_same fun _ z => by cases z
          · obtain ⟨ob, eo, n⟩ := pF.trk a (m3 a ha)
            exact ⟨ob, by rw [upd_ne fun z => nF (by rw [← z]; exact m3 a ha)]; exact eo, n⟩
        · rcases List.mem_cons.mp ha with rfl | ha
          · exact nfs
          · exact pF.ns a (m3 a ha)
        · rcases List.mem_cons.mp ha with rfl | ha
          · exact nfo
          · exact pF.no a (m3 a ha)
        · rcases List.mem_cons.mp ha with rfl | ha
          · exact .inl hp0
          · rcases bF a (m3 a ha) with z | z
            · exact .inl fun y => z (g.trk y)
            · exact .inr z
theorem pe_dct0E {b : Bool} : PE X (.Dict [] [] pos) (tE W T Φ cf XW (.dct b .nil) o) := pe_dnewK.weak fun σ H Q ⟨δ, Ψ, r, h⟩ => by
  intro p hp
  have sm := same_new (o := .dK []) hp
  have g := Same.grow sm
  have h : Post W T XW ((Ex.dct b .nil).md o) (sl []) Ψ H σ (.ok (.dct [] []) δ) Q := h
  have dco : DcO (.dK []) [] ([] : List V) := ⟨[], rfl, rfl, rfl, List.nodup_nil⟩
  cases o with
  | false =>
    refine h _ _ (Ψ.ext H (upd H p (.dK []))) g.step (r.same sm) ?_
    show Rep W _ _ _ _
    simp only [Rep]
    exact ⟨p, _, [], rfl, .inr ⟨not_trk hp, trk_of upd_same fun _ z => by cases z⟩, .inl upd_same, dco, Nat.zero_le _, Reps.nil⟩
  | true =>
    refine h _ _ Ψ g.step0 (r.same0 sm) ⟨[p], ?_, ⟨fun a ha => ?_, fun a ha z => ?_, fun a ha i z => ?_⟩, fun a ha => .inl ?_⟩
    · simp only [Tree]
      exact ⟨p, _, [], [], rfl, upd_same, dco, Nat.zero_le _, rfl, by simp, by simp only [Trees]; exact ⟨trivial, trivial⟩⟩
    all_goals rw [List.mem_singleton.mp ha] at *
    · exact trk_of upd_same fun _ z => by cases z
    · exact not_trk hp (r.fs _ z)
    · obtain ⟨o, e, _⟩ := r.fo_trk z
      rw [hp] at e; cases e
    · exact not_trk hp
end
end PyI

set_option Elab.async false
set_option linter.all false
set_option maxRecDepth 100000
namespace PyI
open PySem PySem.Spec PyProof.Rows L2 LamX
/-- values, each owned or shared -/
def RPM (W : Wd) (H : Hp) (fs : Addr → Prop) : List (Bool × Nat) → List D → List V → List Addr → Prop
  | [], ds, vs, F => ds = [] ∧ vs = [] ∧ F = []
  | m :: ms, ds, vs, F => ∃ d ds' v vs' F1 F2, ds = d :: ds' ∧ vs = v :: vs' ∧ F = F1 ++ F2 ∧ (if m.1 then Tree W H d v F1 else F1 = [] ∧ Rep W H fs d v) ∧ RPM W H fs ms ds' vs' F2 ∧ ∀ a ∈ F1, a ∉ F2
def setAll : L2.St → List (Bool × Nat) → List V → L2.St
  | σ, t :: ts, v :: vs => setAll (σ.set t.2 (some v)) ts vs
  | σ, _, _ => σ
/-- what lends among values by modes -/
def Exs.sepM : Exs → List (Bool × Nat) → Bool
  | .nil, _ => true
  | .cons e es, m :: ms => (m.1 || !isBor e) && es.sepM ms
  | .cons _ _, [] => false
section
variable {W : Wd} {T : List (Addr × Str)} {Φ : Nat → Option Fn} {cf : CF} {XW : WX} {X : Cx} {σ σ' : L2.St} {Ψ Ψ0 Ψ1 Ψ2 Ψ' : Own} {H H0 H1 H2 H' : Hp} {δ δ1 δ2 δ' : Env} {M M1 : Slots} {Q : VK} {pos p2 p1 p3 apos : Pos} {o ro : Bool} {kp : Slots} {tg : Expr} {En : Ends}
theorem RPM.stay {fs fs' : Addr → Prop} (s1 : Stay fs H H1) (m : ∀ a, fs a → fs' a) : ∀ {ms : List (Bool × Nat)} {ds : List D} {vs : List V} {F : List Addr}, Stay (fun a => a ∈ F) H H1 → RPM W H fs ms ds vs F → RPM W H1 fs' ms ds vs F
  | [], _, _, _, _, h => h
  | mm :: ms, ds, vs, F, s2, ⟨d, ds', v, vs', F1, F2, e1, e2, e3, p, q, n⟩ => by
    subst e3
    refine ⟨d, ds', v, vs', F1, F2, e1, e2, rfl, ?_, RPM.stay s1 m ⟨fun a ha => s2.at_ a (List.mem_append_right _ ha), s2.tup, s2.frz⟩ q, n⟩
    cases hm : mm.1 with
    | true =>
      rw [hm] at p
      exact Tree.stay ⟨fun a ha => s2.at_ a (List.mem_append_left _ ha), s2.tup, s2.frz⟩ p
    | false =>
      rw [hm] at p
      exact ⟨p.1, p.2.stay s1 m⟩
theorem RPM.len {fs : Addr → Prop} : ∀ {ms : List (Bool × Nat)} {ds : List D} {vs : List V} {F : List Addr}, RPM W H fs ms ds vs F → vs.length = ms.length
  | [], _, _, _, ⟨_, e, _⟩ => by subst e; rfl
  | _ :: ms, _, _, _, ⟨d, ds', v, vs', F1, F2, e1, e2, e3, p, q, n⟩ => by subst e2; simp [q.len]
def PostM (W : Wd) (T : List (Addr × Str)) (XW : WX) (ms : List (Bool × Nat)) (M : Slots) (Ψ : Own) (H : Hp) (σ : L2.St) (out : OutL) (Q : List V → Hp → Prop) : Prop := match out with
  | .ok ds δ' => ∀ vs H' Ψ' F, Step M Ψ H Ψ' H' → Rel W T Ψ' δ' σ H' → RPM W H' Ψ'.fs ms ds vs F → Pend Ψ' H' F → (∀ a ∈ F, ¬ trk H a ∨ ∃ j ∈ M, a ∈ Ψ.fo j) → Q vs H'
  | .er x δ' => ∀ cls dd H' Ψ', Step M Ψ H Ψ' H' → Rel W T Ψ' δ' σ H' → ExV W x cls dd H' Ψ'.fs → XW cls dd σ H'
  | .bad => False
def tMs (W : Wd) (T : List (Addr × Str)) (Φ : Nat → Option Fn) (cf : CF) (XW : WX) (es : Exs) (ms : List (Bool × Nat)) : TA := fun σ H Q => ∃ δ Ψ, Rel W T Ψ δ σ H ∧ PostM W T XW ms (sl es.mods) Ψ H σ (evM Φ cf es ms δ) Q
theorem pam_nil : PA X [] (tMs W T Φ cf XW .nil []) := pa_nil.weak fun σ H Q ⟨δ, Ψ, r, h⟩ => h [] H Ψ [] Step.refl r ⟨rfl, rfl, rfl⟩ pend_nil fun a ha => absurd ha List.not_mem_nil
theorem pam_cons {e : Ex} {es : Exs} {m : Bool × Nat} {ms : List (Bool × Nat)} {x : Expr} {xs : List Expr} (hb : m.1 = true ∨ isBor e = false) (ha : PE X x (tE W T Φ cf XW e m.1)) (hr : PA X xs (tMs W T Φ cf XW es ms)) (hs : starEach (x :: xs) X.env = (false, eval x X.env) :: starEach xs X.env) :
    PA X (x :: xs) (tMs W T Φ cf XW (.cons e es) (m :: ms)) := (pa_cons ha hr hs).weak fun σ H Q ⟨δ, Ψ, r, h⟩ => by
  simp only [evM] at h
  refine ⟨δ, Ψ, r, ?_⟩
  cases q1 : ev Φ cf e m.1 δ with
  | bad => rw [q1] at h; exact h.elim
  | er x δ1 => rw [q1] at h; exact fun cls dd H' Ψ' s r p => h cls dd H' Ψ' (s.mono sub_l) r p
  | ok d δ1 =>
    rw [q1] at h
    simp only [Out.thenL_ok] at h
    intro v H1 Ψ1 s1 r1 p1
    refine ⟨δ1, Ψ1, r1, ?_⟩
    cases q2 : evM Φ cf es ms δ1 with
    | bad => rw [q2] at h; exact h.elim
    | er x δ2 => rw [q2] at h; exact fun cls dd H' Ψ' s r p => h cls dd H' Ψ' ((s1.mono sub_l).trans (s.mono sub_r)) r p
    | ok ds δ2 =>
      rw [q2] at h
      intro vs H2 Ψ2 F2 s2 r2 p2 q2 b2
      have b2' : ∀ a ∈ F2, ¬ trk H a ∨ ∃ j ∈ sl (Exs.cons e es).mods, a ∈ Ψ.fo j := fun a ha => by
        rcases b2 a ha with z | ⟨j, hj, z⟩
        · exact .inl fun y => z (s1.trk a y)
        · exact (s1.mono sub_l).foM j (sub_r j hj) a z
      have go := fun F1 (hF : (if m.1 then Tree W H2 d v F1 else F1 = [] ∧ Rep W H2 Ψ2.fs d v)) (n : ∀ a ∈ F1, a ∉ F2) => h (v :: vs) H2 Ψ2 (F1 ++ F2) ((s1.mono sub_l).trans (s2.mono sub_r)) r2 ⟨d, ds, v, vs, F1, F2, rfl, rfl, rfl, hF, p2, n⟩
      cases hm : m.1 with
      | false =>
        rw [hm] at p1 go
        rw [Ex.md_sh (hb.elim (fun z => by rw [hm] at z; cases z) id)] at p1
        exact go [] ⟨rfl, Rep.stay (r1.stay_fs s2) s2.fsL p1⟩ (fun a ha => absurd ha List.not_mem_nil) q2 b2'
      | true =>
        rw [hm] at p1 go
        obtain ⟨F1, t1, q1, b1⟩ := p1
        have q1' := q1.step s2
        refine go F1 (t1.stay (q1.stay s2)) (fun a ha hb => ?_) ⟨fun a ha => ?_, fun a ha => ?_, fun a ha => ?_⟩ fun a ha => ?_
        · rcases b2 a hb with z | ⟨j, _, z⟩
          · exact z (q1.trk a ha)
          · exact q1.no a ha j z
        · exact (List.mem_append.mp ha).elim (q1'.trk a) (q2.trk a)
        · exact (List.mem_append.mp ha).elim (q1'.ns a) (q2.ns a)
        · exact (List.mem_append.mp ha).elim (q1'.no a) (q2.no a)
        · rcases List.mem_append.mp ha with ha | ha
          · exact (b1 a ha).imp id fun ⟨j, hj, z⟩ => ⟨j, sub_l j hj, z⟩
          · exact b2' a ha
theorem storeAll_ok : ∀ {ts : List (Bool × Nat)} {ds : List D} {vs : List V} {F : List Addr} {Ψ : Own} {δ δ' : Env} {σ : L2.St}, (∀ t ∈ ts, t.2 ∈ M ∧ t.2 ∉ kp) → Step M Ψ0 H0 Ψ H → Rel W T Ψ δ σ H → RPM W H Ψ.fs ts ds vs F → Pend Ψ H F → (∀ a ∈ F, ¬ trk H0 a ∨ ∃ j ∈ M, a ∈ Ψ0.fo j) → storeAll ts ds δ = some δ' →
    ∃ Ψ', Step M Ψ0 H0 Ψ' H ∧ Rel W T Ψ' δ' (setAll σ ts vs) H ∧ Keep kp σ (setAll σ ts vs)
  | [], ds, vs, F, Ψ, δ, δ', σ, _, S, R, ⟨e1, e2, _⟩, _, _, e => by
    subst e1 e2
    cases e
    exact ⟨Ψ, S, R, Keep.refl _ _⟩
  | t :: ts, ds, vs, F, Ψ, δ, δ', σ, ht, S, R, ⟨d, ds', v, vs', F1, F2, e1, e2, e3, p, q, n⟩, pF, bF, e => by
    subst e1 e2 e3
    simp only [storeAll] at e
    obtain ⟨δ1, eb, e⟩ := Option.bind_eq_some_iff.mp e
    simp only [bindT] at eb
    split at eb <;> cases eb
    rename_i hi
    obtain ⟨hM, hk⟩ := ht t List.mem_cons_self
    have pF1 : Pend Ψ H F1 := ⟨fun a ha => pF.trk a (List.mem_append_left _ ha), fun a ha => pF.ns a (List.mem_append_left _ ha), fun a ha => pF.no a (List.mem_append_left _ ha)⟩
    have pF2 : Pend Ψ H F2 := ⟨fun a ha => pF.trk a (List.mem_append_right _ ha), fun a ha => pF.ns a (List.mem_append_right _ ha), fun a ha => pF.no a (List.mem_append_right _ ha)⟩
    have k1 : Keep kp σ (σ.set t.2 (some v)) := Keep.set hk
    have fin : ∀ (Ψ2 : Own), Step M Ψ0 H0 Ψ2 H → Rel W T Ψ2 (δ.set t.2 (some (if t.1 = true then .ow d else .sh d))) (σ.set t.2 (some v)) H → Ψ2.fs = Ψ.fs → Pend Ψ2 H F2 → ∃ Ψ', Step M Ψ0 H0 Ψ' H ∧ Rel W T Ψ' δ' (setAll σ (t :: ts) (v :: vs')) H ∧ Keep kp σ (setAll σ (t :: ts) (v :: vs')) := fun Ψ2 S2 R2 hfs pF' => by
      obtain ⟨Ψ', S3, R3, K3⟩ := storeAll_ok (fun t ht' => ht t (List.mem_cons_of_mem _ ht')) S2 R2 (by rw [hfs]; exact q) pF' (fun a ha => bF a (List.mem_append_right _ ha)) e
      exact ⟨Ψ', S3, R3, k1.trans K3⟩
    cases ht1 : t.1 with
    | true =>
      rw [ht1] at fin p
      exact fin (Ψ.put t.2 F1) (step_put hM S fun a ha => bF a (List.mem_append_left _ ha)) (R.put_ow hi p pF1) rfl (pF2.put n)
    | false =>
      rw [ht1] at fin p
      exact fin (Ψ.put t.2 []) (step_put hM S fun a ha => absurd ha List.not_mem_nil) (R.put_sh hi p.2) rfl (pF2.put fun a ha => absurd ha List.not_mem_nil)
/-- the names, one after another -/
def gNames : List (Bool × Nat) → TGs
  | [] => gNil
  | t :: ts => gCons (gName t.2) (gNames ts)
theorem gNames_ok : ∀ {ts : List (Bool × Nat)} {vs : List V} {σ : L2.St} {Q : L2.St → Hp → Prop}, vs.length = ts.length → Q (setAll σ ts vs) H → gNames ts vs σ H Q
  | [], [], _, _, _, q => ⟨rfl, q⟩
  | [], _ :: _, _, _, h, _ => by simp at h
  | _ :: _, [], _, _, h, _ => by simp at h
  | t :: ts, v :: vs, σ, Q, h, q => ⟨v, vs, rfl, gNames_ok (ts := ts) (by simpa using h) q⟩
theorem te_par {ts : List (Bool × Nat)} {es : Exs} (hk : ∀ t ∈ ts, t.2 ∉ kp) {R : List V → Hp → Prop} (hR : ∀ vs H1, vs.length = ts.length → (∀ H2, Same H1 H2 → En.nx (setAll σ ts vs) H2) → R vs H1) (h : tS W T Φ cf XW ro kp (.par ts es) En σ H) : tMs W T Φ cf XW es ts σ H R := by
  obtain ⟨δ, Ψ, r, h⟩ := h
  simp only [ex] at h
  have mE : ∀ i ∈ sl es.mods, i ∈ sl (S.par ts es).mods := fun i hi => List.mem_append_right _ hi
  refine ⟨δ, Ψ, r, ?_⟩
  cases q : evM Φ cf es ts δ with
  | bad => rw [q] at h; exact h.elim
  | er x δ1 => rw [q] at h; exact fun cls dd H' Ψ' s r p => h cls dd σ H' Ψ' (s.mono mE) r (Keep.refl _ _) p
  | ok ds δ1 =>
    rw [q] at h
    simp only [OutL.thenF_ok] at h
    intro vs H1 Ψ1 F s1 r1 p1 pF bF
    cases es : storeAll ts ds δ1 with
    | none => rw [es] at h; exact h.elim
    | some δ2 =>
      rw [es] at h
      refine hR vs H1 p1.len fun H2 sm => ?_
      have g := Same.grow sm
      obtain ⟨Ψ', S', R', K'⟩ := storeAll_ok (kp := kp) (M := sl (S.par ts _).mods) (fun t ht => ⟨List.mem_append_left _ (List.mem_map_of_mem ht), hk t ht⟩) ((s1.mono mE).trans g.step0) (r1.same0 sm) (p1.stay (g.stay _) (fun _ z => z) (g.stay _)) (pF.step (g.step0 (M := sl []))) (fun a ha => (bF a ha).imp id fun ⟨j, hj, z⟩ => ⟨j, mE j hj, z⟩) es
      exact h _ H2 Ψ' S' R' K'
theorem ps_parE {ts : List (Bool × Nat)} {es : Exs} {xs ys : List Expr} {k1 k2 : Nat} (hc : X.calm = true) (hk : ∀ t ∈ ts, t.2 ∉ kp) (hg : PGs X xs (gNames ts)) (ha : PA X ys (tMs W T Φ cf XW es ts)) (hl : ts.length ≤ sizeLine) (hn : (assignEach xs X.env).length = ts.length) (hst : (assignEach xs X.env).findIdx? (·.1) = none)
    (hs : swapsWithSole [.Tuple xs k1 p1] (.Tuple ys k2 p2) pos.line X.env = pure false) (hw : swappedStores [.Tuple xs k1 p1] (.Tuple ys k2 p2) X.env = pure none) : PS X (.Assign [.Tuple xs k1 p1] (.Tuple ys k2 p2) pos) (tS W T Φ cf XW ro kp (.par ts es)) :=
  (ps_asg (pe_tup ha) (pg_tup hc hg hn hst) hs hw rfl).weak fun En σ H h => te_par hk (fun vs H1 hl2 q => ⟨by rw [hl2]; exact hl, fun p hp => ⟨p, vs, rfl, SqT.of upd_same, hl2, gNames_ok hl2 (q _ (same_new hp))⟩⟩) h
theorem ps_par2E {i j : Nat} {bi bj : Bool} {es : Exs} {x y : Str} {a b : Expr} {px py pt : Pos} {kt k2 : Nat} (hc : X.calm = true) (hk : ∀ t ∈ [(bi, i), (bj, j)], t.2 ∉ kp) (hN : X.N.Nodup) (hi : X.N[i]? = some x) (hj : X.N[j]? = some y) (hij : i ≠ j) (hx : X.env.scope.names.lookup x = some .local) (hy : X.env.scope.names.lookup y = some .local)
    (ha : PA X [a, b] (tMs W T Φ cf XW es [(bi, i), (bj, j)])) (hw : swappedStores [.Tuple [.Name x px, .Name y py] kt pt] (.Tuple [a, b] k2 p2) X.env = pure (some [x, y])) (hs : swapsWithSole [.Tuple [.Name x px, .Name y py] kt pt] (.Tuple [a, b] k2 p2) pos.line X.env = pure false) :
    PS X (.Assign [.Tuple [.Name x px, .Name y py] kt pt] (.Tuple [a, b] k2 p2) pos) (tS W T Φ cf XW ro kp (.par [(bi, i), (bj, j)] es)) := (ps_par hc hN hi hj hij hx hy ha hw hs).weak fun En σ H h => te_par hk (fun vs H1 hl q => by
    rcases vs with _ | ⟨v, _ | ⟨w, _ | ⟨_, _⟩⟩⟩ <;> first | (simp at hl; done) | skip
    exact ⟨v, w, rfl, q H1 (Same.refl _)⟩) h
end
end PyI

set_option Elab.async false
set_option linter.all false
set_option maxRecDepth 100000
set_option maxHeartbeats 2000000
namespace PyI
namespace SX
open PySem PySem.Spec PySem.Calls PyProof.Rows PySem.W PySem.HandSPX
theorem meth_eq {o : Expr} {name : Str} {apos pos : Pos} {e : Expr} {env : PySem.Env} (hl : (apos.endLine == pos.line) = true) (hs : starEach [e] env = [(false, eval e env)]) : eval (.Call (.Attribute o name apos) [e] [] pos) env = (do
      let ov ← attributeBase o name env (eval o env)
      standAt apos.atName
      let (f, first) ← holding [ov] (getMethod ov name (do return (← importBound o env).getD true))
      callWith pos f first (backTo pos (starEach [e] env)) []) := by
  show (do let ov ← attributeBase o name env (eval o env); standAt apos.atName; methodCall o name apos pos env ov 1 (backTo pos (starEach [e] env)) []) = _
  unfold methodCall methodCallPos
  rw [hs]
  simp only [hl, Bool.or_true, if_true]
  rfl
def iA (f : Str) (p1 p2 : Pos) : Arguments := { posonlyargs := [], args := [{ arg := "self", annotation := none, pos := p1 }, { arg := f, annotation := none, pos := p2 }], vararg := none, kwonlyargs := [], kw_defaults := [], kwarg := none, defaults := [] }
def iB (f msg : Str) (j : Nat) (q1 q2 q3 q4 q5 q6 r1 r2 r3 r4 : Pos) : List Stmt :=
  [.Expr (.Call (.Attribute (.Call (.Name "super" q1) [] [] q2) "__init__" q3) [.Constant (.str msg) j q4] [] q5) q6, .Assign [.Attribute (.Name "self" r1) f r2] (.Name f r3) r4]
def iS (f : Str) : Scope := { kind := .function, names := [("self", .local), (f, .local), ("__class__", .free), ("super", .globalImplicit)], isGenerator := false, isCoroutine := false, more := [] }
/-- names that a field may have -/
structure Nm (f : Str) : Prop where
  a : (f == ("self" : Str)) = false
  a' : (("self" : Str) == f) = false
  b : (f == ("super" : Str)) = false
  b' : (("super" : Str) == f) = false
  c : (f == ("__class__" : Str)) = false
  c' : (("__class__" : Str) == f) = false
  d : (f == ("__debug__" : Str)) = false
  bnd : ∀ (qual : Str) (body : List Stmt) (doc pm : Value) (an : Option Addr) (cdv ct : Value) (cc : Addr) (p1 p2 : Pos) (a b : Value), bindArgs (ksFn "__init__" qual (iA f p1 p2) body (iS f) .none .none doc pm an cdv ct cc) ⟨[a, b], []⟩ = pure [(("self" : Str), a), (f, b)]
theorem nm_at : Nm "at" := ⟨by decide, by decide, by decide, by decide, by decide, by decide, by decide, fun _ _ _ _ _ _ _ _ _ _ _ _ => rfl⟩
theorem nm_part : Nm "part" := ⟨by decide, by decide, by decide, by decide, by decide, by decide, by decide, fun _ _ _ _ _ _ _ _ _ _ _ _ => rfl⟩
theorem nm_most : Nm "most" := ⟨by decide, by decide, by decide, by decide, by decide, by decide, by decide, fun _ _ _ _ _ _ _ _ _ _ _ _ => rfl⟩
theorem nm_name : Nm "name" := ⟨by decide, by decide, by decide, by decide, by decide, by decide, by decide, fun _ _ _ _ _ _ _ _ _ _ _ _ => rfl⟩
theorem nm_tag : Nm "tag" := ⟨by decide, by decide, by decide, by decide, by decide, by decide, by decide, fun _ _ _ _ _ _ _ _ _ _ _ _ => rfl⟩
/-- what the written part says of such a class, at C, and of its __init__, at fI -/
structure SupTxt (K : Frag) (mg : Str → Option Value) (pg : Program) (C fI : Addr) (f : Str) : Prop where
  cls : ∃ nm q N bs bm sn sub ab col dd k0 k1 k2 k3 k5, K.lookup C = some (excClassObj nm q C N bs bm true sn sub ab col dd k0 k1 k2 k3 k5 "ValueError.__new__") ∧ refsVE bm = true ∧ alongIn K "__init__" bm = some (some (.builtin "ValueError.__init__"))
  sa : findIn K (.ref C) "__setattr__" = some (some (.builtin "object.__setattr__"))
  noN : findIn K (.ref C) f = some none
  iC : findIn K (.ref C) "__init__" = some (some (.ref fI))
  tC : typeIn K (.ref fI) = some (.type "function")
  kC : keepIn K (.ref C) = true
  exC : subIn K (.ref C) (.type "BaseException") = some true
  exV : subIn K (.ref C) (.type "ValueError") = some true
  exS : mroIn K C (.ref C) = some true
  tyC : typeIn K (.ref C) = some (.type "type")
  opq : nsIn K cStatics "thirdparty.any" = some none
  sup : mg "super" = none
  top : (pg.main.scope.names.lookup ("super" : Str)).isSome = false
  fn : ∃ (oc : Value) (od : Option Addr) (qual msg : Str) (doc pm : Value) (an : Option Addr) (cda cc : Addr) (ct : Value) (osl : Array (Option Value)) (j : Nat) (p1 p2 q1 q2 q3 q4 q5 q6 r1 r2 r3 r4 : Pos) (cl2 : Value) (cld2 : Option Addr) (vs : Array Value) (csl2 : Array (Option Value)) (file : Str) (tf : Tok) (cl3 : Value) (cld3 : Option Addr) (csl3 : Array (Option Value)),
    (q3.endLine == q5.line) = true ∧ K.lookup fI = some ⟨oc, od, .func (ksFn "__init__" qual (iA f p1 p2) (iB f msg j q1 q2 q3 q4 q5 q6 r1 r2 r3 r4) (iS f) .none .none doc pm an (.ref cda) ct cc), osl⟩ ∧ codeIn K (.ref cda) qual = true ∧
      K.lookup cda = some ⟨cl2, cld2, .fields vs, csl2⟩ ∧ vs[2]? = some (.str file tf) ∧ ((pg.main.file : Str) == file) = true ∧ K.lookup cc = some ⟨cl3, cld3, .cell (some (.ref C)), csl3⟩
section
variable {prog : Program} {w : World} {A : Around} {E : Value → Shared → Prop} {h : Heap} {g : Array GenState} {d : Drawn} {t : Nat} {os : OsState}
variable {nm q : Str} {C N : Addr} {bs bm : List Value} {hdct : Bool} {sn : List Str} {sub : List Value} {ab : Bool} {col : Option Bool} {dd : Option Addr} {k0 k1 k2 k3 k5 : Option Value}
theorem call_mw {u e t0 : Addr} {rest : List Value} {Q : Value → Shared → Prop}
    (hC : h.get? C = some (excClassObj nm q C N bs bm hdct sn sub ab col dd k0 k1 k2 k3 k5 "ValueError.__new__")) (he : h.get? e = some (excO C t0)) (hu : h.get? u = some (kxs_mw "ValueError.__init__" e)) (hrest : rest.length ≤ sizeLine)
    (hq : ∀ h' t1, (∀ b o, b ≠ e → h.get? b = some o → h'.get? b = some o) → h'.get? e = some (excO C t1) → Q .none ⟨h', g, d, t, os⟩) :
    wpAny (model prog w) A (call (.ref u) rest) Q E ⟨h, g, d, t, os⟩ := by
  refine wpAny_call (codeAny_of_tree ?_)
  show wpAny _ A.in1 (callAny (.ref u) ⟨rest, []⟩) _ _ _
  simp only [callAny]
  refine wpAny_bind (wpAny_load hu ?_)
  simp only [kxs_mw, show (Value.type "method-wrapper" == Value.type "method" || Value.type "method-wrapper" == Value.type "builtin_function_or_method" || Value.type "method-wrapper" == Value.type "method-wrapper") = true by decide, if_true]
  refine KFB.if_so (by decide) ?_
  refine wpAny_bind (check_bound_init F.excBase_ValueError.toExcCallFacts hC he rfl ?_)
  refine wpAny_bind (wpAny_pure (wpAny_pure ?_))
  refine ⟨plainId_quiet F.excBase_ValueError.init.plain _, codeAny_builtin F.excBase_ValueError.initEntry ?_⟩
  rw [Around.under_plainId F.excBase_ValueError.init.plain _]
  wp_walk
  refine hq _ h.objs.size (fun b o hb ho => ?_) ?_
  · rw [Heap.get?_update_other _ _ (Ne.symm hb)]
    exact Heap.get?_push_of_some _ ho
  · rw [Heap.get?_update_self _ (Heap.get?_push_of_some _ he) rfl]
    rfl
end
/-- what __init__ leaves of a fresh exception at x -/
structure InitEnd (h h' : Heap) (x C dx t1 : Addr) (f : Str) (v : Value) : Prop where
  keep : ∀ b o, b ≠ x → h.get? b = some o → h'.get? b = some o
  obj : h'.get? x = some { cls := .ref C, dict := some dx, data := .fields #[.ref t1, .none, .none, .none, .bool false, .none] }
  dbig : h.objs.size ≤ dx
  dne : dx ≠ x
  ns : h'.Ns1 dx (fun y => if y = f then some v else none)
/-- a made one -/
structure OwnMade (h h' : Heap) (e C d : Addr) (f : Str) (v : Value) : Prop where
  keep : ∀ b o, h.get? b = some o → h'.get? b = some o
  new : h.objs.size ≤ e
  obj : ∃ oe vs, h'.get? e = some oe ∧ oe.cls = .ref C ∧ oe.dict = some d ∧ oe.data = .fields vs ∧ vs[1]? = some .none
  dbig : h.objs.size ≤ d
  dne : d ≠ e
  ns : h'.Ns1 d (fun y => if y = f then some v else none)
section
variable {prog : Program} {w : World} {A : Around} {E : Value → Shared → Prop} {R : Result → Shared → Prop} {s : Shared} {K : Frag} {mg : Str → Option Value} {C fI : Addr} {f : Str} {B : Heap}
theorem sup_init (T : SupTxt K mg prog C fI f) (N : Nm f) (MD : L2.Mod K mg B) {x t0 : Addr} {v : Value} (kb : ∀ b o, B.get? b = some o → s.heap.get? b = some o) (hlim : s.heap.NoLimit) (hx : s.heap.get? x = some (excO C t0)) (hnx : B.get? x = none) (hroom : A.depth < recursionLimit)
    (hq : ∀ h' tk dx t1, InitEnd s.heap h' x C dx t1 f v → R (.ok (.ret .none)) { s with heap := h', toks := tk }) :
    codeAny (model prog w) A (.call (.ref fI) ⟨[.ref x, v], []⟩) R s := by
  obtain ⟨oc, od, qual, msg, doc, pm, an, cda, cc, ct, osl, j, p1, p2, q1, q2, q3, q4, q5, q6, r1, r2, r3, r4, cl2, cld2, vs, csl2, file, tf, cl3, cld3, csl3, hln, ho, hcd, hco, hvs, hfile, hcell⟩ := T.fn
  obtain ⟨nm, q, N', bs, bm, sn, sub, ab, col, dd, k0, k1, k2, k3, k5, hC, hbm, hal⟩ := T.cls
  have hcl : clsIn K C = some { name := nm, bases := bs, mro := .ref C :: bm, ns := N', qualname := q, hasDict := true, slotNames := sn, subclasses := sub, abstract := ab, collection := col, hasDel := false } := by unfold clsIn; rw [hC] <;> rfl
  have X : K.In s.heap := fun b o e => kb b o (MD.kin b o e)
  have lk : ∀ {h' : Heap}, (∀ b o, s.heap.get? b = some o → h'.get? b = some o) → K.In h' := fun k b o e => k b o (X b o e)
  have nx : ∀ b o, B.get? b = some o → b ≠ x := fun b o e z => by rw [z, hnx] at e; cases e
  obtain ⟨mb, hb1, hb2⟩ := MD.blt
  have kS : (iS f).names.lookup ("super" : Str) = some .globalImplicit := by simp only [iS, List.lookup, N.b', show (("super" : Str) == ("self" : Str)) = false from by decide, show (("super" : Str) == ("__class__" : Str)) = false from by decide, beq_self_eq_true]
  have kCl : (iS f).names.lookup ("__class__" : Str) = some .free := by simp only [iS, List.lookup, N.c', show (("__class__" : Str) == ("self" : Str)) = false from by decide, beq_self_eq_true]
  have kSe : (iS f).names.lookup ("self" : Str) = some .local := by simp only [iS, List.lookup, beq_self_eq_true]
  have kF : (iS f).names.lookup f = some .local := by simp only [iS, List.lookup, N.a, beq_self_eq_true]
  have vS : List.lookup ("self" : Str) [(f, v), (("self" : Str), Value.ref x)] = some (.ref x) := by simp only [List.lookup, N.a', beq_self_eq_true]
  have vF : List.lookup f [(f, v), (("self" : Str), Value.ref x)] = some v := by simp only [List.lookup, beq_self_eq_true]
  refine ks_codeAny_call_defAt (fd := ksFn "__init__" qual (iA f p1 p2) (iB f msg j q1 q2 q3 q4 q5 q6 r1 r2 r3 r4) (iS f) .none .none doc pm an (.ref cda) ct cc) (body := iB f msg j q1 q2 q3 q4 q5 q6 r1 r2 r3 r4) (binds := [("self", .ref x), (f, v)])
    hroom (X _ _ ho) rfl hlim (codeRec_of X hcd) rfl (BindsTo.of_eq (N.bnd _ _ _ _ _ _ _ _ _ _ _ _)) (by
      intro y hy
      simp only [iS, List.mem_cons, List.not_mem_nil, or_false] at hy
      rcases hy with rfl | rfl | rfl | rfl <;> simp) (by
      intro y hy
      rcases List.mem_cons.mp hy with rfl | hy
      · exact kSe
      · rcases List.mem_cons.mp hy with rfl | hy
        · exact kF
        · cases hy) (fun h₁ hns k₁ => ?_)
  have X₁ : K.In h₁ := lk k₁
  have hxL : s.heap.objs.size ≠ x := Nat.ne_of_gt (Heap.lt_size hx)
  have hx₁ := k₁ _ _ hx
  have hn : h₁.Ns s.heap.objs.size (fun y => List.lookup y [(f, v), (("self" : Str), Value.ref x)]) := hns
  have kB₁ : ∀ b o, B.get? b = some o → h₁.get? b = some o := fun b o e => k₁ b o (kb b o e)
  refine ks_wpAt_execs_cons (ks_wpAt_Expr_any (ks_wpAt_MethodCall (he := meth_eq hln rfl) ?_))
  refine ks_wpAt_super_base (env := callEnv (ksFn "__init__" qual (iA f p1 p2) (iB f msg j q1 q2 q3 q4 q5 q6 r1 r2 r3 r4) (iS f) .none .none doc pm an (.ref cda) ct cc) s.heap.objs.size fI) kS kCl (by decide) rfl (X₁ _ _ ho) rfl rfl rfl (X₁ _ _ hco) rfl hvs hfile T.top ?_
  refine ks_loadName_global rfl kS (loadGlobal_builtin (env := callEnv (ksFn "__init__" qual (iA f p1 p2) (iB f msg j q1 q2 q3 q4 q5 q6 r1 r2 r3 r4) (iS f) .none .none doc pm an (.ref cda) ct cc) s.heap.objs.size fI) (MD.glob.keeps kB₁) T.sup (hb1.keeps kB₁) ((hb2 _ (by decide)).trans (by first | boot_by_name | rfl | kernel_rfl)) ⟨rfl, ?_⟩)
  refine wpAny_loadName_free rfl kCl rfl ⟨_, X₁ _ _ hcell, rfl⟩ ?_
  refine wpAny_loadName_local rfl kSe hn vS ?_
  refine ks_wpAny_isType_cls (X₁ _ _ hC) rfl ⟨rfl, ?_⟩
  refine ks_wpAny_call_super (X₁ _ _ hC) rfl hx₁ rfl (fun c e => by cases e) (looks_mroIn X₁ T.exS) (fun h₂ e₂ k₂ => ?_)
  have X₂ : K.In h₂ := lk fun b o e => k₂ b o (k₁ b o e)
  have hx₂ := k₂ _ _ hx₁
  have I₂ : InstAt h₂ x (excO C t0) C none := ⟨hx₂, rfl, rfl, trivial⟩
  have hI : Looks (model prog w) h₂ (isInstance (.ref x) (.type "ValueError")) true := I₂.type.andThen (looks_subIn X₂ T.exV)
  have hmr : Looks (model prog w) h₂ (mroOf (.ref C)) (.ref C :: bm) := (looks_clsIn X₂ hcl).andThen .now
  refine kxs_getMethod kxs_ValueError e₂ (looks_opaque X₂ T.opq) hmr (ESX.drop_own C bm) X₂ hal hI (ks_ne X₂ I₂ hcl) (by decide) ?_
  have hmw : (h₂.push (kxs_mw "ValueError.__init__" x)).get? h₂.objs.size = some (kxs_mw "ValueError.__init__" x) := Heap.get?_push_at rfl rfl
  have k₃ : ∀ b o, h₂.get? b = some o → (h₂.push (kxs_mw "ValueError.__init__" x)).get? b = some o := fun b o e => Heap.get?_push_of_some _ e
  refine kxs_callWith (i := "ValueError.__init__") (x := x) (by rfl) ?_
  refine evalArgs_plain (spliced_more (wpAny_Constant_str (spliced_none ⟨hmw, ?_⟩)) rfl)
  refine call_mw (k₃ _ _ (X₂ _ _ hC)) (k₃ _ _ hx₂) hmw (by rw [sizeLine_eq]; exact (by decide : 1 ≤ 16777216)) (fun h₄ t1 k₄ hx₄ => ?_)
  have k14 : ∀ b o, b ≠ x → h₁.get? b = some o → h₄.get? b = some o := fun b o hb e => k₄ b o hb (k₃ b o (k₂ b o e))
  have X₄ : K.In h₄ := fun b o e => k14 b o (nx b o (MD.kin b o e)) (X₁ b o e)
  have hn₄ : h₄.Ns s.heap.objs.size (fun y => List.lookup y [(f, v), (("self" : Str), Value.ref x)]) := by
    obtain ⟨oL, es, ep, hL, r⟩ := hn
    exact ⟨oL, es, ep, k14 _ _ hxL hL, r⟩
  refine wpAt_of_wpAny (wpAny_execs_cons (plainObj_wpAny_Assign_Attribute ?_))
  refine ldc (fd := ksFn "__init__" qual (iA f p1 p2) (iB f msg j q1 q2 q3 q4 q5 q6 r1 r2 r3 r4) (iS f) .none .none doc pm an (.ref cda) ct cc) rfl kF hn₄ vF ?_ N.d
  refine ldc (fd := ksFn "__init__" qual (iA f p1 p2) (iB f msg j q1 q2 q3 q4 q5 q6 r1 r2 r3 r4) (iS f) .none .none doc pm an (.ref cda) ct cc) rfl kSe hn₄ vS ?_ (by decide)
  refine set_plain X₄ (ox := excO C t1) (od := none) ⟨hx₄, rfl, rfl, trivial⟩ T.sa ?_
  refine exc_osa X₄ hx₄ hcl (show refsVE (.ref C :: bm) = true from hbm) rfl T.noN (fun h₅ tk₅ dx k₅ dn dne hx₅ hn₅ => ?_)
  have z : s.heap.objs.size < h₄.objs.size := hn₄.lt
  exact wpAny_execs_nil (hq h₅ tk₅ dx t1 ⟨fun b o hb e => k₅ b o hb (k14 b o hb (k₁ b o e)), hx₅, Nat.le_of_lt (Nat.lt_of_lt_of_le z dn), dne, hn₅⟩)
theorem sup_made (T : SupTxt K mg prog C fI f) (N : Nm f) (MD : L2.Mod K mg B) {v : Value} (kb : ∀ b o, B.get? b = some o → s.heap.get? b = some o) (hlim : s.heap.NoLimit) (hroom : A.depth + 1 < recursionLimit)
    (hq : ∀ h' tk e d, OwnMade s.heap h' e C d f v → R (.ok (.ret (.ref e))) { s with heap := h', toks := tk }) :
    codeAny (model prog w) A (.call (.ref C) ⟨[v], []⟩) R s := by
  obtain ⟨nm, q, N', bs, bm, sn, sub, ab, col, dd, k0, k1, k2, k3, k5, hC, hbm, hal⟩ := T.cls
  obtain ⟨hp, g, dr, tk, os⟩ := s
  have X : K.In hp := fun b o e => kb b o (MD.kin b o e)
  have k : ∀ b o, hp.get? b = some o → ((hp.push (kdv_tup [v])).push (excO C hp.objs.size)).get? b = some o := fun b o e => Heap.get?_push_of_some _ (Heap.get?_push_of_some _ e)
  have hget : ((hp.push (kdv_tup [v])).push (excO C hp.objs.size)).get? (hp.objs.size + 1) = some (excO C hp.objs.size) := by heap_get
  have hnx : B.get? (hp.objs.size + 1) = none := by
    cases e : B.get? (hp.objs.size + 1) with
    | none => rfl
    | some o =>
      have z : hp.get? (hp.objs.size + 1) = some o := kb _ _ e
      exact absurd (Nat.lt_of_succ_lt (Heap.lt_size z)) (Nat.lt_irrefl _)
  refine call_own F.excBase_ValueError (fun X => refsVE_contains X bm hbm) (X _ _ hC) (looks_findIn X T.iC) (fun self => bind_fn X self T.tC) (by rw [sizeLine_eq]; exact (by decide : 1 ≤ 16777216)) ?_
  refine sup_init (s := ⟨(hp.push (kdv_tup [v])).push (excO C hp.objs.size), g, dr, tk, os⟩) T N MD (fun b o e => k b o (kb b o e)) (hlim.keeps k) hget hnx ?_ fun h' tk' dx t1 ⟨k', hx, dn, dne, hns⟩ => ?_
  · show A.depth + 1 < recursionLimit
    exact hroom
  · have old : ∀ b o, hp.get? b = some o → h'.get? b = some o := fun b o e => k' b o (Nat.ne_of_lt (Nat.lt_succ_of_lt (Heap.lt_size e))) (k b o e)
    have z : hp.objs.size + 1 + 1 ≤ dx := by
      first
        | (simpa only [Heap.size_push] using dn)
        | exact dn
        | (have q := dn; rw [Heap.size_push, Heap.size_push] at q; exact q)
    exact ⟨rfl, hq h' tk' (hp.objs.size + 1) dx ⟨old, Nat.le_succ _, ⟨_, _, hx, rfl, rfl, rfl, rfl⟩, Nat.le_trans (Nat.le_trans (Nat.le_succ _) (Nat.le_succ _)) z, dne, hns⟩⟩
end
end SX
end PyI

set_option Elab.async false
set_option linter.all false
set_option maxRecDepth 100000
namespace PyI
open PySem PySem.Spec PyProof.Rows L2 LamX
theorem relO_f {v : V} {v' : Value} {f : Str} (r : RelV v v') (g : Str) : RelO (List.lookup g [(f, v)]) (if g = f then some v' else none) := by
  by_cases hw : g = f
  · subst hw
    rw [if_pos rfl]
    have q : List.lookup g [(g, v)] = some v := by simp [List.lookup]
    rw [q]
    exact r
  · rw [if_neg hw]
    have qw : (g == f) = false := by simpa using hw
    have q2 : List.lookup g [(f, v)] = none := by simp [List.lookup, qw]
    rw [q2]
    trivial
/-- C(e), C of a field f -/
def tMkF (C : Addr) (f : Str) (ta : TA) : L2.St → Hp → XK → Prop := fun σ H Q => ta σ H fun vs H1 => ∃ v, vs = [v] ∧ ∀ d, H1 d = none → Q (.ref C) (some d) (upd H1 d (.xd [(f, v)]))
section
variable {W : Wd} {T : List (Addr × Str)} {Φ : Nat → Option Fn} {cf : CF} {XW : WX} {X : Cx} {σ σ' : L2.St} {Ψ Ψ0 Ψ1 Ψ2 Ψ' : Own} {H H0 H1 H2 H' : Hp} {δ δ1 δ2 δ' : Env} {M M1 : Slots} {Q : VK} {pos p p2 p1 p3 apos : Pos} {o ro : Bool} {kp : Slots} {En : Ends}
theorem pmk_sup {a : Expr} {ta : TA} {x f : Str} {C fI : Addr} (S : SX.SupTxt X.K X.mg X.prog C fI f) (N : SX.Nm f) (hdp : X.A.depth + 1 < recursionLimit) (gC : X.mg x = some (.ref C)) (hg : Gl X x) (hdb : (x == ("__debug__" : Str)) = false) (ha : PA X [a] ta)
    (he : starEach [a] X.env = (false, eval a X.env) :: starEach [] X.env) : PMk X (.Call (.Name x p) [a] [] pos) (tMkF C f ta) := by
  intro pins s σ H Q I h
  refine wpAny_Call_Name_kw (ld_glob I hg gC ?_ hdb)
  refine PySem.W.callWith_K (h₀ := X.base) I.ok.mod.kin S.kC (thn (ha.run pos pins s σ H _ I h) fun us s1 hh => ?_) he rfl
  obtain ⟨vs, H1, I1, r1, v, ev, q1⟩ := hh
  subst ev
  refine ⟨I1.kIn, ?_⟩
  cases r1 with
  | cons rv rn =>
    rename_i v' us'
    cases rn
    show wpAny _ _ (call (.ref C) [v']) _ _ _
    have hlim := I1.nolimit
    have bk := I1.bk
    obtain ⟨hp, g, dr, tk, os⟩ := s1
    refine wpAny_call (SX.sup_made S N I1.ok.mod bk hlim hdp fun h' tk' e d Z => ?_)
    show MkP X pins σ Q (.ref e) ⟨h', g, dr, tk', os⟩
    obtain ⟨oe, fv, hoe, hc, hd, hdat, h1⟩ := Z.obj
    have hns := Z.ns
    obtain ⟨G', g1, g2⟩ := restrict h' fun b => decide (b ≠ e)
    have gk : ∀ b, b ≠ e → G'.get? b = h'.get? b := fun b hb => g1 b (decide_eq_true hb)
    have ge : G'.get? e = none := g2 e (by simp)
    have old : ∀ b o, hp.get? b = some o → G'.get? b = some o := fun b o q => (gk b (Nat.ne_of_lt (Nat.lt_of_lt_of_le (Heap.lt_size q) Z.new))).trans (Z.keep b o q)
    have ob : ObjOk X.prog X.w (upd H1 d (.xd [(f, v)])) G' d (.xd [(f, v)]) :=
      ⟨_, hns.at (fun o q => (gk d Z.dne).trans q), fun y => relO_f rv y⟩
    have J : Inv X pins σ (upd H1 d (.xd [(f, v)])) ⟨G', g, dr, tk', os⟩ := I1.laid (t' := tk') old Z.dbig ob
    refine ⟨e, oe, fv, ⟨G', g, dr, tk', os⟩, _, .ref C, some d, rfl, J, fun b o q => ?_, ge, hoe, ⟨hc, hd⟩, hdat, h1, ?_, rfl, I1.bare, raises_own S.exC S.tyC, q1 d (I1.hok.fresh Z.dbig)⟩
    · by_cases hb : b = e
      · have q' : G'.get? b = some o := q
        rw [hb, ge] at q'; cases q'
      · exact (gk b hb).symm.trans q
    · rw [upd_ne (Ne.symm Z.dne)]
      exact I1.hok.fresh Z.new
/-- an error that is made of a text -/
structure MkN (K : PySem.W.Frag) (mg : Str → Option Value) (x : Str) (C : Addr) (bmB : List Value) (newId : String) : Prop where
  q : PySem.W.excIn K C bmB newId = true
  g : mg x = some (.ref C)
  k : PySem.W.keepIn K (.ref C) = true
  s : PySem.W.subIn K (.ref C) (.type "BaseException") = some true
  t : PySem.W.typeIn K (.ref C) = some (.type "type")
theorem ps_raisNE {c : Nat} {x m : Str} {j : Nat} {C : Addr} {bmB : List Value} {B newId initId : String} (hc : X.calm = true) (tk : Takes X XW) (F : ExcBaseFacts B newId initId bmB) (N : MkN X.K X.mg x C bmB newId) (hg : Gl X x) (hdb : (x == ("__debug__" : Str)) = false)
    (hC : W.ca c = some C) (hf : exFld c = none) : PS X (.Raise (some (.Call (.Name x p) [.Constant (.str m) j p2] [] pos)) none p1) (tS W T Φ cf XW ro kp (.rais c .nil)) :=
  (ps_raise hc tk (pmk_own F N.q N.g N.k (raises_own N.s N.t) hg hdb)).weak fun En σ H h => by
  obtain ⟨δ, Ψ, r, h⟩ := h
  simp only [ex, evs, OutL.thenF_ok, hf, immAll] at h
  exact h (.ref C) none σ H Ψ Step.refl r (Keep.refl _ _) ⟨⟨C, hC, rfl⟩, rfl⟩
theorem ps_raisFE {c : Nat} {x f : Str} {C fI : Addr} {e : Ex} {a : Expr} (hc : X.calm = true) (tk : Takes X XW) (S : SX.SupTxt X.K X.mg X.prog C fI f) (N : SX.Nm f) (hdp : X.A.depth + 1 < recursionLimit) (gC : X.mg x = some (.ref C)) (hg : Gl X x) (hdb : (x == ("__debug__" : Str)) = false)
    (hC : W.ca c = some C) (hf : (exFld c).map strV = some f) (hb : isBor e = false) (ha : PA X [a] (tEs W T Φ cf XW (.cons e .nil) false)) (he : starEach [a] X.env = (false, eval a X.env) :: starEach [] X.env) :
    PS X (.Raise (some (.Call (.Name x p) [a] [] pos)) none p1) (tS W T Φ cf XW ro kp (.rais c (.cons e .nil))) :=
  (ps_raise hc tk (pmk_sup S N hdp gC hg hdb ha he)).weak fun En σ H h => by
  obtain ⟨δ, Ψ, r, h⟩ := h
  simp only [ex] at h
  refine ⟨δ, Ψ, r, ?_⟩
  cases q : evs Φ cf (.cons e .nil) false δ with
  | bad => rw [q] at h; exact h.elim
  | er y δ1 => rw [q] at h; exact fun cls dd H' Ψ' s r p => h cls dd σ H' Ψ' s r (Keep.refl _ _) p
  | ok ds δ1 =>
    rw [q] at h
    simp only [OutL.thenF_ok] at h
    intro vs H1 Ψ1 s1 r1 p1
    have rp : Reps W H1 Ψ1.fs ds vs := RPs.reps (b := false) (es := .cons e .nil) (fun z => by simp [Exs.hasBor, hb] at z) p1
    have hfs : (exFld c).isSome = true := by
      cases z : exFld c with
      | none => rw [z] at hf; cases hf
      | some _ => rfl
    rw [hfs, if_pos rfl] at h
    by_cases hl : (decide (ds.length = 1) && immAll ds) = true
    · rw [if_pos hl] at h
      simp only [Bool.and_eq_true, decide_eq_true_eq] at hl
      match ds, vs, rp, hl, h with
      | [y], [v], rp, hl, h =>
        refine ⟨v, rfl, fun d hd => ?_⟩
        have sm := same_new (o := .xd [(f, v)]) hd
        refine h (.ref C) (some d) σ _ (Ψ1.ext H1 (upd H1 d (.xd [(f, v)]))) (s1.trans (Same.grow sm).step) (r1.same sm) (Keep.refl _ _) ⟨⟨C, hC, rfl⟩, rfl, d, f, v, rfl, .inr ⟨not_trk hd, ⟨_, upd_same, fun _ z => by cases z⟩⟩, upd_same, hf, ?_⟩
        obtain ⟨v0, r0, e0, p0, _⟩ := rp
        cases e0
        exact Rep.stay ((Same.grow sm).stay _) (fun a ha => .inl ha) p0
    · rw [if_neg hl] at h
      exact h.elim
end
end PyI

set_option Elab.async false
set_option linter.all false
set_option maxRecDepth 100000
namespace PyI
open PySem PySem.Spec PyProof.Rows L2 LamX
section
variable {P : Program} {w : World} {K : PySem.W.Frag} {mg : Str → Option Value} {base : Heap}
theorem fnG_of {k : Nat} {f : Addr} {name qual : Str} {params : Arguments} {body : List Stmt} {scope : Scope} {dV kV doc pm cdv ct oc : Value} {an od : Option Addr} {osl : Array (Option Value)} {N ps : List Str} {sp : Sp}
    (lk : K.lookup f = some ⟨oc, od, .func (PySem.W.fnOf name qual params body scope dV kV doc pm an cdv ct), osl⟩) (hcd : PySem.W.codeIn K cdv qual = true) (S : FnScope N ps scope) (len : ∀ vs H Q E, sp vs H Q E → vs.length = ps.length)
    (hbody : ∀ (A : Around) (outer : List PySem.Env) (s : Shared) (H : Hp) (vs : List V) (Q : VK) (E : XK), Room k (A.deeper (envOfC qual scope s.heap.objs.size f cdv)) → (A.deeper (envOfC qual scope s.heap.objs.size f cdv)).guards = some [] → sp vs H Q E →
      ∃ t, PSs (cxOf (L2.CX P w) P w K mg base N qual scope f cdv A outer s H E) body t ∧ t { nx := fun _ H' => Q .non H', rt := Q } (start N vs) H) :
    FnG P w K mg base (k + 1) f (PySem.W.fnOf name qual params body scope dV kV doc pm an cdv ct) ps sp := by
  refine ⟨len, fun A outer s H args us vs Q E hr hG e0 hb r hsp => ?_⟩
  have hl := len _ _ _ _ hsp
  have KX : K.In s.heap := e0.mod.kin.keeps fun b o e => (e0.bs b o e).1
  have lim : s.heap.NoLimit := e0.mod.nolimit.keeps fun b o e => (e0.bs b o e).1
  have hkind : ∀ y ∈ ps.zip us, scope.names.lookup y.1 = some .local ∨ (scope.names.lookup y.1 = some .cell ∧ ((cellsFrom (s.heap.objs.size + 1) scope.names []).lookup y.1).isSome = true) := fun ⟨n, v⟩ hy => by
    rcases S.par n (List.of_mem_zip hy).1 with q | q
    · exact .inl q
    · exact .inr ⟨q, PySem.W.cellsFrom_some _ _ _ (.inl q)⟩
  refine codeAny_call_function hr.depth (KX _ _ lk) rfl S.co S.gen rfl (PySem.W.codeRec_of KX hcd) (hb _ _ _ _ ?_)
  refine wpAny_newFunctionEnv_cells S.kind hkind fun env he s1 x => ?_
  subst he
  refine ⟨lim.keeps x.toInCall.keep, codeAny_func ?_⟩
  obtain ⟨t, ht, hq⟩ := hbody A outer s H vs Q E (hr.deeper _) hG hsp
  have I := inv_start (CX := L2.CX P w) (E := E) S hr.hd e0 hl r x
  refine wpAny_mono (ht.run [] s1 (start N vs) H _ I hq) (fun fl s' hs => ?_) fun e s' hs => hs
  have fin : ∀ {σ' : L2.St} {H' : Hp} {v : V} {u : Value}, Inv (cxOf (L2.CX P w) P w K mg base N qual scope f cdv A outer s H E) [] σ' H' s' → RelV v u → Q v H' → CE outer P w H s Q u s' :=
    fun {σ' H' v u} J rv q => ⟨v, H', J.os, J.bare, J.base, J.hok, rv, q⟩
  match fl, hs with
  | .ret u, ⟨v, σ', H', J, rv, q⟩ => exact fin J rv q
  | .next, ⟨σ', H', J, q⟩ => exact fin (v := V.non) (u := Value.none) J rfl q
  | .brk, ⟨_, _, _, q⟩ => exact False.elim q
  | .cont, ⟨_, _, _, q⟩ => exact False.elim q
end
/-- the own parameters -/
def kpOf (fn : Fn) : Slots := fun j => fn.ow[j]? = some true
section
variable {W : Wd} {T : List (Addr × Str)} {Φ : Nat → Option Fn} {XW : WX} {X : Cx} {σ σ' : L2.St} {Ψ : Own} {H : Hp} {Q : VK} {E : XK} {n f : Nat} {fn : Fn} {vs : List V}
/-- a def's promise, from its body -/
theorem sp_body (hf : Φ f = some fn) (h : spF W T Φ (callF Φ (n + 1)) f vs H Q E) :
    tSs W T Φ (callF Φ n) (fun cls d _ H => E cls d H) fn.ro (kpOf fn) fn.body { nx := fun _ H' => Q .non H', rt := Q } (startS fn.sz vs) H := by
  obtain ⟨fn', ds, Ψ, e, l1, l2, r, h⟩ := h
  rw [hf] at e
  cases e
  refine ⟨_, Ψ, r, ?_⟩
  simp only [callF, hf] at h
  by_cases c : ds.length = fn.ow.length ∧ fn.ow.length ≤ fn.sz
  · rw [if_pos c] at h
    have own : ∀ (σ' : L2.St), Keep (kpOf fn) (startS fn.sz vs) σ' → ∀ (j : Nat) (v : V), fn.ow[j]? = some true → vs[j]? = some v → σ'[j]? = some (some v) := fun σ' k j v e1 e2 => by
      rw [k j e1]
      unfold startS
      rw [List.getElem?_append_left (by have := (List.getElem?_eq_some_iff.mp e2).1; simpa using this), List.getElem?_map, e2]
      rfl
    cases q : exs Φ (callF Φ n) fn.ro fn.body (startE fn ds) with
    | nx δ' =>
      rw [q] at h
      simp only [endF] at h
      cases eo : outsE fn.ow 0 δ' with
      | none => rw [eo] at h; exact h.elim
      | some os =>
        rw [eo] at h
        intro σ' H' Ψ' s r' k
        refine h .non H' Ψ' δ' σ' (s.mono fun _ _ => trivial) r' eo (own σ' k) ?_
        cases fn.ro with
        | false => exact (rfl : V.non = .non)
        | true => exact ⟨[], ⟨rfl, rfl⟩, pend_nil, fun a ha => absurd ha List.not_mem_nil⟩
    | rt d δ' =>
      rw [q] at h
      simp only [endF] at h
      cases eo : outsE fn.ow 0 δ' with
      | none => rw [eo] at h; exact h.elim
      | some os =>
        rw [eo] at h
        intro v σ' H' Ψ' s r' k p
        exact h v H' Ψ' δ' σ' (s.mono fun _ _ => trivial) r' eo (own σ' k) (p.more fun _ _ => trivial)
    | er x δ' =>
      rw [q] at h
      simp only [endF] at h
      cases eo : outsE fn.ow 0 δ' with
      | none => rw [eo] at h; exact h.elim
      | some os =>
        rw [eo] at h
        intro cls dd σ' H' Ψ' s r' k p
        exact h cls dd H' Ψ' δ' σ' (s.mono fun _ _ => trivial) r' eo (own σ' k) p
    | bk δ' => rw [q] at h; exact h.elim
    | ct δ' => rw [q] at h; exact h.elim
    | bad => rw [q] at h; exact h.elim
  · rw [if_neg c] at h
    exact h.elim
theorem spF_zero (h : spF W T Φ (callF Φ 0) f vs H Q E) : False := by
  obtain ⟨fn, ds, Ψ, e, l1, l2, r, h⟩ := h
  exact h
theorem spF_len (hf : Φ f = some fn) (h : spF W T Φ (callF Φ n) f vs H Q E) : vs.length = fn.ow.length := by
  obtain ⟨fn', ds, Ψ, e, l1, l2, r, h⟩ := h
  rw [hf] at e
  cases e
  exact l1
theorem startS_eq {N : List Str} (h : N.length = fn.sz) : L2.start N vs = startS fn.sz vs := by
  unfold L2.start startS
  rw [h]
end
end PyI

set_option Elab.async false
set_option linter.all false
set_option maxRecDepth 100000
namespace PyI
open PySem PySem.Spec PyProof.Rows L2 LamX
section
variable {X : Cx} {pins : List (Addr × Obj)} {σ : L2.St} {H : Hp} {s sI : Shared}
/-- an object that stands there is tracked from now on -/
theorem inv_track {a : Addr} {ho : HO} (I : Inv X pins σ H s) (hn : H a = none) (h0 : X.s_0.heap.get? a = none) (hL : a ≠ X.env.locals) (hC : ∀ y c, X.env.cells.lookup y = some c → c ≠ a) (hP : ∀ p ∈ X.pn ++ pins, p.1 ≠ a)
    (new : ObjOk X.prog X.w (upd H a ho) s.heap a ho) : Inv X pins σ (upd H a ho) s := by
  have ne : ∀ b, b ≠ a → upd H a ho b = H b := fun b h => upd_ne h
  have nk : ∀ {b : Addr} {o : HO}, H b = some o → b ≠ a := fun {b o} e z => by rw [z, hn] at e; cases e
  refine ⟨I.ok, I.os, I.bare, ⟨fun b o e n hb hx => I.base.keep b o e n hb hx, fun b o e n hb hx => I.base.slot b o e n hb hx, fun b o e n hx => ?_, fun b o e hx => I.base.there b o e hx, fun b xs e => ?_, fun b o u e => ?_, fun b ps e => ?_⟩, I.loc, I.cell, ?_, fun y c e => ?_, fun p hp => ?_, fun b ob e => ?_, I.len⟩
  · rw [ne b fun z => by rw [z, h0] at e; cases e]
    exact I.base.free b o e n hx
  · rw [ne b (nk (I.base.tups b xs e))]
    exact I.base.tups b xs e
  · rw [ne b (nk (I.base.frzs b o u e))]
    exact I.base.frzs b o u e
  · obtain ⟨more, q⟩ := I.base.tbls b ps e
    exact ⟨more, by rw [ne b (nk q)]; exact q⟩
  · rw [ne _ (Ne.symm hL)]
    exact I.free
  · rw [ne c (hC y c e)]
    exact I.freeC y c e
  · obtain ⟨e1, e2, e3, e4, e5⟩ := I.pin p hp
    exact ⟨e1, by rw [ne _ (hP p hp)]; exact e2, e3, e4, e5⟩
  · by_cases hb : b = a
    · subst hb
      rw [upd_same] at e
      cases e
      exact new
    · rw [ne b hb] at e
      exact (I.hok b ob e).stay (fun c v _ r => r) (fun c r => by rw [ne c (nk r)]; exact r) fun c xs r => by rw [ne c (nk r)]; exact r
theorem excHO_ok {a : Addr} {cls : Value} {d : Option Addr} {oe : Obj} {vs : Array Value} (e : s.heap.get? a = some oe) (z : Zc cls d oe) (hd : oe.data = .fields vs) : ObjOk X.prog X.w (upd H a (ExcHO cls d a)) s.heap a (ExcHO cls d a) :=
  ⟨⟨oe, vs, e, z.1, z.2, hd⟩, ⟨oe, e⟩, fun h1 h2 ⟨oe, vs, a1, a2, a3, a4⟩ st => ⟨oe, vs, st _ a1, a2, a3, a4⟩⟩
theorem suite_in {a : Addr} (I : Inv X pins σ H s) : Inv (X.suite a (X.pn ++ pins)) [] σ H s :=
  ⟨I.ok.suite _ _, I.os, I.bare, I.base, I.loc, I.cell, I.free, I.freeC, fun p hp => I.pin p (by rw [List.append_nil] at hp; exact hp), I.hok, I.len⟩
theorem suite_out {a : Addr} {pn' : List (Addr × Obj)} (I : Inv (X.suite a (X.pn ++ pins)) pn' σ H s) (ok : X.Ok) : Inv X pins σ H s :=
  ⟨ok, I.os, I.bare, I.base, I.loc, I.cell, I.free, I.freeC, fun p hp => I.pin p (List.mem_append_left _ hp), I.hok, I.len⟩
end
/-- what the clause wishes: the error, tracked, in the name's slot -/
def wKeep (K : PySem.W.Frag) (c : Value) (i : Nat) (ts : TS) (D : Ends) : WX := fun cls d σ H =>
  PySem.W.exmOne K cls c = some true ∧ ∀ a, H a = none → ts { nx := fun σ' H' => D.nx (σ'.set i none) H', rt := D.rt, bk := fun σ' H' => D.bk (σ'.set i none) H', ct := fun σ' H' => D.ct (σ'.set i none) H' } (σ.set i (some (.ref a))) (upd H a (ExcHO cls d a))
section
variable {X : Cx} {x n : Str} {c : Value} {i : Nat} {body suite : List Stmt} {b₀ : Stmt} {np pos pos' : Pos} {tb : WX → TS} {ts : TS}
theorem ps_try_keep (hex : X.ex = []) (hs : X.stack = X.env :: X.outer) (hf : X.env.frame = some X.env.locals) (hN : X.N.Nodup) (hi : X.N[i]? = some n) (hln : X.env.kindOf n = some .local) (hc : Names X x c)
    (hb : ∀ (W : WX) (pn : List (Addr × Obj)) (xe : Value → Shared → Prop), Takes (X.tr pn xe) W → PassesOwn (model X.prog X.w) X.A X.env xe → PSs (X.tr pn xe) body (tb W))
    (hsu : ∀ (a : Addr) (pn : List (Addr × Obj)), PSs (X.suite a pn) (b₀ :: suite) ts) :
    PS X (.Try body [.ExceptHandler (some (.Name x np)) (some n) (b₀ :: suite) pos'] [] [] pos) (fun D σ H => tb (wKeep X.K c i ts D) D σ H) := by
  refine ⟨fun pins s σ H D I h => ?_⟩
  have ok := I.ok
  have hfr : X.A.frames = some (X.env :: X.outer) := by rw [ok.frames, hs]
  have hloc : Loc X.env.scope n := .inl hln
  refine wpAny_Try_except ?_
  refine wpAny_mono ((hb (wKeep X.K c i ts D) (X.pn ++ pins) (fun e s₁ => wpAny (model X.prog X.w) X.A (noteFrame e X.env) (fun _ s₂ => wpAny (model X.prog X.w) X.A (setFlight e none) (fun _ s₃ =>
    wpAny (model X.prog X.w) X.A (handleBy e X.env [.ExceptHandler (some (.Name x np)) (some n) (b₀ :: suite) pos']) (SP X pins D) X.xe s₃) X.xe s₂) X.xe s₁) (fun u s' xx => ?_) PassesOwn.looking).run [] s σ H D (I.toTry _) h) (fun f s1 hsp => ?_) (fun e s1 he => he)
  · obtain ⟨a, B, sI, pins', σ', H', cls, d, rfl, J', nb, up, sky, na, os, ag, hb1, hyes⟩ := xx
    have J : Inv X pins σ' H' sI := J'.ofTry ok
    have sky' : Sky B (X.env :: X.outer) a (Zc cls d) X.env.locals s'.heap := by rw [← hs]; exact sky
    show wpAny (model X.prog X.w) X.A (noteFrame (.ref a) X.env) _ _ _
    refine Sky.land Zc.steady hfr hf sky' fun h3 fl3 up3 => ?_
    have J3 : Inv X pins σ' H' { s' with heap := h3 } := J.landed nb fl3.1 (up.trans up3) os ag
    obtain ⟨oe3, vs3, he3, hz3, hd3⟩ := fl3.there
    have nfr : a ∉ frs (X.env :: X.outer) := fun hm => by
      obtain ⟨_, o', e', hnf⟩ := fl3.2.2.1.mem hm
      rw [he3] at e'
      cases e'
      exact hnf _ hd3
    have nL : a ≠ X.env.locals := fun z => nfr (List.mem_filterMap.mpr ⟨X.env, List.mem_cons_self, by rw [hf, z]⟩)
    have nI : sI.heap.get? a = none := by
      cases e : sI.heap.get? a with
      | none => rfl
      | some o =>
        have z := nb a o e (by show a ∉ frs X.stack; rw [hs]; exact nfr)
        rw [fl3.2.1] at z
        cases z
    have n0 : X.s_0.heap.get? a = none := by
      cases e : X.s_0.heap.get? a with
      | none => rfl
      | some o =>
        obtain ⟨o', e'⟩ := J.base.there a o e (by rw [hex]; exact List.not_mem_nil)
        rw [nI] at e'
        cases e'
    have nC : ∀ {h4 : Heap} {oe : Obj} {vs : Array Value}, h4.get? a = some oe → oe.data = .fields vs → Inv X pins σ' H' { s' with heap := h4 } → ∀ y c, X.env.cells.lookup y = some c → c ≠ a := fun {h4 oe vs} e dd K4 y c hc z => by
      subst z
      obtain ⟨w', o, ho, hcd⟩ := K4.cell y c hc
      have ho : h4.get? c = some o := ho
      rw [e] at ho
      cases ho
      rw [dd] at hcd
      cases hcd
    have nP : ∀ p ∈ X.pn ++ pins, p.1 ≠ a := fun p hp z => by
      obtain ⟨e1, _⟩ := J.pin p hp
      rw [z, nI] at e1
      cases e1
    refine wpAny_handleBy_cons (codeAny_handlers_test ?_) (by intro q; cases q)
    have LT : PySem.W.Looks (model X.prog X.w) h3 (typeOf (.ref a)) cls := fun A Q E s k q => wpAny_typeOf_ref (k _ _ he3) (by rw [hz3.1]; exact q)
    have LM := PySem.W.exm_one (M := model X.prog X.w) (J3.kIn) LT hb1
    have test : ∀ {Q : Value → Shared → Prop} {E : Value → Shared → Prop}, Q c { s' with heap := h3 } → wpAny (model X.prog X.w) (X.A.mark (some (.ref a))) (eval (.Name x np) X.env) Q E { s' with heap := h3 } := fun {Q E} q => by
      obtain ⟨hg, hdbg, hm | ⟨hm, hv, hnn⟩⟩ := hc
      · exact ld_glob (X := X.suite a (X.pn ++ pins)) (suite_in J3) hg hm q hdbg
      · exact ld_blt (X := X.suite a (X.pn ++ pins)) (suite_in J3) hg hm hv q hnn hdbg
    refine test (LM.here ?_)
    refine codeAny_handlers_suite_as ?_
    refine HandSPX.lands_againZ fl3 fun h4 fl4 up4 => ?_
    have J4 : Inv X pins σ' H' { s' with heap := h4 } := J.landed nb fl4.1 ((up.trans up3).trans up4) os ag
    obtain ⟨oe4, vs4, he4, hz4, hd4⟩ := fl4.there
    have J5 : Inv X pins σ' (upd H' a (ExcHO cls d a)) { s' with heap := h4 } := inv_track J4 na n0 nL (nC he4 hd4 J4) nP (excHO_ok he4 hz4 hd4)
    refine store_ok (X := X.suite a (X.pn ++ pins)) (v := .ref a) (suite_in J5) hN hi hloc rfl (fun s5 S5 => ?_) (.inr hln)
    refine wpAny_mono ((hsu a (X.pn ++ pins)).run [] s5 _ _ _ S5 (hyes a na)) (fun f s6 hsp => ?_) (fun _ _ z => False.elim z)
    have end_ : ∀ {σ6 : L2.St} {H6 : Hp} {Q : Shared → Prop}, Inv (X.suite a (X.pn ++ pins)) [] σ6 H6 s6 → (∀ s7, Inv X pins (σ6.set i none) H6 s7 → Q s7) →
        wpAny (model X.prog X.w) X.A (do bindName X.env n .none; unbindBehindTheSuite X.env n pos') (fun _ s7 => Q s7) X.xe s6 := fun {σ6 H6 Q} S6 hq => gone_ok (suite_out S6 ok) hN hi hln hq
    match f, hsp with
    | .next, ⟨σ6, H6, S6, q6⟩ => exact end_ S6 fun s7 J7 => ⟨_, _, J7, q6⟩
    | .brk, ⟨σ6, H6, S6, q6⟩ => exact end_ S6 fun s7 J7 => ⟨_, _, J7, q6⟩
    | .cont, ⟨σ6, H6, S6, q6⟩ => exact end_ S6 fun s7 J7 => ⟨_, _, J7, q6⟩
    | .ret u, ⟨v6, σ6, H6, S6, r6, q6⟩ => exact end_ S6 fun s7 J7 => ⟨_, _, _, J7, r6, q6⟩
  · match f, hsp with
    | .next, ⟨σ', H', J', q⟩ => exact wpAny_execs_nil ⟨σ', H', J'.ofTry ok, q⟩
    | .brk, ⟨σ', H', J', q⟩ => exact ⟨σ', H', J'.ofTry ok, q⟩
    | .cont, ⟨σ', H', J', q⟩ => exact ⟨σ', H', J'.ofTry ok, q⟩
    | .ret u, ⟨v, σ', H', J', r, q⟩ => exact ⟨v, σ', H', J'.ofTry ok, r, q⟩
end
end PyI

set_option Elab.async false
set_option linter.all false
set_option maxRecDepth 100000
namespace PyI
open PySem PySem.Spec PyProof.Rows L2 LamX
section
variable {X : Cx} {pins : List (Addr × Obj)} {σ : L2.St} {H HZ : Hp} {s s1 : Shared}
/-- the lambda, called by the def that got it -/
theorem pe_actG {CXg : CXT} {Eg : XK} {Ng : List Str} {qg : Str} {sg : Scope} {g f c' : Addr} {cdg pm ctv : Value} {params : Arguments} {body : Expr} {scope : Scope} {k i : Nat} {a : Str} {pn : List (Addr × Obj)} {xe : Value → Shared → Prop} {Wx : WX} {tb : XK → TE} {p1 p2 : Pos}
    (I : Inv X pins σ H s) (L : LamS X.env.scope scope) (hf : s.heap.get? f = some (PySem.W.kla_obj "<lambda>" (X.env.qual ++ "<lambda>") params body scope (cloFrom X.env.cells scope.names []) pm c' ctv)) (hfn : H f = none) (hfr : f ∉ frs X.stack)
    (hbind : bindArgs (PySem.W.kla_fn "<lambda>" (X.env.qual ++ "<lambda>") params body scope (cloFrom X.env.cells scope.names []) pm (.ref c') ctv) ⟨[], []⟩ = pure [])
    (tk : Takes ((cxOf CXg X.prog X.w X.K X.mg X.base Ng qg sg g cdg X.A X.stack s H Eg).tr pn xe) Wx) (hr : Room (k + 1) (X.A.deeper (envOfC qg sg s.heap.objs.size g cdg))) (hG : X.A.guards = some [])
    (hbody : ∀ (A : Around) (outer : List PySem.Env) (s : Shared) (H : Hp) (E : XK), Room k (A.deeper (lamEnv X scope s.heap.objs.size f c')) → A.guards = some [] → PE (lamCx X A outer s H E scope f c') body (tb E))
    (hN : Ng[i]? = some a) (hv : Vis sg a) (hd : (a == ("__debug__" : Str)) = false) (hcd : (a == ("__classdict__" : Str)) = false) :
    PE ((cxOf CXg X.prog X.w X.K X.mg X.base Ng qg sg g cdg X.A X.stack s H Eg).tr pn xe) (.Call (.Name a p1) [] [] p2)
      (fun σZ HZ Q => ∃ E : XK, (∀ cls d H', E cls d H' → Wx cls d σZ H') ∧ σZ[i]? = some (some (.ref f)) ∧ HZ c' = some (CodeO c' (X.env.qual ++ "<lambda>")) ∧ tb E σ HZ Q) := by
  refine ⟨fun pinsZ sZ σZ HZ Q IZ h => ?_⟩
  obtain ⟨E, hW, hs, hc, ht⟩ := h
  refine wpAny_Call_Name_kw (thn ((pe_var (pos := p1) (i := i) hN hv hd hcd).run pinsZ sZ σZ HZ (fun v H1 => v = .ref f ∧ H1 = HZ) IZ ⟨.ref f, hs, rfl, rfl⟩) fun u s1 ⟨v, H1, I1, r1, ev, eH⟩ => ?_)
  subst ev
  rw [eH] at I1
  obtain rfl : u = Value.ref f := r1
  have of1 : s1.heap.get? f = some (PySem.W.kla_obj "<lambda>" (X.env.qual ++ "<lambda>") params body scope (cloFrom X.env.cells scope.names []) pm c' ctv) := I1.base.keep f _ hf hfn hfr (fun z => nomatch (show f ∈ ([] : List Addr) from z))
  refine PySem.W.callWith_F0 ⟨_, _, _, _, of1⟩ ?_
  have un : Un (frs X.stack) [] H HZ s.heap s1.heap := I1.base
  obtain ⟨⟨oc, vs, t, hoc, hdc, hvc⟩, _, _⟩ := I1.hok c' _ hc
  have rc : codeAny (model X.prog X.w) (X.A.deeper (envOfC qg sg s.heap.objs.size g cdg)) (.call (.ref f) ⟨[], []⟩) (CR (L2.CX X.prog X.w) (envOfC qg sg s.heap.objs.size g cdg :: X.stack) X.prog X.w HZ s1 Q E) s1 := by
    refine PySem.W.kla_callFunE hr.depth of1 rfl L.co L.gen rfl ⟨c', oc, vs, t, rfl, hoc, hdc, hvc⟩ ?_
    rw [hbind]
    refine wpAny_pure (wpAny_newFunctionEnv (fun y hy => (L.own y hy).2) (fun y hy => absurd hy (by simp)) (fun h₁ hns hsb => ⟨I1.nolimit.fresh _ hsb, ?_⟩) L.kind)
    show codeAny _ _ (.expr body (lamEnv X scope s1.heap.objs.size f c')) _ _
    have kp : ∀ b o, s1.heap.get? b = some o → h₁.get? b = some o := fun b o e => hsb.extBut b o (Nat.ne_of_lt (Heap.lt_size e)) (Heap.get?_push_of_some _ e)
    have J : Inv (lamCx X (X.A.deeper (envOfC qg sg s.heap.objs.size g cdg)) (envOfC qg sg s.heap.objs.size g cdg :: X.stack) s1 HZ E scope f c') [] σ HZ { s1 with heap := h₁, toks := s1.toks + ([] : List (Str × Value)).length } :=
      lam_start2 I L I1.env0 hr.hd un hns kp
    refine PySem.W.kla_codeExpr (wpAny_mono ((hbody _ _ s1 HZ E (hr.deeper _) hG).run [] _ _ HZ Q J ht) (fun v s' ⟨w', H', J', rv, q⟩ => ?_) fun e s' hq => hq)
    exact ⟨w', H', J'.os, J'.bare, J'.base, J'.hok, rv, q⟩
  refine wpAny_call (codeAny_mono rc fun r s' hq => ?_)
  match r, hq with
  | .error e, hq => exact tk e s' (XE.of_call I1 (fun cls d H' h => hW cls d H' h) hq)
  | .ok (.ret u), hq => exact I1.after hq
end
def cB (j : Nat) (p1 p2 p3 p4 p5 p6 p7 p8 p9 p10 p11 p12 p13 p14 : Pos) : List Stmt :=
  [.Assign [.Name "caught" p1] (.Constant .none j p2) p3, .Try [.Expr (.Call (.Name "work" p4) [] [] p5) p6] [.ExceptHandler (some (.Name "NetError" p7)) (some "error") [.Assign [.Name "caught" p8] (.Name "error" p9) p10] p11] [] [] p12, .Return (some (.Name "caught" p13)) p14]
def cN : List Str := ["work", "caught", "error"]
/-- what the written part says of it -/
structure CauTxt (K : PySem.W.Frag) (mg : Str → Option Value) (g NE : Addr) (oc : Value) (od : Option Addr) (params : Arguments) (sg : Scope) (dV kV doc pm cdv ct : Value) (an : Option Addr) (osl : Array (Option Value)) (j : Nat) (p1 p2 p3 p4 p5 p6 p7 p8 p9 p10 p11 p12 p13 p14 : Pos) : Prop where
  mgg : mg "_law_caught" = some (.ref g)
  kp : PySem.W.keepIn K (.ref g) = true
  lk : K.lookup g = some ⟨oc, od, .func (PySem.W.fnOf "_law_caught" "_law_caught" params (cB j p1 p2 p3 p4 p5 p6 p7 p8 p9 p10 p11 p12 p13 p14) sg dV kV doc pm an cdv ct), osl⟩
  cd : PySem.W.codeIn K cdv "_law_caught" = true
  bd : L2.Binds K (PySem.W.fnOf "_law_caught" "_law_caught" params (cB j p1 p2 p3 p4 p5 p6 p7 p8 p9 p10 p11 p12 p13 p14) sg dV kV doc pm an cdv ct) ["work"] []
  sc : FnScope cN ["work"] sg
  v0 : sg.names.lookup ("work" : Str) = some .local
  v1 : sg.names.lookup ("caught" : Str) = some .local
  v2 : sg.names.lookup ("error" : Str) = some .local
  gN : sg.names.lookup ("NetError" : Str) = some .globalImplicit
  mN : mg "NetError" = some (.ref NE)
/-- what it makes of the lambda's reading -/
def TTc (K : PySem.W.Frag) (NE : Addr) (tl : XK → Hp → VK → Prop) : Hp → VK → Prop := fun H Q => ∀ Q' : VK, (∀ v H', Q .non H' → Q' v H') →
  tl (fun cls d H' => PySem.W.exmOne K cls (.ref NE) = some true ∧ ∀ a, H' a = none → Q (.ref a) (upd H' a (ExcHO cls d a))) H Q'
section
variable {X : Cx} {K : PySem.W.Frag} {mg : Str → Option Value} {g NE : Addr} {oc : Value} {od : Option Addr} {params : Arguments} {sg : Scope} {dV kV doc pm cdv ct : Value} {an : Option Addr} {osl : Array (Option Value)} {j : Nat} {p1 p2 p3 p4 p5 p6 p7 p8 p9 p10 p11 p12 p13 p14 : Pos}
theorem caught_body {f c' : Addr} {s : Shared} {H : Hp} {Q : VK} {tl : XK → Hp → VK → Prop} {q : Str} (S : CauTxt X.K X.mg g NE oc od params sg dV kV doc pm cdv ct an osl j p1 p2 p3 p4 p5 p6 p7 p8 p9 p10 p11 p12 p13 p14)
    (act : ∀ (Wx : WX) (pn : List (Addr × Obj)) (xe : Value → Shared → Prop), Takes ((cxOf C8.CX0 X.prog X.w X.K X.mg X.base cN "_law_caught" sg g cdv X.A X.stack s H C8.E0).nox.tr pn xe) Wx →
      PE ((cxOf C8.CX0 X.prog X.w X.K X.mg X.base cN "_law_caught" sg g cdv X.A X.stack s H C8.E0).nox.tr pn xe) (.Call (.Name "work" p4) [] [] p5)
        (fun σZ HZ Q => ∃ E : XK, (∀ cls d H', E cls d H' → Wx cls d σZ H') ∧ σZ[0]? = some (some (.ref f)) ∧ HZ c' = some (CodeO c' q) ∧ tl E HZ Q))
    (hc : H c' = some (CodeO c' q)) (h : TTc X.K NE tl H Q) :
    ∃ t, PSs (cxOf C8.CX0 X.prog X.w X.K X.mg X.base cN "_law_caught" sg g cdv X.A X.stack s H C8.E0).nox (cB j p1 p2 p3 p4 p5 p6 p7 p8 p9 p10 p11 p12 p13 p14) t ∧ t { nx := fun _ H' => Q .non H', rt := Q } (L2.start cN [.ref f]) H := by
  refine ⟨_, pss_cons (ps_set (i := 1) S.sc.nd rfl (.inl S.v1) pe_non)
    (pss_cons (ps_try_keep (X := (cxOf C8.CX0 X.prog X.w X.K X.mg X.base cN "_law_caught" sg g cdv X.A X.stack s H C8.E0).nox) (c := .ref NE) (i := 2)
      (tb := fun Wx D σ H => ∃ E : XK, (∀ cls d H', E cls d H' → Wx cls d σ H') ∧ σ[0]? = some (some (.ref f)) ∧ H c' = some (CodeO c' q) ∧ tl E H fun _ H' => D.nx σ H')
      rfl rfl rfl S.sc.nd rfl S.v2 ⟨S.gN, by decide, .inl S.mN⟩
      (fun Wx pn xe tk _ => pss_one (ps_expr (act Wx pn xe tk)))
      (fun a pn => pss_one (ps_set (i := 1) S.sc.nd rfl (.inl S.v1) (pe_var (i := 2) rfl (.inl S.v2) (by decide) (by decide)))))
    (pss_one (ps_ret (pe_var (i := 1) rfl (.inl S.v1) (by decide) (by decide))))), ?_⟩
  exact ⟨_, fun cls d H' ⟨e, k⟩ => ⟨e, fun a na => ⟨.ref a, rfl, .ref a, rfl, k a na⟩⟩, rfl, hc, h _ fun v H' z => ⟨.non, rfl, z⟩⟩
/-- _law_caught(lambda: body) -/
theorem pe_caughtE {W : Wd} {T : List (Addr × Str)} {Φ : Nat → Option Fn} {cf : CF} {XW : WX} {c P : Addr} {k : Nat} {lp : Arguments} {body : Expr} {scope : Scope} {e : Ex} {p lpos pos : Pos} (S : CauTxt X.K X.mg g NE oc od params sg dV kV doc pm cdv ct an osl j p1 p2 p3 p4 p5 p6 p7 p8 p9 p10 p11 p12 p13 p14)
    (hex : ∀ c C, W.ca c = some C → PySem.W.exmOne X.K (.ref C) (.ref NE) = some true) (hg : Gl X "_law_caught") (TB : TabB X.base X.mg c P) (hcode : X.env.code = .ref c) (hmT : (P, X.env.qual ++ "<lambda>") ∈ T) (hu : ∀ p ∈ T, p.1 = P → p.2 = X.env.qual ++ "<lambda>")
    (hr : Room (k + 2) X.A) (hG : X.A.guards = some []) (L : LamS X.env.scope scope) (hdef : defaultsOf lp X.env = ([], []))
    (hbind : ∀ (q : Str) (cl : List (Str × Addr)) (pm cv ctv : Value), bindArgs (PySem.W.kla_fn "<lambda>" q lp body scope cl pm cv ctv) ⟨[], []⟩ = pure [])
    (hbody : ∀ (A : Around) (outer : List PySem.Env) (s : Shared) (H : Hp) (E : XK) (f c' : Addr), Room k (A.deeper (lamEnv X scope s.heap.objs.size f c')) → A.guards = some [] → PE (lamCx X A outer s H E scope f c') body (tE W T Φ cf (fun cls d _ H => E cls d H) e false)) :
    PE X (.Call (.Name "_law_caught" p) [.Lambda lp body scope lpos] [] pos) (tE W T Φ cf XW (.caught e) false) := by
  refine ⟨fun pins s σ H Q I h => ?_⟩
  obtain ⟨δ, Ψ, r, h⟩ := h
  refine wpAny_Call_Name_kw (ld_glob I hg S.mgg ?_ (by decide))
  refine PySem.W.callWith_K (h₀ := X.base) I.ok.mod.kin S.kp ?_ (by rfl) (by rfl)
  show wpAny _ _ (spliced ((false, eval (.Lambda lp body scope lpos) X.env) :: backTo pos (starEach [] X.env))) _ _ s
  refine Calls.spliced_cons (lam_make2 I TB hcode hmT hu r.tb hdef (L.has I.ok) fun f c' pm' ctv H1 s' I1 eN T1 hf hfn hfr hco => ?_)
  refine Calls.spliced_nil ⟨I1.kIn, ?_⟩
  have gr : Grow H H1 := ExtN.grow eN
  have r1 : Rel W T Ψ δ σ H1 := r.grow0 gr T1
  have st1 : Step (sl (Ex.caught e).mods) Ψ H Ψ H1 := gr.step0
  -- the reading
  have hT : TTc X.K NE (fun E H' Q' => tE W T Φ cf (fun cls d _ H => E cls d H) e false σ H' Q') H1 Q := fun Q' hQ' => by
    refine ⟨δ, Ψ, r1, ?_⟩
    simp only [ev] at h
    cases q : ev Φ cf e false δ with
    | bad => rw [q] at h; exact h.elim
    | ok d δ1 =>
      rw [q] at h
      exact fun v H' Ψ' s2 r2 _ => hQ' v H' (h .non H' Ψ' (st1.trans s2) r2 (show V.non = .non from rfl))
    | er x δ1 =>
      rw [q] at h
      intro cls dd H' Ψ' s2 r2 xv
      cases x <;> first | (exact xv.elim) | skip
      rename_i cc fs
      obtain ⟨⟨C, hC, rfl⟩, hv⟩ := xv
      refine ⟨hex _ _ hC, fun a na => ?_⟩
      have sm := same_new (o := ExcHO (.ref C) dd a) na
      have hta : trk (upd H' a (ExcHO (.ref C) dd a)) a := ⟨_, upd_same, fun _ z => by unfold ExcHO at z; cases z⟩
      refine h (.ref a) _ (Ψ'.ext H' (upd H' a (ExcHO (.ref C) dd a))) (st1.trans (s2.trans (Same.grow sm).step)) (r2.same sm) ?_
      show Rep W _ _ _ _
      simp only [Rep]
      refine ⟨a, dd, C, rfl, .inr ⟨not_trk na, hta⟩, hC, upd_same, ?_⟩
      cases fs with
      | nil => exact hv
      | cons y rest =>
        obtain ⟨e1, d, f', u, e2, fd, hd, he, rp⟩ := hv
        exact ⟨e1, d, f', u, e2, .inl fd, sm _ _ hd, he, Rep.stay ((Same.grow sm).stay _) (fun b hb => .inl hb) rp⟩
  have rc : codeAny (model X.prog X.w) X.A (.call (.ref g) ⟨[.ref f], []⟩) (CR C8.CX0 X.stack X.prog X.w H1 s' Q C8.E0) s' := by
    refine run_ofS (N := cN) (ps := ["work"]) (us := [.ref f]) (vs := [.ref f]) S.lk S.cd S.sc hr I1.env0 (S.bd s' [.ref f] I1.kIn rfl) (.cons rfl .nil) rfl fun hr' => ?_
    obtain ⟨t', ht', hq'⟩ := caught_body (q := X.env.qual ++ "<lambda>") S (fun Wx pn xe tk => pe_actG (CXg := C8.CX0) (Eg := C8.E0) (i := 0) I1 L hf hfn hfr (hbind _ _ _ _ _) tk hr' hG (fun A outer s H E hr2 hG2 => hbody A outer s H E f c' hr2 hG2) rfl (.inl S.v0) (by decide) (by decide)) hco hT
    exact ⟨t', ht'.nox, hq'⟩
  refine wpAny_call (codeAny_mono rc fun r s2 hq => ?_)
  match r, hq with
  | .error e, hq => exact (show False from hq).elim
  | .ok (.ret u), hq => exact I1.after hq
end
end PyI

set_option Elab.async false
set_option linter.all false
set_option maxRecDepth 100000
namespace PyI
open PySem PySem.Spec PyProof.Rows L2 LamX
/-- a context in which bodies run: k, the room -/
structure Gd (W : Wd) (X : Cx) (XW : WX) (k : Nat) : Prop where
  hK : W.K = X.K
  hr : Room k X.A
  hG : X.A.guards = some []
  hc : X.calm = true
  tk : Takes X XW
  hp : PassesOwn (model X.prog X.w) X.A X.env X.xe
  nd : X.N.Nodup
section
variable {W : Wd} {T : List (Addr × Str)} {Φ : Nat → Option Fn} {cf : CF} {XW : WX} {X : Cx} {k : Nat}
theorem Gd.hu (G : Gd W X XW k) : X.A.units + 65 < cLine := by have := G.hr.un; omega
theorem Gd.hu1 (G : Gd W X XW k) : X.A.units + 1 < cLine := by have := G.hr.un; omega
theorem Gd.dp (G : Gd W X XW k) : X.A.depth + 1 < recursionLimit := by have := G.hr.dp; omega
theorem Gd.blk (G : Gd W X XW k) {s : Shared} {H : Hp} {scope : Scope} {cenv : PySem.Env} {fp : List Addr} : Gd W (X.blk s H scope cenv fp) noX k :=
  ⟨G.hK, G.hr, G.hG, G.hc, L2.takes0, PassesOwn.never, G.nd⟩
theorem Gd.lam {j : Nat} (G : Gd W X XW k) {A : Around} {outer : List PySem.Env} {s : Shared} {H : Hp} {E : XK} {scope : Scope} {f c' : Addr} (hr : Room j (A.deeper (lamEnv X scope s.heap.objs.size f c'))) (hG : A.guards = some []) :
    Gd W (lamCx X A outer s H E scope f c') (fun cls d _ H => E cls d H) j :=
  ⟨G.hK, hr, hG, rfl, takes_of rfl rfl rfl rfl, passes_of rfl, G.nd⟩
theorem Gd.of {P : Program} {w : World} {K : PySem.W.Frag} {mg : Str → Option Value} {base : Heap} {N : List Str} {qual : Str} {scope : Scope} {f : Addr} {cd : Value} {A : Around} {outer : List PySem.Env} {s : Shared} {H : Hp} {E : XK}
    (hK : W.K = K) (hr : Room k (A.deeper (envOfC qual scope s.heap.objs.size f cd))) (hG : (A.deeper (envOfC qual scope s.heap.objs.size f cd)).guards = some []) (nd : N.Nodup) :
    Gd W (cxOf (L2.CX P w) P w K mg base N qual scope f cd A outer s H E) (fun cls d _ H => E cls d H) k :=
  ⟨hK, hr, hG, rfl, takes_of rfl rfl rfl rfl, passes_of rfl, nd⟩
end
/-- a def of the module -/
structure DefF (K : PySem.W.Frag) (mg : Str → Option Value) (x : Str) (ps : List Str) (args : Arguments) (body : List Stmt) (sc : Scope) (cdv : Value) : Prop where
  ex : ∃ (f : Addr) (oc kV doc pm ct : Value) (od an : Option Addr) (osl : Array (Option Value)), mg x = some (.ref f) ∧ PySem.W.keepIn K (.ref f) = true ∧
    K.lookup f = some ⟨oc, od, .func (PySem.W.fnOf x x args body sc .none kV doc pm an cdv ct), osl⟩ ∧ PySem.W.codeIn K cdv x = true ∧ L2.Binds K (PySem.W.fnOf x x args body sc .none kV doc pm an cdv ct) ps []
/-- the def x, numbered i, as it may be called -/
structure Cal (P : Program) (w : World) (K : PySem.W.Frag) (mg : Str → Option Value) (base : Heap) (W : Wd) (T : List (Addr × Str)) (Φ : Nat → Option Fn) (cf : CF) (k : Nat) (i : Nat) (x : Str) : Prop where
  ex : ∃ (f : Addr) (fd : FuncData) (ps : List Str), FnG P w K mg base k f fd ps (spF W T Φ cf i) ∧ mg x = some (.ref f) ∧ PySem.W.keepIn K (.ref f) = true ∧ L2.Binds K fd ps []
section
variable {P : Program} {w : World} {K : PySem.W.Frag} {mg : Str → Option Value} {base : Heap} {W : Wd} {T : List (Addr × Str)} {Φ : Nat → Option Fn}
theorem cal_zero {x : Str} {ps : List Str} {args : Arguments} {body : List Stmt} {sc : Scope} {cdv : Value} {k i : Nat} (D : DefF K mg x ps args body sc cdv) : Cal P w K mg base W T Φ (callF Φ 0) k i x := by
  obtain ⟨f, oc, kV, doc, pm, ct, od, an, osl, h1, h2, h3, h4, h5⟩ := D.ex
  exact ⟨f, _, ps, ⟨fun _ _ _ _ z => (spF_zero z).elim, fun _ _ _ _ _ _ _ _ _ _ _ _ _ _ z => (spF_zero z).elim⟩, h1, h2, h5⟩
theorem cal_succ {x : Str} {N ps : List Str} {args : Arguments} {body : List Stmt} {sc : Scope} {cdv : Value} {k i n : Nat} {fn : Fn} (D : DefF K mg x ps args body sc cdv) (hf : Φ i = some fn) (S : FnScope N ps sc) (hps : fn.ow.length = ps.length) (hN : N.length = fn.sz)
    (hb : ∀ (f : Addr) (A : Around) (outer : List PySem.Env) (s : Shared) (H : Hp) (E : XK), Room k (A.deeper (envOfC x sc s.heap.objs.size f cdv)) → (A.deeper (envOfC x sc s.heap.objs.size f cdv)).guards = some [] →
      PSs (cxOf (L2.CX P w) P w K mg base N x sc f cdv A outer s H E) body (tSs W T Φ (callF Φ n) (fun cls d _ H => E cls d H) fn.ro (kpOf fn) fn.body)) : Cal P w K mg base W T Φ (callF Φ (n + 1)) (k + 1) i x := by
  obtain ⟨f, oc, kV, doc, pm, ct, od, an, osl, h1, h2, h3, h4, h5⟩ := D.ex
  refine ⟨f, _, ps, fnG_of h3 h4 S (fun vs H Q E h => (spF_len hf h).trans hps) (fun A outer s H vs Q E hr hG h => ⟨_, hb f A outer s H E hr hG, ?_⟩), h1, h2, h5⟩
  rw [startS_eq hN]
  exact sp_body hf h
end
section
variable {W : Wd} {T : List (Addr × Str)} {Φ : Nat → Option Fn} {cf : CF} {XW : WX} {X : Cx} {k k' : Nat} {o : Bool} {p1 pos : Pos}
theorem evalArgs_any {M : Model} {A : Around} {E : Value → Shared → Prop} {s : Shared} {f : Value} {Q : Args → Shared → Prop} {env : PySem.Env} {xs : List Expr} (hp : (backTo pos (starEach xs env)).any (·.1) = false)
    (h : wpAny M A (spliced (backTo pos (starEach xs env))) (fun vs s' => Q ⟨vs, []⟩ s') E s) : wpAny M A (evalArgs f true (backTo pos (starEach xs env)) []) Q E s := by
  cases e : backTo pos (starEach xs env) with
  | nil =>
    rw [e] at h
    unfold evalArgs
    refine wpAny_bind (wpAny_mono h (fun vs s' h' => ?_) fun _ _ x => x)
    exact wpAny_holding (wpAny_bind (wpAny_pure (wpAny_bind (wpAny_pure (wpAny_pure h')))))
  | cons y ys =>
    rw [e] at h hp
    obtain ⟨b, y⟩ := y
    cases b with
    | true => simp at hp
    | false => exact Calls.evalArgs_plain h
/-- x(..) -/
theorem pe_callE (G : Gd W X XW k') {i : Nat} {x : Str} (C : Cal X.prog X.w X.K X.mg X.base W T Φ cf k i x) (hk : k ≤ k') (hg : Gl X x) (hdb : (x == ("__debug__" : Str)) = false) {es : As} {xs : List Expr} (hB : ∀ i ∈ es.bors, i ∉ es.roots) (hN : es.roots.Nodup) (hbor : es.hasBor = false → es.bors = [])
    (ha : PA X xs (tAs W T Φ cf XW es)) (hpl : (backTo pos (starEach xs X.env)).any (·.1) = false) : PE X (.Call (.Name x p1) xs [] pos) (tE W T Φ cf XW (.call i es) o) := by
  obtain ⟨f, fd, ps, F, h1, h2, h3⟩ := C.ex
  refine (pe_callG F (G.hr.mono hk) G.hG hg h1 h2 h3 (fun σ => passAt G.tk σ) ha hdb fun {Q s} hs h => ?_).weak fun σ H Q h => te_call hB hN hbor h
  exact PySem.W.callWith_of (by rw [hpl]; rfl) (PySem.W.keeps_K h2) (evalArgs_any hpl h)
end
end PyI

set_option Elab.async false
set_option linter.all false
set_option maxRecDepth 100000
namespace PyI
open PySem PySem.Spec PyProof.Rows L2 LamX
theorem cx_none {P : Program} {w : World} {H : Hp} {s s' : Shared} {e : Value} {Q : Prop} (h : L2.CX P w [] H s (fun _ _ _ => False) e s') : Q := by
  obtain ⟨_, _, _, _, _, _, _, _, _, _, _, _, z⟩ := h
  exact z.elim
theorem law_callG {P : Program} {w : World} {K : PySem.W.Frag} {mg mb : Str → Option Value} {k : Nat} {fa a : Addr} {cs : List (Addr × Addr)} {fd : FuncData} {x : Str} {sp : Sp} {s₁ : Shared} {vs : List Value} {ns : List Int}
    (KX : K.In s₁.heap) (hns : s₁.heap.Ns mainGlobals mg) (hb : s₁.heap.Ns builtinsNs mb) (hbb : ∀ x : Str, x ≠ "__name__" → mb x = bootBuiltins x) (hlim : s₁.heap.NoLimit) (hg : s₁.gens = #[])
    (hT : ∀ p ∈ cs, s₁.heap.get? p.2 = some { cls := .none, data := .fields #[] }) (nT : ∀ p ∈ cs, K.lookup p.2 = none) (C : ∀ p ∈ cs, PySem.W.CodeHd s₁.heap p.1 p.2)
    (hbm : ∃ (bm : Addr) (ob : Obj), mg "__builtins__" = some (.ref bm) ∧ bm ≠ builtinsNs ∧ s₁.heap.get? bm = some ob ∧ ob.cls = .type "module" ∧ ob.dict = some builtinsNs ∧ ob.data = .plain)
    (ha : s₁.heap.get? a = some { cls := .type "list", data := .seq vs.toArray }) (hi : IntsAre vs ns) (hl : ns.length ≤ sizeLine) (hr : Room k callerA)
    (F : ∀ base : Heap, K.In base → base.Ns mainGlobals mg → (∀ p ∈ cs, TabB base mg p.1 p.2) → FnG P w K mg base k fa fd [x] sp) (hbind : ∀ (s : Shared) (u : Value), BindsTo s fd ⟨[u], []⟩ [(x, u)])
    (hsp : ∀ H : Hp, (∀ p ∈ cs, H p.2 = some (.tbl #[])) → ScrAt K H a (ns.map V.int) → sp [.ref a] H (fun v _ => v = .bl true) fun _ _ _ => False)
    :
    codeAny (model P w) callerA (.call (.ref fa) ⟨[.ref a], []⟩) (fun r s' => r = .ok (.ret (.bool true)) ∧ OldK s₁.heap s'.heap ∧ s'.os = s₁.os ∧ AllBare s'.gens) s₁ := by
  have rv := vals_ints hi
  have lenV := hi.length
  have isT : ∀ b : Addr, b ∈ cs.map (·.2) → s₁.heap.get? b = some { cls := .none, data := .fields #[] } := fun b hb => by
    obtain ⟨p, hp, e⟩ := List.mem_map.mp hb
    rw [← e]
    exact hT p hp
  have aT : a ∉ cs.map (·.2) := fun z => by
    have q := isT a z
    rw [ha] at q
    have z' : Data.seq vs.toArray _ = Data.fields #[] := congrArg Obj.data (Option.some.inj q)
    cases z'
  have memT : ∀ p ∈ cs, p.2 ∈ cs.map (·.2) := fun p hp => List.mem_map.mpr ⟨p, hp, rfl⟩
  -- from an abstract heap in which nothing but the script and the tables may be tracked
  have core : ∀ H : Hp, (∀ p ∈ cs, H p.2 = some (.tbl #[])) → (∀ b, H b = none ∨ b ∈ cs.map (·.2) ∨ ∃ o xs, H b = some (.frz o (.lst xs))) → ScrAt K H a (ns.map V.int) → HOk P w H s₁.heap → (∀ b, H b ≠ none → b = a ∨ b ∈ cs.map (·.2)) → (H a ≠ none → K.lookup a = none) →
      codeAny (model P w) callerA (.call (.ref fa) ⟨[.ref a], []⟩) (fun r s' => r = .ok (.ret (.bool true)) ∧ OldK s₁.heap s'.heap ∧ s'.os = s₁.os ∧ AllBare s'.gens) s₁ := by
    intro H hH hO hS hok hA hK
    have base_of : ∀ {b : Addr} {o : Obj}, s₁.heap.get? b = some o → H b = none → (hidT s₁.heap H).get? b = some o := fun e n => hidT_get e n
    have noD : ∀ {b : Addr} {o : Obj}, s₁.heap.get? b = some o → (∀ vs n, o.data ≠ .seq vs n) → o.data ≠ .fields #[] → H b = none := fun {b o} e h1 h2 => by
      cases q : H b with
      | none => rfl
      | some u =>
        rcases hA b (by rw [q]; simp) with e' | e'
        · rw [e', ha] at e
          cases e
          exact (h1 _ _ rfl).elim
        · rw [isT b e'] at e
          cases e
          exact (h2 rfl).elim
    have noA : ∀ {b : Addr} {o : Obj} {es : Array DictEntry} {ep : Nat}, s₁.heap.get? b = some o → o.data = .dict es ep → H b = none := fun {b o es ep} e d => by
      refine noD e (fun vs n z => ?_) fun z => ?_
      · rw [d] at z
        cases z
      · rw [d] at z
        cases z
    have nsK : ∀ {b : Addr} {m : Str → Option Value}, s₁.heap.Ns b m → (hidT s₁.heap H).Ns b m := fun {b m} ⟨o, es, ep, e, d, r⟩ => ⟨o, es, ep, base_of e (noA e d), d, r⟩
    have hKb : K.In (hidT s₁.heap H) := fun b o e => base_of (KX b o e) (by
      cases q : H b with
      | none => rfl
      | some u =>
        rcases hA b (by rw [q]; simp) with e' | e'
        · rw [e'] at e q
          rw [hK (by rw [q]; simp)] at e
          cases e
        · obtain ⟨p, hp, ep⟩ := List.mem_map.mp e'
          rw [← ep, nT p hp] at e
          cases e)
    have hM : L2.Mod K mg (hidT s₁.heap H) := ⟨hKb, nsK hns, ⟨mb, nsK hb, hbb⟩, let ⟨mc, h1, h2⟩ := hlim; ⟨mc, nsK h1, h2⟩⟩
    have TB : ∀ p ∈ cs, TabB (hidT s₁.heap H) mg p.1 p.2 := fun p hp => by
      have hTp := hT p hp
      refine ⟨?_, ?_, fun z => ?_⟩
      · obtain ⟨o, us, file, tf, flags, tg, inF, text, tt, e1, r1, r2, r3, r4, r5, r6, r7, r8, hne⟩ := C p hp
        refine ⟨o, us, file, tf, flags, tg, inF, text, tt, base_of e1 (noD e1 (fun vs n z => ?_) fun z => ?_), r1, r2, r3, r4, r5, r6, r7, r8, hne⟩
        · rw [r2] at z
          cases z
        · rw [r2] at z
          cases z
          simp at r3
      · obtain ⟨bm, ob, b1, b2, b3, b4, b5, b6⟩ := hbm
        have nG : bm ≠ mainGlobals := fun q => by
          obtain ⟨o, es, ep, e, hd, _⟩ := hns
          rw [q, e] at b3
          cases b3
          rw [hd] at b6
          cases b6
        have nP : bm ≠ p.2 := fun q => by
          rw [q, hTp] at b3
          cases b3
          cases b6
        refine ⟨bm, ob, b1, b2, nG, nP, base_of b3 (noD b3 (fun vs n z => ?_) fun z => ?_), b4, b5, b6⟩
        · rw [b6] at z
          cases z
        · rw [b6] at z
          cases z
      · obtain ⟨o, es, ep, e, hd, _⟩ := hns
        rw [z, hTp] at e
        cases e
        cases hd
    have e0 : Env0 P w K mg (hidT s₁.heap H) callerA [] s₁ H := ⟨rfl, hM, fun b o e => of_hidT e, Nat.le_of_eq (hidT_size _ _), trivial, fun b hb => absurd (show b ∈ ([] : List Addr) from hb) (by simp), hok, .of_eq hg⟩
    refine codeAny_mono ((F _ hKb (nsK hns) TB).run callerA [] s₁ H ⟨[.ref a], []⟩ [.ref a] [.ref a] _ _ hr rfl e0 (hbind s₁ (.ref a)) (.cons rfl .nil) (hsp H hH hS)) fun r s' h => ?_
    cases r with
    | error e => exact cx_none h
    | ok fl =>
      cases fl with
      | next => exact False.elim h
      | brk => exact False.elim h
      | cont => exact False.elim h
      | ret u =>
        obtain ⟨v, H', os, bare, un, hok', r', q⟩ := h
        have q' : v = .bl true := q
        subst q'
        obtain rfl : u = Value.bool true := r'
        have key : ∀ b o, b ∉ cs.map (·.2) → s₁.heap.get? b = some o → s'.heap.get? b = some o := fun b o nb e => by
          cases q : H b with
          | none => exact un.keep b o e q (by intro z; exact absurd (show b ∈ ([] : List Addr) from z) (by simp)) (by simp)
          | some u =>
            rcases hO b with z | z | ⟨ob, xs, z⟩
            · rw [q] at z; cases z
            · exact absurd z nb
            · have z2 := un.frzs b ob _ z
              obtain ⟨e1, _⟩ := hok b _ z
              obtain ⟨e2, _⟩ := hok' b _ z2
              rw [e] at e1; cases e1
              exact e2
        have grown : ∀ p ∈ cs, ∃ more : Array Value, s'.heap.get? p.2 = some { cls := .none, data := .fields more } := fun p hp => by
          obtain ⟨more, z⟩ := un.tbls p.2 #[] (hH p hp)
          exact ⟨_, hok' p.2 _ z⟩
        refine ⟨rfl, ⟨fun b o e => ?_, fun b o e => ?_⟩, os, bare⟩
        · by_cases hb : b ∈ cs.map (·.2)
          · obtain ⟨p, hp, ep⟩ := List.mem_map.mp hb
            obtain ⟨more, hm⟩ := grown p hp
            rw [← ep] at e ⊢
            rw [hT p hp] at e
            cases e
            exact .inr (.inl ⟨((C p hp).tab (hT p hp)).isCodeTable, rfl, #[], more, rfl, by rw [Array.empty_append]; exact hm⟩)
          · exact .inl (key b o hb e)
        · by_cases hb : b ∈ cs.map (·.2)
          · obtain ⟨p, hp, ep⟩ := List.mem_map.mp hb
            obtain ⟨more, hm⟩ := grown p hp
            rw [← ep]
            exact ⟨_, hm⟩
          · exact ⟨o, key b o hb e⟩
  cases hk : K.lookup a with
  | some o =>
    have e := KX a o hk
    rw [ha] at e
    cases e
    refine core (fun b => if b ∈ cs.map (·.2) then some (.tbl #[]) else none) (fun p hp => if_pos (memT p hp)) (fun b => ?_) (.inr ⟨_, vs.toArray, _, hk, rfl, rfl, rfl, by rw [List.size_toArray, lenV]; exact hl, by simpa using rv⟩) (fun b u z => ?_) (fun b z => ?_) fun z => absurd (show (if a ∈ cs.map (·.2) then some (HO.tbl #[]) else none) = none from if_neg aT) z
    · by_cases hb : b ∈ cs.map (·.2)
      · exact .inr (.inl hb)
      · exact .inl (if_neg hb)
    · by_cases hb : b ∈ cs.map (·.2)
      · have z' := (if_pos hb).symm.trans z
        cases z'
        exact isT b hb
      · have z' := (if_neg hb).symm.trans z
        cases z'
    · by_cases hb : b ∈ cs.map (·.2)
      · exact .inr hb
      · exact absurd (if_neg hb) z
  | none =>
    refine core (fun b => if b = a then some (.frz { cls := .type "list", data := .seq vs.toArray } (.lst (ns.map V.int))) else if b ∈ cs.map (·.2) then some (.tbl #[]) else none) (fun p hp => (if_neg (show ¬ p.2 = a from fun z => aT (by rw [← z]; exact memT p hp))).trans (if_pos (memT p hp))) (fun b => ?_)
      (.inl ⟨{ cls := .type "list", data := .seq vs.toArray }, if_pos rfl⟩) (fun b u z => ?_) (fun b z => ?_) fun _ => hk
    · by_cases hb : b = a
      · exact .inr (.inr ⟨_, _, if_pos hb⟩)
      · by_cases hb2 : b ∈ cs.map (·.2)
        · exact .inr (.inl hb2)
        · exact .inl ((if_neg hb).trans (if_neg hb2))
    · by_cases hb : b = a
      · have z' := (if_pos hb).symm.trans z
        cases z'
        rw [hb]
        exact ⟨ha, by rw [List.length_map]; exact hl, vs, _, rv, ha⟩
      · have z1 := (if_neg hb).symm.trans z
        by_cases hb2 : b ∈ cs.map (·.2)
        · have z' := (if_pos hb2).symm.trans z1
          cases z'
          exact isT b hb2
        · have z' := (if_neg hb2).symm.trans z1
          cases z'
    · by_cases hb : b = a
      · exact .inl hb
      · by_cases hb2 : b ∈ cs.map (·.2)
        · exact .inr hb2
        · exact absurd ((if_neg hb).trans (if_neg hb2)) z

/-- what is known of the law's promise at the head's heap h -/
def LawG (l : PySem.W.OpenLaw) (w : World) (K : PySem.W.Frag) (k n : Nat) (x : Str) (mg : Str → Option Value) (fa : Addr) (h : Heap) : Prop :=
  ∃ (fd : FuncData) (cs : List (Addr × Addr)) (sp : Sp), (∀ p ∈ cs, h.get? p.2 = some { cls := .none, data := .fields #[] }) ∧ (∀ p ∈ cs, K.lookup p.2 = none) ∧ (∀ p ∈ cs, PySem.W.CodeHd h p.1 p.2) ∧ (∀ (s : Shared) (u : Value), BindsTo s fd ⟨[u], []⟩ [(x, u)]) ∧
    (∀ (H : Hp) (a : Addr) (ns : List Int), ns.length ≤ n → (∀ z ∈ ns, Builtin.Int.intBits z ≤ 1048576) → (∀ p ∈ cs, H p.2 = some (.tbl #[])) → ScrAt K H a (ns.map V.int) → sp [.ref a] H (fun v _ => v = .bl true) fun _ _ _ => False) ∧
    ∀ base : Heap, K.In base → base.Ns mainGlobals mg → (∀ p ∈ cs, TabB base mg p.1 p.2) → FnG l.prog w K mg base k fa fd [x] sp
theorem walk_ofG {l : PySem.W.OpenLaw} {n k : Nat} {q : Program} {loose : List Str} {XP : (Str → Option Value) → Heap → Prop} {YP : World → Heap → Prop} {d : DefRec} {K : Params → PySem.W.Frag} {x : Str}
    (hn : l.most = some n) (hn2 : n ≤ sizeLine) (hdf : d.params.defaults = []) (hr : Room k callerA) (hY : ∀ (w : World) (h : Heap), YP w h → (K w.params).In h)
    (F : ∀ (w : World) (mg : Str → Option Value) (fa : Addr) (h : Heap), YP w h → (K w.params).In h → h.Ns mainGlobals mg → mg d.name = some (.ref fa) → LawG l w (K w.params) k n x mg fa h) :
    PySem.W.WalkO q loose XP YP l.row.toRowW d [] (fun f vs => PySem.call f vs) := by
  refine Att.attach_callB hn hdf fun w s₀ s₁ mg mb fa o pm cd doc a vs ns G Y ho hd hcd hmg hobj hints hlen hbits hg => ?_
  have KX := hY w _ Y
  obtain ⟨fd, cs, sp, hT, nT, C, hb, hsp, hF⟩ := F w mg fa _ Y KX G.T.g hmg
  exact law_callG KX G.T.g G.T.b G.T.builtins G.T.nolimit hg hT nT C G.T.bmain hobj hints (Nat.le_trans hlen hn2) hr hF hb fun H hH hS => hsp H a ns hlen hbits hH hS
/-- the law's promise, from what its mirror tells -/
theorem sp_law {W : Wd} {T : List (Addr × Str)} {Φ : Nat → Option Fn} {n i : Nat} {fn : Fn} {H : Hp} {a : Addr} {ns : List Int} {E : XK} (hf : Φ i = some fn) (ho : fn.ow = [false]) (hro : fn.ro = false) (hT : Tabs T H) (hS : ScrAt W.K H a (ns.map V.int)) (hl : ns.length ≤ sizeLine)
    (hv : callF Φ n i [.scr ns] = .rt (.bl true) []) : spF W T Φ (callF Φ n) i [.ref a] H (fun v _ => v = .bl true) E := by
  have sl : ∀ j, slot (startE fn [.scr ns]) j = if j = 0 then some (.sh (.scr ns)) else none := fun j => by
    rw [slot_start (by rw [ho]; rfl), ho]
    rcases j with _ | j <;> simp
  refine ⟨fn, [.scr ns], ⟨fun _ => False, fun _ => []⟩, hf, by rw [ho]; rfl, by rw [ho]; rfl, ⟨?_, fun j d e => ?_, fun j d e => ?_, fun _ _ => rfl, fun _ z => z.elim, fun _ _ z => absurd z List.not_mem_nil, fun _ _ _ _ z => absurd z List.not_mem_nil, hT⟩, ?_⟩
  · unfold startE startS
    rw [ho]
    simp
  · rw [sl] at e
    split at e
    · rename_i h0
      cases e
      subst h0
      refine ⟨.ref a, rfl, ?_⟩
      simp only [Rep]
      exact ⟨a, rfl, hS, hl⟩
    · cases e
  · rw [sl] at e
    split at e <;> cases e
  · rw [hv]
    intro v H' Ψ' δ' σ' _ _ _ _ p
    rw [hro] at p
    have p : Rep W H' Ψ'.fs (.bl true) v := p
    simpa only [Rep] using p
end PyI

set_option Elab.async false
set_option linter.all false
set_option maxRecDepth 100000
namespace PyI
open PySem PySem.Spec PyProof.Rows L2 LamX
def argsSt : Stmt → Arguments
  | .FunctionDef _ a _ _ _ _ _ _ _ _ => a
  | _ => { posonlyargs := [], args := [], vararg := none, kwonlyargs := [], kw_defaults := [], kwarg := none, defaults := [] }
def bodySt : Stmt → List Stmt
  | .FunctionDef _ _ b _ _ _ _ _ _ _ => b
  | _ => []
def scopeSt : Stmt → Scope
  | .FunctionDef _ _ _ _ _ _ sc _ _ _ => sc
  | _ => { kind := .function, names := [], isGenerator := false, isCoroutine := false }
section
variable {W : Wd} {T : List (Addr × Str)} {Φ : Nat → Option Fn} {cf : CF} {XW : WX} {X : Cx} {k : Nat} {o : Bool} {p1 p2 p3 pos : Pos} {x : Str} {e : Expr} {es : List Expr} {is : Exs} {σ : L2.St} {H : Hp} {j : Nat}
theorem r_str {cs : List Nat} (h : x = strV cs) (hl : cs.length ≤ sizeLine) : PE X (.Constant (.str x) j pos) (tE W T Φ cf XW (.cst (.str cs)) o) := by
  subst h
  exact pe_of_c rfl (fast_str hl) pe_str
theorem r_int {i : Int} : PE X (.Constant (.int i) j pos) (tE W T Φ cf XW (.cst (.int i)) o) := pe_of_c rfl (fast_int i) pe_int
theorem r_bl {b : Bool} : PE X (.Constant (.bool b) j pos) (tE W T Φ cf XW (.cst (.bl b)) o) := pe_of_c rfl (fast_bl b) pe_bl
theorem r_non : PE X (.Constant .none j pos) (tE W T Φ cf XW (.cst .non) o) := pe_of_c rfl fast_non pe_non
theorem r_var (i : Nat) (hN : X.N[i]? = some x) (hv : Vis X.env.scope x) (hd : (x == ("__debug__" : Str)) = false) (hcd : (x == ("__classdict__" : Str)) = false) : PE X (.Name x pos) (tE W T Φ cf XW (.var i) o) := pe_varE (pe_var hN hv hd hcd)
theorem key_str {cs : List Nat} (h : x = strV cs) : PE X (.Constant (.str x) j pos) (tKey (.cst (.str cs))) := by
  subst h
  exact key_cst rfl pe_str
theorem r_glb {d : D} (hi : d.imm = true) (h : ∃ u v, (X.mg x = some u ∧ RelV v u) ∧ Fast W d v) (hg : Gl X x) (hd : (x == ("__debug__" : Str)) = false) : PE X (.Name x pos) (tE W T Φ cf XW (.cst d) o) := by
  obtain ⟨u, v, ⟨hm, r⟩, hf⟩ := h
  exact pe_of_c hi hf (pe_glob hg hm r hd)
theorem tyA_str (hg : Gl X "str") (hm : X.mg "str" = none) : TyA X W (.Name "str" pos) [.str] := .one (.bi .str rfl) (pe_bltn (u := .type "str") hg hm (by decide +kernel) (by first | rfl | exact ⟨_, rfl⟩ | trivial))
theorem tyA_int (hg : Gl X "int") (hm : X.mg "int" = none) : TyA X W (.Name "int" pos) [.int] := .one (.bi .int rfl) (pe_bltn (u := .type "int") hg hm (by decide +kernel) (by first | rfl | exact ⟨_, rfl⟩ | trivial))
theorem tyA_bool (hg : Gl X "bool") (hm : X.mg "bool" = none) : TyA X W (.Name "bool" pos) [.bool] := .one (.bi .bool rfl) (pe_bltn (u := .type "bool") hg hm (by decide +kernel) (by first | rfl | exact ⟨_, rfl⟩ | trivial))
theorem tyA_tuple (hg : Gl X "tuple") (hm : X.mg "tuple" = none) : TyA X W (.Name "tuple" pos) [.tup] := .one (.bi .tup rfl) (pe_bltn (u := .type "tuple") hg hm (by decide +kernel) (by first | rfl | exact ⟨_, rfl⟩ | trivial))
theorem tyA_list (hg : Gl X "list") (hm : X.mg "list" = none) : TyA X W (.Name "list" pos) [.lst] := .one (.bi .lst rfl) (pe_bltn (u := .type "list") hg hm (by decide +kernel) (by first | rfl | exact ⟨_, rfl⟩ | trivial))
theorem tyA_dict (hg : Gl X "dict") (hm : X.mg "dict" = none) : TyA X W (.Name "dict" pos) [.dct] := .one (.bi .dct rfl) (pe_bltn (u := .type "dict") hg hm (by decide +kernel) (by first | rfl | exact ⟨_, rfl⟩ | trivial))
theorem r_biB {b : Bi} {id : String} (hc : CallR X (.builtin id) (rN W (biS b) b.fresh)) (hv : bootBuiltins x = some (.builtin id)) (hn : x ≠ "__name__") (hdb : (x == ("__debug__" : Str)) = false) (hg : Gl X x) (hm : X.mg x = none) (ha : PA X (e :: es) (tEs W T Φ cf XW is false))
    (he : starEach (e :: es) X.env = (false, eval e X.env) :: starEach es X.env) (hpl : (backTo pos (starEach es X.env)).any (·.1) = false) : PE X (.Call (.Name x p1) (e :: es) [] pos) (tE W T Φ cf XW (.bi b is) o) :=
  (pe_callB hc hg hm hv ha hn hdb he hpl).weak fun σ H Q h => pe_bi b (xs := []) rfl (fun σ H Q h => h) σ H Q h
theorem r_biT {b : Bi} {id : String} (hc : CallR X (.type id) (rN W (biS b) b.fresh)) (hv : bootBuiltins x = some (.type id)) (hn : x ≠ "__name__") (hdb : (x == ("__debug__" : Str)) = false) (hg : Gl X x) (hm : X.mg x = none) (ha : PA X (e :: es) (tEs W T Φ cf XW is false))
    (he : starEach (e :: es) X.env = (false, eval e X.env) :: starEach es X.env) (hpl : (backTo pos (starEach es X.env)).any (·.1) = false) : PE X (.Call (.Name x p1) (e :: es) [] pos) (tE W T Φ cf XW (.bi b is) o) :=
  (pe_callTy hc hg hm hv ha hn hdb he hpl).weak fun σ H Q h => pe_bi b (xs := []) rfl (fun σ H Q h => h) σ H Q h

theorem r_blen (G : Gd W X XW k) (hg : Gl X "len") (hm : X.mg "len" = none) (ha : PA X (e :: es) (tEs W T Φ cf XW is false)) (he : starEach (e :: es) X.env = (false, eval e X.env) :: starEach es X.env) (hpl : (backTo pos (starEach es X.env)).any (·.1) = false) : PE X (.Call (.Name "len" p1) (e :: es) [] pos) (tE W T Φ cf XW (.bi .len is) o) :=
  r_biB (call_len1 G.hK) (by decide +kernel) (by decide) (by decide) hg hm ha he hpl

theorem r_bsorted (G : Gd W X XW k) (hg : Gl X "sorted") (hm : X.mg "sorted" = none) (ha : PA X (e :: es) (tEs W T Φ cf XW is false)) (he : starEach (e :: es) X.env = (false, eval e X.env) :: starEach es X.env) (hpl : (backTo pos (starEach es X.env)).any (·.1) = false) : PE X (.Call (.Name "sorted" p1) (e :: es) [] pos) (tE W T Φ cf XW (.bi .sorted is) o) :=
  r_biB (call_sorted1 G.hK) (by decide +kernel) (by decide) (by decide) hg hm ha he hpl

theorem r_bsum (G : Gd W X XW k) (hg : Gl X "sum") (hm : X.mg "sum" = none) (ha : PA X (e :: es) (tEs W T Φ cf XW is false)) (he : starEach (e :: es) X.env = (false, eval e X.env) :: starEach es X.env) (hpl : (backTo pos (starEach es X.env)).any (·.1) = false) : PE X (.Call (.Name "sum" p1) (e :: es) [] pos) (tE W T Φ cf XW (.bi .sum is) o) :=
  r_biB (call_sum1 G.hc) (by decide +kernel) (by decide) (by decide) hg hm ha he hpl

theorem r_bmax2 (G : Gd W X XW k) (hg : Gl X "max") (hm : X.mg "max" = none) (ha : PA X (e :: es) (tEs W T Φ cf XW is false)) (he : starEach (e :: es) X.env = (false, eval e X.env) :: starEach es X.env) (hpl : (backTo pos (starEach es X.env)).any (·.1) = false) : PE X (.Call (.Name "max" p1) (e :: es) [] pos) (tE W T Φ cf XW (.bi .max2 is) o) :=
  r_biB (call_max2D G.hc) (by decide +kernel) (by decide) (by decide) hg hm ha he hpl

theorem r_bmin2 (G : Gd W X XW k) (hg : Gl X "min") (hm : X.mg "min" = none) (ha : PA X (e :: es) (tEs W T Φ cf XW is false)) (he : starEach (e :: es) X.env = (false, eval e X.env) :: starEach es X.env) (hpl : (backTo pos (starEach es X.env)).any (·.1) = false) : PE X (.Call (.Name "min" p1) (e :: es) [] pos) (tE W T Φ cf XW (.bi .min2 is) o) :=
  r_biB (call_min2D G.hc) (by decide +kernel) (by decide) (by decide) hg hm ha he hpl

theorem r_ball (G : Gd W X XW k) (hg : Gl X "all") (hm : X.mg "all" = none) (ha : PA X (e :: es) (tEs W T Φ cf XW is false)) (he : starEach (e :: es) X.env = (false, eval e X.env) :: starEach es X.env) (hpl : (backTo pos (starEach es X.env)).any (·.1) = false) : PE X (.Call (.Name "all" p1) (e :: es) [] pos) (tE W T Φ cf XW (.bi .all is) o) :=
  r_biB (call_all1 G.hc) (by decide +kernel) (by decide) (by decide) hg hm ha he hpl

theorem r_bany (G : Gd W X XW k) (hg : Gl X "any") (hm : X.mg "any" = none) (ha : PA X (e :: es) (tEs W T Φ cf XW is false)) (he : starEach (e :: es) X.env = (false, eval e X.env) :: starEach es X.env) (hpl : (backTo pos (starEach es X.env)).any (·.1) = false) : PE X (.Call (.Name "any" p1) (e :: es) [] pos) (tE W T Φ cf XW (.bi .any is) o) :=
  r_biB (call_any1 G.hc) (by decide +kernel) (by decide) (by decide) hg hm ha he hpl

theorem r_babs (G : Gd W X XW k) (hg : Gl X "abs") (hm : X.mg "abs" = none) (ha : PA X (e :: es) (tEs W T Φ cf XW is false)) (he : starEach (e :: es) X.env = (false, eval e X.env) :: starEach es X.env) (hpl : (backTo pos (starEach es X.env)).any (·.1) = false) : PE X (.Call (.Name "abs" p1) (e :: es) [] pos) (tE W T Φ cf XW (.bi .abs is) o) :=
  r_biB call_abs1 (by decide +kernel) (by decide) (by decide) hg hm ha he hpl

theorem r_brepr (G : Gd W X XW k) (hg : Gl X "repr") (hm : X.mg "repr" = none) (ha : PA X (e :: es) (tEs W T Φ cf XW is false)) (he : starEach (e :: es) X.env = (false, eval e X.env) :: starEach es X.env) (hpl : (backTo pos (starEach es X.env)).any (·.1) = false) : PE X (.Call (.Name "repr" p1) (e :: es) [] pos) (tE W T Φ cf XW (.bi .repr is) o) :=
  r_biB (call_repr1 G.hK G.hG G.hu) (by decide +kernel) (by decide) (by decide) hg hm ha he hpl

theorem r_blist (G : Gd W X XW k) (hg : Gl X "list") (hm : X.mg "list" = none) (ha : PA X (e :: es) (tEs W T Φ cf XW is false)) (he : starEach (e :: es) X.env = (false, eval e X.env) :: starEach es X.env) (hpl : (backTo pos (starEach es X.env)).any (·.1) = false) : PE X (.Call (.Name "list" p1) (e :: es) [] pos) (tE W T Φ cf XW (.bi .list is) o) :=
  r_biT (call_list1 G.hK) (by decide +kernel) (by decide) (by decide) hg hm ha he hpl

theorem r_btuple (G : Gd W X XW k) (hg : Gl X "tuple") (hm : X.mg "tuple" = none) (ha : PA X (e :: es) (tEs W T Φ cf XW is false)) (he : starEach (e :: es) X.env = (false, eval e X.env) :: starEach es X.env) (hpl : (backTo pos (starEach es X.env)).any (·.1) = false) : PE X (.Call (.Name "tuple" p1) (e :: es) [] pos) (tE W T Φ cf XW (.bi .tuple is) o) :=
  r_biT (call_tuple1 G.hK) (by decide +kernel) (by decide) (by decide) hg hm ha he hpl

theorem r_bint (G : Gd W X XW k) (hg : Gl X "int") (hm : X.mg "int" = none) (ha : PA X (e :: es) (tEs W T Φ cf XW is false)) (he : starEach (e :: es) X.env = (false, eval e X.env) :: starEach es X.env) (hpl : (backTo pos (starEach es X.env)).any (·.1) = false) : PE X (.Call (.Name "int" p1) (e :: es) [] pos) (tE W T Φ cf XW (.bi .int is) o) :=
  r_biT call_int1D (by decide +kernel) (by decide) (by decide) hg hm ha he hpl

theorem in_sl {l : List Nat} {i : Nat} (h : l.contains i = true) : i ∈ sl l := (List.contains_iff_mem (a := i) (as := l)).mp h
theorem nkp {fn : Fn} {i : Nat} (h : decide (fn.ow[i]? = some true) = false) : i ∉ kpOf fn := fun z => by
  have z : fn.ow[i]? = some true := z
  rw [z] at h
  simp at h
theorem nkps {fn : Fn} {ts : List (Bool × Nat)} (h : (ts.all fun t => !decide (fn.ow[t.2]? = some true)) = true) : ∀ t ∈ ts, t.2 ∉ kpOf fn := fun t ht => nkp (by simpa using List.all_eq_true.mp h t ht)
theorem noff {l : List Nat} {i : Nat} (h : l.contains i = true) : i ∉ offS l := fun z => z ((List.contains_iff_mem (a := i) (as := l)).mp h)
theorem r_po {ee : Ex} (h : PE X e (tE W T Φ cf XW ee false)) : PO X (some e) (tPs W T Φ cf XW (.cons ee .nil)) := po_some h
theorem r_pon : PO X none (tPs W T Φ cf XW .nil) := po_none
theorem r_kvn : PPs X pos [] [] (Kv.trs W T Φ cf XW o .nil) := pps_nil
theorem r_kvc {a b : Ex} {r : Kv} {kx v : Expr} {ks : List (Option Expr)} {vs : List Expr} (hk : PE X kx (tE W T Φ cf XW a false)) (hv : PE X v (tE W T Φ cf XW b o)) (hr : PPs X pos ks vs (r.trs W T Φ cf XW o)) : PPs X pos (some kx :: ks) (v :: vs) ((Kv.cons a b r).trs W T Φ cf XW o) := pps_cons hk hv hr
theorem r_pts {ee : Ex} (h : PT X e (tT W T Φ cf noX ee)) : PTs X [e] (cT W T Φ cf (.cons ee .nil)) := pts_one h
theorem r_ptn : PTs X [] (cT W T Φ cf .nil) := pts_nil
/-- a lent name: what later arguments do to it is seen by the callee -/
theorem pas_ioV {i : Nat} {es : As} {x : Expr} {xs : List Expr} (ha : PE X x (tPth (.v i))) (hr : PA X xs (tAs W T Φ cf XW es)) (hs : starEach (x :: xs) X.env = (false, eval x X.env) :: starEach xs X.env) :
    PA X (x :: xs) (tAs W T Φ cf XW (.io (.v i) es)) := (pa_cons ha hr hs).weak fun σ H Q ⟨δ, Ψ, r, h⟩ => by
  simp only [evA] at h
  cases e : getP (.v i) δ with
  | none => rw [e] at h; exact h.elim
  | some d =>
    rw [e] at h
    obtain ⟨d0, v, w, ks, kvs, Fs, A⟩ := r.at_ e
    refine ⟨w, A.pv, δ, Ψ, r, ?_⟩
    cases q2 : evA Φ cf es δ with
    | bad => rw [q2] at h; exact h.elim
    | er x δ2 => rw [q2] at h; exact fun cls dd H' Ψ' s r p => h cls dd H' Ψ' (s.mono fun i hi => List.mem_cons_of_mem _ hi) r p
    | ok ds δ2 =>
      rw [q2] at h
      intro vs H2 Ψ2 s2 r2 p2
      have z : PyI.pv (.v i) σ H2 = PyI.pv (.v i) σ H := by
        unfold PyI.pv
        split <;> simp [Pa.kvs, atV]
      exact h (w :: vs) H2 Ψ2 (s2.mono fun i hi => List.mem_cons_of_mem _ hi) r2 ⟨w, vs, rfl, z.trans A.pv, p2⟩
theorem r_set {ro : Bool} {kp : Slots} {i : Nat} {ee : Ex} {tx y : Expr} (hb : isBor ee = false) (he : PE X y (tE W T Φ cf XW ee false)) (hg : PG X tx (tGx W T kp (sl (S.set i ee).mods) false (.nm false i))) (hs : swapsWithSole [tx] y pos.line X.env = pure false) (hw : swappedStores [tx] y X.env = pure none) (h1 : (assignEach [tx] X.env).map (·.2) = [assign tx X.env]) :
    PS X (.Assign [tx] y pos) (tS W T Φ cf XW ro kp (.set i ee)) := ps_storeE (o := false) (t := .nm false i) (fun _ h => List.mem_cons_of_mem _ h) (fun _ => rfl) (.inr hb) he hg hs hw h1
theorem r_own {ro : Bool} {kp : Slots} {i : Nat} {ee : Ex} {tx y : Expr} (he : PE X y (tE W T Φ cf XW ee true)) (hg : PG X tx (tGx W T kp (sl (S.own i ee).mods) true (.nm true i))) (hs : swapsWithSole [tx] y pos.line X.env = pure false) (hw : swappedStores [tx] y X.env = pure none) (h1 : (assignEach [tx] X.env).map (·.2) = [assign tx X.env]) :
    PS X (.Assign [tx] y pos) (tS W T Φ cf XW ro kp (.own i ee)) := ps_storeE (o := true) (t := .nm true i) (fun _ h => List.mem_cons_of_mem _ h) (fun _ => rfl) (.inl rfl) he hg hs hw h1
theorem r_unp {ro ob : Bool} {kp : Slots} {t : Tg} {ee : Ex} {tx y : Expr} (hb : ob = true ∨ isBor ee = false) (he : PE X y (tE W T Φ cf XW ee ob)) (hg : PG X tx (tGx W T kp (sl (S.unp ob t ee).mods) ob t)) (hs : swapsWithSole [tx] y pos.line X.env = pure false) (hw : swappedStores [tx] y X.env = pure none) (h1 : (assignEach [tx] X.env).map (·.2) = [assign tx X.env]) :
    PS X (.Assign [tx] y pos) (tS W T Φ cf XW ro kp (.unp ob t ee)) := ps_storeE (o := ob) (t := t) (fun _ h => List.mem_append_right _ h) (fun _ => rfl) hb he hg hs hw h1
/-- a comprehension -/
theorem r_lc (G : Gd W X XW k) {t : Tg} {it : It} {cs : Exs} {ee : Ex} {elt tg iter : Expr} {ifs : List Expr} {scope : Scope} {own : List (Str × Nat)} (hcs : cs.one = true) (hb : isBor ee = false) (hB : ∀ i ∈ it.lents, i ∉ tgSlots t ++ cs.mods ++ ee.mods) (ho : own.map (·.2) = tgSlots t) (ok : blkC X.N X.env.scope scope own = true)
    (hi : PI X tg iter (tI W T Φ cf XW it)) (hg : ∀ (s : Shared) (H : Hp) (C : Addr) (cl : List (Str × Addr)) (fp : List Addr), PG (X.blk s H scope (compEnvC scope cl C X.env) fp) tg (tGx W T (offS (tgSlots t)) (sl (tgSlots t)) false t))
    (ht : ∀ (s : Shared) (H : Hp) (C : Addr) (cl : List (Str × Addr)) (fp : List Addr), PTs (X.blk s H scope (compEnvC scope cl C X.env) fp) ifs (cT W T Φ cf cs))
    (he : ∀ (s : Shared) (H : Hp) (C : Addr) (cl : List (Str × Addr)) (fp : List Addr), PE (X.blk s H scope (compEnvC scope cl C X.env) fp) elt (tE W T Φ cf noX ee false)) (hs : ∀ x, foldedSetIterable iter X.env x = pure x) :
    PE X (.ListComp elt [⟨tg, iter, ifs, 0⟩] scope pos) (tE W T Φ cf XW (.lc t it cs ee) o) :=
  (pe_lc G.hc G.nd hi (blkOk_by ok) hg ht he hs).weak fun σ H Q h => by
    rw [ho]
    exact te_lc hcs hb hB h
end
end PyI

set_option Elab.async false
set_option linter.all false
set_option maxRecDepth 100000
namespace PyI
open PySem PySem.Spec PyProof.Rows L2 LamX
section
variable {W : Wd} {T : List (Addr × Str)} {Φ : Nat → Option Fn} {cf : CF} {XW : WX} {X : Cx} {k : Nat} {o : Bool} {σ : L2.St} {H : Hp} {kp M : Slots}
theorem tGx_name {i : Nat} {b : Bool} {v : V} {Q : L2.St → Hp → Prop} (hm : i ∈ M) (hk : i ∉ kp) (hb : b = true → o = true) (hh : tGx W T kp M o (.nm b i) v σ H Q) : gName i v σ H Q := by
  obtain ⟨Ψ0, H0, Ψ, δ, d, δ', G, S, R, e, pG, hv, k⟩ := hh
  simp only [bindT] at e
  split at e <;> cases e
  rename_i hi
  show Q (σ.set i (some v)) H
  cases b with
  | true =>
    rw [hb rfl] at hv
    obtain ⟨F, t, p, dj, bk⟩ := hv
    exact k _ (Ψ.put i F) (step_put hm S bk) (R.put_ow hi t p) (pG.put dj) (fun _ h => h) (Keep.set hk)
  | false =>
    cases o with
    | false => exact k _ (Ψ.put i []) (step_put hm S fun a ha => absurd ha List.not_mem_nil) (R.put_sh hi hv) (pG.put fun a ha => absurd ha List.not_mem_nil) (fun _ h => h) (Keep.set hk)
    | true =>
      obtain ⟨F, t, p, dj, bk⟩ := hv
      have R2 := R.give p
      exact k _ ((Ψ.give F).put i []) (step_put hm (step_give S bk) fun a ha => absurd ha List.not_mem_nil) (R2.put_sh hi (t.rep.mono fun a ha => .inr ha)) ((pG.give dj).put fun a ha => absurd ha List.not_mem_nil) (fun _ h => .inl h) (Keep.set hk)
/-- name = [..] on one line, the name a plain local; o: it is owned -/
theorem ps_lcE (G : Gd W X XW k) {ro : Bool} {s : S} {i : Nat} {y : Str} {py spos pos : Pos} {t : Tg} {it : It} {cs : Exs} {ee : Ex} {elt tg iter : Expr} {ifs : List Expr} {scope : Scope} {own : List (Str × Nat)} (hmo : ∀ j ∈ sl (Ex.lc t it cs ee).mods, j ∈ sl s.mods) (hmi : i ∈ sl s.mods)
    (hs' : ∀ δ, ex Φ cf ro s δ = (ev Φ cf (.lc t it cs ee) o δ).thenF fun d δ1 => match bindT (.nm o i) d δ1 with
    | some δ2 => .nx δ2
    | none => .bad) (hk : i ∉ kp) (hcs : cs.one = true) (hb : isBor ee = false) (hB : ∀ i ∈ it.lents, i ∉ tgSlots t ++ cs.mods ++ ee.mods) (ho : own.map (·.2) = tgSlots t) (ok : blkC X.N X.env.scope scope own = true)
    (hy : X.N[i]? = some y) (hyl : X.env.scope.names.lookup y = some .local) (hsw : swapsWith (.ListComp elt [⟨tg, iter, ifs, 0⟩] scope pos) (some (.Name y py)) spos.line X.env = pure true)
    (hi : PI X tg iter (tI W T Φ cf XW it)) (hg : ∀ (s : Shared) (H : Hp) (C : Addr) (cl : List (Str × Addr)) (fp : List Addr), PG (X.blk s H scope (compEnvC scope cl C X.env) fp) tg (tGx W T (offS (tgSlots t)) (sl (tgSlots t)) false t))
    (ht : ∀ (s : Shared) (H : Hp) (C : Addr) (cl : List (Str × Addr)) (fp : List Addr), PTs (X.blk s H scope (compEnvC scope cl C X.env) fp) ifs (cT W T Φ cf cs))
    (he : ∀ (s : Shared) (H : Hp) (C : Addr) (cl : List (Str × Addr)) (fp : List Addr), PE (X.blk s H scope (compEnvC scope cl C X.env) fp) elt (tE W T Φ cf noX ee false)) (hs : ∀ x, foldedSetIterable iter X.env x = pure x) :
    PS X (.Assign [.Name y py] (.ListComp elt [⟨tg, iter, ifs, 0⟩] scope pos) spos) (tS W T Φ cf XW ro kp s) :=
  (ps_setLc G.hc G.nd hy hyl hsw hi (blkOk_by ok) hg ht he hs).weak fun En σ H ⟨δ, Ψ, r, h⟩ => by
    rw [hs'] at h
    show tLc _ _ _ _ (own.map (·.2)) σ H (fun x H1 => gName i x σ H1 En.nx)
    rw [ho]
    refine te_lc hcs hb hB (seqE (o := o) hmo Step.refl r h fun d δ1 v H1 Ψ1 s1 r1 p1 h1 => ?_)
    cases eb : bindT (.nm o i) d δ1 with
    | none => rw [eb] at h1; exact h1.elim
    | some δ2 =>
      rw [eb] at h1
      exact tGx_name (o := o) hmi hk (fun z => z) (store_to hmo (.inr rfl) s1 r1 p1 eb h1)
theorem r_lcS (G : Gd W X XW k) {ro : Bool} {i : Nat} {y : Str} {py spos pos : Pos} {t : Tg} {it : It} {cs : Exs} {ee : Ex} {elt tg iter : Expr} {ifs : List Expr} {scope : Scope} {own : List (Str × Nat)} (hk : i ∉ kp) (hcs : cs.one = true) (hb : isBor ee = false) (hB : ∀ i ∈ it.lents, i ∉ tgSlots t ++ cs.mods ++ ee.mods) (ho : own.map (·.2) = tgSlots t) (ok : blkC X.N X.env.scope scope own = true)
    (hy : X.N[i]? = some y) (hyl : X.env.scope.names.lookup y = some .local) (hsw : swapsWith (.ListComp elt [⟨tg, iter, ifs, 0⟩] scope pos) (some (.Name y py)) spos.line X.env = pure true)
    (hi : PI X tg iter (tI W T Φ cf XW it)) (hg : ∀ (s : Shared) (H : Hp) (C : Addr) (cl : List (Str × Addr)) (fp : List Addr), PG (X.blk s H scope (compEnvC scope cl C X.env) fp) tg (tGx W T (offS (tgSlots t)) (sl (tgSlots t)) false t))
    (ht : ∀ (s : Shared) (H : Hp) (C : Addr) (cl : List (Str × Addr)) (fp : List Addr), PTs (X.blk s H scope (compEnvC scope cl C X.env) fp) ifs (cT W T Φ cf cs))
    (he : ∀ (s : Shared) (H : Hp) (C : Addr) (cl : List (Str × Addr)) (fp : List Addr), PE (X.blk s H scope (compEnvC scope cl C X.env) fp) elt (tE W T Φ cf noX ee false)) (hs : ∀ x, foldedSetIterable iter X.env x = pure x) :
    PS X (.Assign [.Name y py] (.ListComp elt [⟨tg, iter, ifs, 0⟩] scope pos) spos) (tS W T Φ cf XW ro kp (.set i (.lc t it cs ee))) :=
  ps_lcE G (o := false) (fun _ h => List.mem_cons_of_mem _ h) List.mem_cons_self (fun _ => rfl) hk hcs hb hB ho ok hy hyl hsw hi hg ht he hs
theorem r_lcO (G : Gd W X XW k) {ro : Bool} {i : Nat} {y : Str} {py spos pos : Pos} {t : Tg} {it : It} {cs : Exs} {ee : Ex} {elt tg iter : Expr} {ifs : List Expr} {scope : Scope} {own : List (Str × Nat)} (hk : i ∉ kp) (hcs : cs.one = true) (hb : isBor ee = false) (hB : ∀ i ∈ it.lents, i ∉ tgSlots t ++ cs.mods ++ ee.mods) (ho : own.map (·.2) = tgSlots t) (ok : blkC X.N X.env.scope scope own = true)
    (hy : X.N[i]? = some y) (hyl : X.env.scope.names.lookup y = some .local) (hsw : swapsWith (.ListComp elt [⟨tg, iter, ifs, 0⟩] scope pos) (some (.Name y py)) spos.line X.env = pure true)
    (hi : PI X tg iter (tI W T Φ cf XW it)) (hg : ∀ (s : Shared) (H : Hp) (C : Addr) (cl : List (Str × Addr)) (fp : List Addr), PG (X.blk s H scope (compEnvC scope cl C X.env) fp) tg (tGx W T (offS (tgSlots t)) (sl (tgSlots t)) false t))
    (ht : ∀ (s : Shared) (H : Hp) (C : Addr) (cl : List (Str × Addr)) (fp : List Addr), PTs (X.blk s H scope (compEnvC scope cl C X.env) fp) ifs (cT W T Φ cf cs))
    (he : ∀ (s : Shared) (H : Hp) (C : Addr) (cl : List (Str × Addr)) (fp : List Addr), PE (X.blk s H scope (compEnvC scope cl C X.env) fp) elt (tE W T Φ cf noX ee false)) (hs : ∀ x, foldedSetIterable iter X.env x = pure x) :
    PS X (.Assign [.Name y py] (.ListComp elt [⟨tg, iter, ifs, 0⟩] scope pos) spos) (tS W T Φ cf XW ro kp (.own i (.lc t it cs ee))) :=
  ps_lcE G (o := true) (fun _ h => List.mem_cons_of_mem _ h) List.mem_cons_self (fun _ => rfl) hk hcs hb hB ho ok hy hyl hsw hi hg ht he hs
end
end PyI

set_option Elab.async false
set_option linter.all false
set_option maxRecDepth 100000
namespace PyI
open PySem PySem.Spec PyProof.Rows L2 LamX
open PySem.HandSPX (refsVE)
mutual
def fastB (K : PySem.W.Frag) : D → Value → Bool
  | .non, u => decide (u = .none)
  | .bl b, u => decide (u = .bool b)
  | .int i, .int j _ => decide (i = j)
  | .str cs, .str x _ => decide (x.cps.toList = cs) && decide (cs.length ≤ sizeLine)
  | .tup xs, .ref a => match K.lookup a with
    | some o => match o.data with
      | .seq its _ => decide (o.cls = .type "tuple") && decide (its.size ≤ sizeLine) && fastBs K xs its.toList
      | _ => false
    | none => false
  | _, _ => false
def fastBs (K : PySem.W.Frag) : List D → List Value → Bool
  | [], [] => true
  | x :: xs, u :: us => fastB K x u && fastBs K xs us
  | _, _ => false
end
mutual
theorem fastB_ok {K : PySem.W.Frag} {ca : Nat → Option Addr} : ∀ {d : D} {u : Value}, fastB K d u = true → ∃ v, RelV v u ∧ Fast ⟨K, ca⟩ d v
  | .non, u, h => ⟨.non, (by simpa [fastB] using h : u = Value.none), fast_non⟩
  | .bl b, u, h => ⟨.bl b, (by simpa [fastB] using h : u = Value.bool b), fast_bl b⟩
  | .int i, u, h => by
    cases u <;> simp [fastB] at h
    subst h
    exact ⟨.int i, ⟨_, rfl⟩, fast_int i⟩
  | .str cs, u, h => by
    cases u <;> simp [fastB] at h
    rename_i x t
    obtain ⟨h1, h2⟩ := h
    subst h1
    exact ⟨.str x, ⟨t, rfl⟩, fun H F => by simp only [Rep]; exact ⟨rfl, h2⟩⟩
  | .tup xs, u, h => by
    cases u <;> simp only [fastB] at h <;> try (simp at h; done)
    rename_i a
    split at h
    · rename_i o ho
      split at h
      · rename_i its n hd
        simp only [Bool.and_eq_true, decide_eq_true_eq] at h
        obtain ⟨⟨h1, h2⟩, h3⟩ := h
        obtain ⟨vs, r, f⟩ := fastBs_ok (ca := ca) h3
        have l : vs.length = its.size := by rw [r.length]; simp
        exact ⟨.ref a, rfl, fun H F => by
          simp only [Rep]
          exact ⟨a, vs, rfl, .inr ⟨o, its, n, ho, h1, hd, h2, r⟩, by rw [l]; exact h2, f H F⟩⟩
      · simp at h
    · simp at h
  | .lst _, u, h => by cases u <;> simp [fastB] at h
  | .dct _ _, u, h => by cases u <;> simp [fastB] at h
  | .exc _ _, u, h => by cases u <;> simp [fastB] at h
  | .scr _, u, h => by cases u <;> simp [fastB] at h
theorem fastBs_ok {K : PySem.W.Frag} {ca : Nat → Option Addr} : ∀ {xs : List D} {us : List Value}, fastBs K xs us = true → ∃ vs, Vals vs us ∧ ∀ H F, Reps ⟨K, ca⟩ H F xs vs
  | [], us, h => by
    cases us <;> simp [fastBs] at h
    exact ⟨[], .nil, fun _ _ => Reps.nil⟩
  | x :: xs, us, h => by
    cases us <;> simp [fastBs] at h
    rename_i u us
    obtain ⟨v, r, f⟩ := fastB_ok (ca := ca) h.1
    obtain ⟨vs, rs, fs⟩ := fastBs_ok (ca := ca) h.2
    exact ⟨v :: vs, .cons r rs, fun H F => Reps.cons (f H F) (fs H F)⟩
end
theorem glb_mk {K : PySem.W.Frag} {ca : Nat → Option Addr} {h : Heap} {mg : Str → Option Value} {x : Str} {u : Value} {d : D} (X : K.In h) (G : h.Ns mainGlobals mg) (e : PySem.W.nsIn K mainGlobals x = some (some u)) (f : fastB K d u = true) : ∃ u v, (mg x = some u ∧ RelV v u) ∧ Fast ⟨K, ca⟩ d v := by
  obtain ⟨v, r, q⟩ := fastB_ok (ca := ca) f
  exact ⟨u, v, ⟨PySem.W.mg_of X G e, r⟩, q⟩
def caL (L : List (Nat × Addr)) (c : Nat) : Option Addr := L.lookup c
def excB (K : PySem.W.Frag) (C : Addr) : Bool := xfB K C && (decide (PySem.W.findIn K (.ref C) "__class__" = some (some (.builtin "object.__class__"))) && (decide (PySem.W.specialIn K (.builtin "object.__class__") "__get__" = some (some (.builtin "getset_descriptor.__get__"))) &&
  (decide (PySem.W.takesIn K (.builtin "object.__class__") = some true) && decide (PySem.W.mroIn K C (.type "object") = some true))))
def errB (K : PySem.W.Frag) (L : List (Nat × Addr)) (p : Nat × Addr) : Bool := excB K p.2 && (decide (PySem.W.kitOne K (.type "NoneType") (.ref p.2) = some false) && ((match exFld p.1 with
  | some f => decide (PySem.W.findIn K (.ref p.2) (strV f) = some none)
  | none => true) && L.all fun q => decide (PySem.W.kitOne K (.ref p.2) (.ref q.2) = some (decide (p.1 = q.1) || decide (q.1 = 0)))))
theorem lookup_mem {L : List (Nat × Addr)} {c : Nat} {C : Addr} (h : L.lookup c = some C) : (c, C) ∈ L := by
  induction L with
  | nil => simp at h
  | cons p L ih =>
    obtain ⟨a, b⟩ := p
    simp only [List.lookup] at h
    split at h
    · rename_i q
      cases h
      rw [beq_iff_eq.mp q]
      exact List.mem_cons_self
    · exact List.mem_cons_of_mem _ (ih h)
theorem errs_mk {K : PySem.W.Frag} {L : List (Nat × Addr)} (h : L.all (errB K L) = true) : Errs K ⟨K, caL L⟩ := by
  have a : ∀ c C, caL L c = some C → errB K L (c, C) = true := fun c C e => List.all_eq_true.mp h _ (lookup_mem e)
  have x : ∀ c C, caL L c = some C → excB K C = true := fun c C e => (Bool.and_eq_true_iff.mp (a c C e)).1
  refine ⟨fun c C e => xfB_ok (Bool.and_eq_true_iff.mp (x c C e)).1, fun c C e => ?_, fun c C f e q => ?_, fun c e C C' h1 h2 => ?_, fun e C h1 => ?_⟩
  · have z := x c C e
    obtain ⟨z1, z⟩ := Bool.and_eq_true_iff.mp z
    obtain ⟨z2, z⟩ := Bool.and_eq_true_iff.mp z
    obtain ⟨z3, z⟩ := Bool.and_eq_true_iff.mp z
    obtain ⟨z4, z5⟩ := Bool.and_eq_true_iff.mp z
    have y := xfB_ok z1
    exact ⟨y.ga, y.gg, y.exC, y.hdC, of_decide_eq_true z2, of_decide_eq_true z3, of_decide_eq_true z4, of_decide_eq_true z5⟩
  · have z := a c C e
    obtain ⟨_, z⟩ := Bool.and_eq_true_iff.mp z
    obtain ⟨_, z⟩ := Bool.and_eq_true_iff.mp z
    obtain ⟨z, _⟩ := Bool.and_eq_true_iff.mp z
    simp only at z
    rw [q] at z
    exact of_decide_eq_true z
  · have z := a c C h1
    obtain ⟨_, z⟩ := Bool.and_eq_true_iff.mp z
    obtain ⟨_, z⟩ := Bool.and_eq_true_iff.mp z
    obtain ⟨_, z⟩ := Bool.and_eq_true_iff.mp z
    exact of_decide_eq_true (List.all_eq_true.mp z _ (lookup_mem h2))
  · have z := a e C h1
    obtain ⟨_, z⟩ := Bool.and_eq_true_iff.mp z
    obtain ⟨z, _⟩ := Bool.and_eq_true_iff.mp z
    exact of_decide_eq_true z
def exmB (K : PySem.W.Frag) (NE : Addr) (p : Nat × Addr) : Bool := decide (PySem.W.exmOne K (.ref p.2) (.ref NE) = some true)
theorem hex_mk {K : PySem.W.Frag} {L : List (Nat × Addr)} {NE : Addr} (h : L.all (exmB K NE) = true) : ∀ c C, caL L c = some C → PySem.W.exmOne K (.ref C) (.ref NE) = some true :=
  fun c C e => of_decide_eq_true (List.all_eq_true.mp h _ (lookup_mem e))
/-- an error with a field -/
def supB (K : PySem.W.Frag) (C fI : Addr) (f : Str) : Bool :=
  decide (PySem.W.findIn K (.ref C) "__setattr__" = some (some (.builtin "object.__setattr__"))) && (decide (PySem.W.findIn K (.ref C) f = some none) && (decide (PySem.W.findIn K (.ref C) "__init__" = some (some (.ref fI))) && (decide (PySem.W.typeIn K (.ref fI) = some (.type "function")) &&
  (PySem.W.keepIn K (.ref C) && (decide (PySem.W.subIn K (.ref C) (.type "BaseException") = some true) && (decide (PySem.W.subIn K (.ref C) (.type "ValueError") = some true) && (decide (PySem.W.mroIn K C (.ref C) = some true) && (decide (PySem.W.typeIn K (.ref C) = some (.type "type")) && decide (PySem.W.nsIn K cStatics "thirdparty.any" = some none)))))))))
theorem sup_mk {K : PySem.W.Frag} {mg : Str → Option Value} {pg : Program} {C fI : Addr} {f : Str} {nm q : Str} {N : Addr} {bs bm : List Value} {sn : List Str} {sub : List Value} {ab : Bool} {col : Option Bool} {dd : Option Addr} {k0 k1 k2 k3 k5 : Option Value}
    {oc : Value} {od : Option Addr} {qual msg : Str} {doc pm : Value} {an : Option Addr} {cda cc : Addr} {ct : Value} {osl : Array (Option Value)} {j : Nat} {p1 p2 q1 q2 q3 q4 q5 q6 r1 r2 r3 r4 : Pos} {cl2 : Value} {cld2 : Option Addr} {vs : Array Value} {csl2 : Array (Option Value)} {file : Str} {tf : Tok} {cl3 : Value} {cld3 : Option Addr} {csl3 : Array (Option Value)}
    (b : supB K C fI f = true) (lC : K.lookup C = some (excClassObj nm q C N bs bm true sn sub ab col dd k0 k1 k2 k3 k5 "ValueError.__new__")) (lm : refsVE bm = true) (la : PySem.W.alongIn K "__init__" bm = some (some (.builtin "ValueError.__init__"))) (hs : mg "super" = none) (ht : (pg.main.scope.names.lookup ("super" : Str)).isSome = false)
    (hln : (q3.endLine == q5.line) = true) (lf : K.lookup fI = some ⟨oc, od, .func (PySem.W.ksFn "__init__" qual (SX.iA f p1 p2) (SX.iB f msg j q1 q2 q3 q4 q5 q6 r1 r2 r3 r4) (SX.iS f) .none .none doc pm an (.ref cda) ct cc), osl⟩) (hc : PySem.W.codeIn K (.ref cda) qual = true)
    (l2 : K.lookup cda = some ⟨cl2, cld2, .fields vs, csl2⟩) (hv : vs[2]? = some (.str file tf)) (hf : ((pg.main.file : Str) == file) = true) (l3 : K.lookup cc = some ⟨cl3, cld3, .cell (some (.ref C)), csl3⟩) : SX.SupTxt K mg pg C fI f := by
  unfold supB at b
  simp only [Bool.and_eq_true, decide_eq_true_eq] at b
  obtain ⟨b1, b2, b3, b4, b5, b6, b7, b8, b9, b10⟩ := b
  exact ⟨⟨nm, q, N, bs, bm, sn, sub, ab, col, dd, k0, k1, k2, k3, k5, lC, lm, la⟩, b1, b2, b3, b4, b5, b6, b7, b8, b9, b10, hs, ht, ⟨oc, od, qual, msg, doc, pm, an, cda, cc, ct, osl, j, p1, p2, q1, q2, q3, q4, q5, q6, r1, r2, r3, r4, cl2, cld2, vs, csl2, file, tf, cl3, cld3, csl3, hln, lf, hc, l2, hv, hf, l3⟩⟩
def bmVE : List Value := [.type "ValueError", .type "Exception", .type "BaseException", .type "object"]
def mkB (K : PySem.W.Frag) (C : Addr) : Bool := PySem.W.excIn K C bmVE "ValueError.__new__" && (PySem.W.keepIn K (.ref C) && (decide (PySem.W.subIn K (.ref C) (.type "BaseException") = some true) && decide (PySem.W.typeIn K (.ref C) = some (.type "type"))))
theorem mkN_mk {K : PySem.W.Frag} {mg : Str → Option Value} {x : Str} {C : Addr} (h : mkB K C = true) (g : mg x = some (.ref C)) : MkN K mg x C bmVE "ValueError.__new__" := by
  unfold mkB at h
  simp only [Bool.and_eq_true, decide_eq_true_eq] at h
  obtain ⟨h1, h2, h3, h4⟩ := h
  exact ⟨h1, g, h2, h3, h4⟩
theorem defF_mk {K : PySem.W.Frag} {h : Heap} {mg : Str → Option Value} {x : Str} {ps : List Str} {args : Arguments} {body : List Stmt} {sc : Scope} {f : Addr} {oc kV doc pm cdv ct : Value} {od an : Option Addr} {osl : Array (Option Value)} (X : K.In h) (G : h.Ns mainGlobals mg)
    (a : PySem.W.nsIn K mainGlobals x = some (some (.ref f))) (l : K.lookup f = some ⟨oc, od, .func (PySem.W.fnOf x x args body sc .none kV doc pm an cdv ct), osl⟩) (c : PySem.W.codeIn K cdv x = true) (k : PySem.W.keepIn K (.ref f) = true)
    (b : ∀ (kV doc pm ct : Value) (an : Option Addr) (us : List Value), us.length = ps.length → bindArgs (PySem.W.fnOf x x args body sc .none kV doc pm an cdv ct) ⟨us, []⟩ = pure (ps.zip us)) : DefF K mg x ps args body sc cdv :=
  ⟨f, oc, kV, doc, pm, ct, od, an, osl, PySem.W.mg_of X G a, k, l, c, .all fun us hl => b _ _ _ _ _ us hl⟩
theorem cau_mk {K : PySem.W.Frag} {h : Heap} {mg : Str → Option Value} {g NE : Addr} {oc : Value} {od : Option Addr} {params : Arguments} {sg : Scope} {kV doc pm cdv ct : Value} {an : Option Addr} {osl : Array (Option Value)} {j : Nat} {p1 p2 p3 p4 p5 p6 p7 p8 p9 p10 p11 p12 p13 p14 : Pos} (X : K.In h) (G : h.Ns mainGlobals mg)
    (a : PySem.W.nsIn K mainGlobals "_law_caught" = some (some (.ref g))) (l : K.lookup g = some ⟨oc, od, .func (PySem.W.fnOf "_law_caught" "_law_caught" params (cB j p1 p2 p3 p4 p5 p6 p7 p8 p9 p10 p11 p12 p13 p14) sg .none kV doc pm an cdv ct), osl⟩) (c : PySem.W.codeIn K cdv "_law_caught" = true) (k : PySem.W.keepIn K (.ref g) = true)
    (b : ∀ (kV doc pm ct cdv : Value) (an : Option Addr) (us : List Value), us.length = (["work"] : List Str).length → bindArgs (PySem.W.fnOf "_law_caught" "_law_caught" params (cB j p1 p2 p3 p4 p5 p6 p7 p8 p9 p10 p11 p12 p13 p14) sg .none kV doc pm an cdv ct) ⟨us, []⟩ = pure ((["work"] : List Str).zip us)) (hs : C8.scC cN ["work"] sg = true)
    (v0 : sg.names.lookup ("work" : Str) = some .local) (v1 : sg.names.lookup ("caught" : Str) = some .local) (v2 : sg.names.lookup ("error" : Str) = some .local) (gN : sg.names.lookup ("NetError" : Str) = some .globalImplicit) (e : PySem.W.nsIn K mainGlobals "NetError" = some (some (.ref NE))) :
    ∃ (g : Addr) (oc dV kV doc pm cdv ct : Value) (od an : Option Addr) (params : Arguments) (sg : Scope) (osl : Array (Option Value)) (j : Nat) (p1 p2 p3 p4 p5 p6 p7 p8 p9 p10 p11 p12 p13 p14 : Pos), CauTxt K mg g NE oc od params sg dV kV doc pm cdv ct an osl j p1 p2 p3 p4 p5 p6 p7 p8 p9 p10 p11 p12 p13 p14 :=
  ⟨g, oc, .none, kV, doc, pm, cdv, ct, od, an, params, sg, osl, j, p1, p2, p3, p4, p5, p6, p7, p8, p9, p10, p11, p12, p13, p14, ⟨PySem.W.mg_of X G a, k, l, c, .all fun us hl => b _ _ _ _ _ _ us hl, C8.fnScope_by hs, v0, v1, v2, gN, PySem.W.mg_of X G e⟩⟩
theorem tabs_of {T : List (Addr × Str)} {H : Hp} (h : ∀ p ∈ T, H p.1 = some (.tbl #[])) : Tabs T H := fun p hp => ⟨#[], h p hp, trivial, fun pos cv z => by cases z⟩
/-- the end -/
theorem lawG_mk {l : PySem.W.OpenLaw} {w : World} {K : PySem.W.Frag} {mg : Str → Option Value} {h : Heap} {fa : Addr} {ca : Nat → Option Addr} {T : List (Addr × Str)} {cs : List (Addr × Addr)} {Φ : Nat → Option Fn} {n k i : Nat} {fn : Fn} {args : Arguments} {body : List Stmt} {sc : Scope} {cdv : Value} (X : K.In h)
    (hfa : mg "law" = some (.ref fa)) (hTT : ∀ p ∈ T, ∃ c, (c, p.1) ∈ cs) (hC : ∀ p ∈ cs, PySem.W.codeHdIn K p.1 p.2 = true) (hH : ∀ p ∈ cs, h.get? p.2 = some { cls := .none, data := .fields #[] }) (hN : ∀ p ∈ cs, K.lookup p.2 = none) (hf : Φ i = some fn) (ho : fn.ow = [false]) (hro : fn.ro = false)
    (D : DefF K mg "law" ["script"] args body sc cdv) (hb : ∀ (kV doc pm ct : Value) (an : Option Addr) (s : Shared) (u : Value), BindsTo s (PySem.W.fnOf "law" "law" args body sc .none kV doc pm an cdv ct) ⟨[u], []⟩ [("script", u)])
    (F : ∀ base : Heap, K.In base → base.Ns mainGlobals mg → (∀ p ∈ cs, TabB base mg p.1 p.2) → ∀ (f : Addr) (fd : FuncData), (∃ (oc : Value) (od : Option Addr) (kV doc pm ct : Value) (an : Option Addr) (osl : Array (Option Value)), fd = PySem.W.fnOf "law" "law" args body sc .none kV doc pm an cdv ct ∧ PySem.W.keepIn K (.ref f) = true ∧ K.lookup f = some ⟨oc, od, .func fd, osl⟩ ∧ PySem.W.codeIn K cdv "law" = true) →
      FnG l.prog w K mg base k f fd ["script"] (spF ⟨K, ca⟩ T Φ (callF Φ n) i)) (hv : ∀ ns : List Int, ns.length ≤ 63 → (∀ z ∈ ns, Builtin.Int.intBits z ≤ 1048576) → callF Φ n i [.scr ns] = .rt (.bl true) []) : LawG l w K k 63 "script" mg fa h := by
  obtain ⟨f, oc, kV, doc, pm, ct, od, an, osl, h1, h2, h3, h4, h5⟩ := D.ex
  rw [hfa] at h1
  cases h1
  refine ⟨_, cs, spF ⟨K, ca⟩ T Φ (callF Φ n) i, hH, hN, fun p hp => PySem.W.codeHd_of_K X (hC p hp), hb kV doc pm ct an, fun H a ns hl hbits hT hS => ?_, fun base hK hG hT => F base hK hG hT fa _ ⟨oc, od, kV, doc, pm, ct, an, osl, rfl, h2, h3, h4⟩⟩
  exact sp_law hf ho hro (tabs_of fun p hp => by
    obtain ⟨c, m⟩ := hTT p hp
    exact hT _ m) hS (Nat.le_trans hl (by decide)) (hv ns hl hbits)
/-- the law itself, from its body -/
theorem lawF_succ {P : Program} {w : World} {K : PySem.W.Frag} {mg : Str → Option Value} {base : Heap} {W : Wd} {T : List (Addr × Str)} {Φ : Nat → Option Fn} {N ps : List Str} {args : Arguments} {body : List Stmt} {sc : Scope} {cdv : Value} {k i n : Nat} {fn : Fn} {x : Str} {f : Addr} {fd : FuncData} {oc kV doc pm ct : Value} {od an : Option Addr} {osl : Array (Option Value)}
    (hfd : fd = PySem.W.fnOf x x args body sc .none kV doc pm an cdv ct) (h3 : K.lookup f = some ⟨oc, od, .func fd, osl⟩) (h4 : PySem.W.codeIn K cdv x = true) (hf : Φ i = some fn) (S : FnScope N ps sc) (hps : fn.ow.length = ps.length) (hN : N.length = fn.sz)
    (hb : ∀ (f : Addr) (A : Around) (outer : List PySem.Env) (s : Shared) (H : Hp) (E : XK), Room k (A.deeper (envOfC x sc s.heap.objs.size f cdv)) → (A.deeper (envOfC x sc s.heap.objs.size f cdv)).guards = some [] →
      PSs (cxOf (L2.CX P w) P w K mg base N x sc f cdv A outer s H E) body (tSs W T Φ (callF Φ n) (fun cls d _ H => E cls d H) fn.ro (kpOf fn) fn.body)) : FnG P w K mg base (k + 1) f fd ps (spF W T Φ (callF Φ (n + 1)) i) := by
  subst hfd
  refine fnG_of h3 h4 S (fun vs H Q E h => (spF_len hf h).trans hps) (fun A outer s H vs Q E hr hG h => ⟨_, hb f A outer s H E hr hG, ?_⟩)
  rw [startS_eq hN]
  exact sp_body hf h
end PyI

set_option Elab.async false
set_option linter.all false
set_option maxRecDepth 100000
set_option maxHeartbeats 4000000
namespace PyI
open PySem PySem.Spec PyProof.Rows L2 LamX
def top (i : Nat) : Stmt := PySem.Challenge.pw_netsled_k02_whole_tokens_of_texts.main.body.getD i (.Pass ⟨0, 0, 0, 0⟩)
structure Ls (P : Program) (w : World) (K : PySem.W.Frag) (mg : Str → Option Value) (ca : Nat → Option Addr) (aE : Nat → Addr) (aI : Nat → Addr) : Prop where
  E : Errs K ⟨K, ca⟩
  n_abs : mg "abs" = none
  n_all : mg "all" = none
  n_int : mg "int" = none
  n_isinstance : mg "isinstance" = none
  n_len : mg "len" = none
  n_min : mg "min" = none
  n_range : mg "range" = none
  n_repr : mg "repr" = none
  n_str : mg "str" = none
  a_BadText : ca 9 = some (aE 9)
  g_BadText : mg "BadText" = some (.ref (aE 9))
  r_BadText : SX.SupTxt K mg P (aE 9) (aI 9) "at"
  h_FIGURES : ∃ u v, (mg "FIGURES" = some u ∧ RelV v u) ∧ Fast ⟨K, ca⟩ g_FIGURES v
  h_GREAT : ∃ u v, (mg "GREAT" = some u ∧ RelV v u) ∧ Fast ⟨K, ca⟩ g_GREAT v
  h_KEPT : ∃ u v, (mg "KEPT" = some u ∧ RelV v u) ∧ Fast ⟨K, ca⟩ g_KEPT v
  h_LETTERS : ∃ u v, (mg "LETTERS" = some u ∧ RelV v u) ∧ Fast ⟨K, ca⟩ g_LETTERS v
  h_MOST_LETTERS : ∃ u v, (mg "MOST_LETTERS" = some u ∧ RelV v u) ∧ Fast ⟨K, ca⟩ g_MOST_LETTERS v
  h_MOST_SIGNS : ∃ u v, (mg "MOST_SIGNS" = some u ∧ RelV v u) ∧ Fast ⟨K, ca⟩ g_MOST_SIGNS v
  h_SIGNS : ∃ u v, (mg "SIGNS" = some u ∧ RelV v u) ∧ Fast ⟨K, ca⟩ g_SIGNS v
  h_SMALL : ∃ u v, (mg "SMALL" = some u ∧ RelV v u) ∧ Fast ⟨K, ca⟩ g_SMALL v
  hex : ∀ c C, ca c = some C → PySem.W.exmOne K (.ref C) (.ref (aE 0)) = some true
  cau : ∃ (g : Addr) (oc dV kV doc pm cdv ct : Value) (od an : Option Addr) (params : Arguments) (sg : Scope) (osl : Array (Option Value)) (j : Nat) (p1 p2 p3 p4 p5 p6 p7 p8 p9 p10 p11 p12 p13 p14 : Pos), CauTxt K mg g (aE 0) oc od params sg dV kV doc pm cdv ct an osl j p1 p2 p3 p4 p5 p6 p7 p8 p9 p10 p11 p12 p13 p14
structure Ld (P : Program) (w : World) (K : PySem.W.Frag) (mg : Str → Option Value) (base : Heap) (ca : Nat → Option Addr) (T : List (Addr × Str)) (cf : CF) (kc : Nat) (aE : Nat → Addr) (aI : Nat → Addr) : Prop extends Ls P w K mg ca aE aI where
  c__law_begun : Cal P w K mg base ⟨K, ca⟩ T Φ cf kc 1000 "_law_begun"
  c__law_blend : Cal P w K mg base ⟨K, ca⟩ T Φ cf kc 1001 "_law_blend"
  c__law_pick : Cal P w K mg base ⟨K, ca⟩ T Φ cf kc 1003 "_law_pick"
  c__law_pieces : Cal P w K mg base ⟨K, ca⟩ T Φ cf kc 1006 "_law_pieces"
  c__law_same : Cal P w K mg base ⟨K, ca⟩ T Φ cf kc 1004 "_law_same"
  c__law_take : Cal P w K mg base ⟨K, ca⟩ T Φ cf kc 1002 "_law_take"
  c__law_tokens : Cal P w K mg base ⟨K, ca⟩ T Φ cf kc 1005 "_law_tokens"
  c_end_of_letters : Cal P w K mg base ⟨K, ca⟩ T Φ cf kc 3 "end_of_letters"
  c_is_kind : Cal P w K mg base ⟨K, ca⟩ T Φ cf kc 1 "is_kind"
  c_is_row_of_small : Cal P w K mg base ⟨K, ca⟩ T Φ cf kc 0 "is_row_of_small"
  c_is_word : Cal P w K mg base ⟨K, ca⟩ T Φ cf kc 2 "is_word"
  c_token_at : Cal P w K mg base ⟨K, ca⟩ T Φ cf kc 4 "token_at"
  c_tokens_of : Cal P w K mg base ⟨K, ca⟩ T Φ cf kc 5 "tokens_of"
section
variable {P : Program} {w : World} {K : PySem.W.Frag} {mg : Str → Option Value} {base : Heap} {ca : Nat → Option Addr} {T : List (Addr × Str)} {cf : CF} {kc : Nat} {aE aI : Nat → Addr} {cdv : Value}
theorem b_is_row_of_small (L : Ld P w K mg base ca T cf kc aE aI) (f : Addr) (A : Around) (outer : List PySem.Env) (s : Shared) (H : Hp) (E : XK) (hr : Room (kc + 2) (A.deeper (envOfC "is_row_of_small" (scopeSt (top 8)) s.heap.objs.size f cdv))) (hG : (A.deeper (envOfC "is_row_of_small" (scopeSt (top 8)) s.heap.objs.size f cdv)).guards = some []) :
    PSs (cxOf (L2.CX P w) P w K mg base ["thing", "sign"] "is_row_of_small" (scopeSt (top 8)) f cdv A outer s H E) (bodySt (top 8)) (tSs ⟨K, ca⟩ T Φ cf (fun cls d _ H => E cls d H) f_is_row_of_small.ro (kpOf f_is_row_of_small) f_is_row_of_small.body) := by
  have G := Gd.of (W := ⟨K, ca⟩) (P := P) (w := w) (mg := mg) (base := base) (N := ["thing", "sign"]) (outer := outer) (H := H) (E := E) rfl hr hG (by decide)
  exact (pss_consE (ps_retE (by decide) (pe_andE G.hK (by rfl) (by rfl) (pe_isiE G.hK L.E (by rfl) L.n_isinstance (r_var 0 (by rfl) (by first | exact .inl rfl | exact .inr (.inl rfl) | exact .inr (.inr rfl)) (by decide) (by decide)) (tyA_str (by rfl) L.n_str) (by rfl) (by rfl)) (pe_one (r_ball G (by rfl) L.n_all (pa_consE (by rfl) (r_lc G (own := [("sign", 1)]) (by rfl) (by rfl) (by decide) (by rfl) (by rfl) (pi_overE G.hK (r_var 0 (by rfl) (by first | exact .inl rfl | exact .inr (.inl rfl) | exact .inr (.inr rfl)) (by decide) (by decide))) (fun s H C cl fp => (pgx_name (in_sl (by decide)) (noff (by decide)) (by decide) (pg_name (i := 1) G.nd (by rfl) (by first | exact .inl rfl | exact .inr rfl)))) (fun s H C cl fp => r_ptn) (fun s H C cl fp => (pe_cmpE (op := .in_) G.blk.hK G.blk.hu (by rfl) (r_var 1 (by rfl) (by first | exact .inl rfl | exact .inr (.inl rfl) | exact .inr (.inr rfl)) (by decide) (by decide)) (r_glb (by rfl) L.h_SMALL (by rfl) (by decide)) (by rfl))) (fun _ => (by rfl))) pa_nilE (by rfl)) (by rfl) (by rfl)))))
    pss_nilE)
theorem b_is_kind (L : Ld P w K mg base ca T cf kc aE aI) (f : Addr) (A : Around) (outer : List PySem.Env) (s : Shared) (H : Hp) (E : XK) (hr : Room (kc + 2) (A.deeper (envOfC "is_kind" (scopeSt (top 9)) s.heap.objs.size f cdv))) (hG : (A.deeper (envOfC "is_kind" (scopeSt (top 9)) s.heap.objs.size f cdv)).guards = some []) :
    PSs (cxOf (L2.CX P w) P w K mg base ["thing"] "is_kind" (scopeSt (top 9)) f cdv A outer s H E) (bodySt (top 9)) (tSs ⟨K, ca⟩ T Φ cf (fun cls d _ H => E cls d H) f_is_kind.ro (kpOf f_is_kind) f_is_kind.body) := by
  have G := Gd.of (W := ⟨K, ca⟩) (P := P) (w := w) (mg := mg) (base := base) (N := ["thing"]) (outer := outer) (H := H) (E := E) rfl hr hG (by decide)
  exact (pss_consE (ps_retE (by decide) (pe_andE G.hK (by rfl) (by rfl) (pe_callE G L.c_is_row_of_small (Nat.le_add_right _ 2) (by rfl) (by decide) (by decide) (by decide) (by decide) (pas_val (by rfl) (r_var 0 (by rfl) (by first | exact .inl rfl | exact .inr (.inl rfl) | exact .inr (.inr rfl)) (by decide) (by decide)) pas_nil (by rfl)) (by rfl)) (pe_andE G.hK (by rfl) (by rfl) (pe_chnE (op := .le) (op' := .le) G.hK G.hu (by rfl) (by rfl) r_int (r_blen G (by rfl) L.n_len (pa_consE (by rfl) (r_var 0 (by rfl) (by first | exact .inl rfl | exact .inr (.inl rfl) | exact .inr (.inr rfl)) (by decide) (by decide)) pa_nilE (by rfl)) (by rfl) (by rfl)) (r_glb (by rfl) L.h_MOST_LETTERS (by rfl) (by decide)) (by rfl)) (pe_one (pe_cmpE (op := .nin) G.hK G.hu (by rfl) (r_var 0 (by rfl) (by first | exact .inl rfl | exact .inr (.inl rfl) | exact .inr (.inr rfl)) (by decide) (by decide)) (r_glb (by rfl) L.h_KEPT (by rfl) (by decide)) (by rfl))))))
    pss_nilE)
theorem b_is_word (L : Ld P w K mg base ca T cf kc aE aI) (f : Addr) (A : Around) (outer : List PySem.Env) (s : Shared) (H : Hp) (E : XK) (hr : Room (kc + 2) (A.deeper (envOfC "is_word" (scopeSt (top 10)) s.heap.objs.size f cdv))) (hG : (A.deeper (envOfC "is_word" (scopeSt (top 10)) s.heap.objs.size f cdv)).guards = some []) :
    PSs (cxOf (L2.CX P w) P w K mg base ["thing"] "is_word" (scopeSt (top 10)) f cdv A outer s H E) (bodySt (top 10)) (tSs ⟨K, ca⟩ T Φ cf (fun cls d _ H => E cls d H) f_is_word.ro (kpOf f_is_word) f_is_word.body) := by
  have G := Gd.of (W := ⟨K, ca⟩) (P := P) (w := w) (mg := mg) (base := base) (N := ["thing"]) (outer := outer) (H := H) (E := E) rfl hr hG (by decide)
  exact (pss_consE (ps_ifE (PW.pt (pw_orE (pt_notE (pt_truE G.hK (pe_isiE G.hK L.E (by rfl) L.n_isinstance (r_var 0 (by rfl) (by first | exact .inl rfl | exact .inr (.inl rfl) | exact .inr (.inr rfl)) (by decide) (by decide)) (tyA_str (by rfl) L.n_str) (by rfl) (by rfl)) (fun _ => (by rfl)))) (pw_or1 (pt_notE (pt_chnE (op := .le) (op' := .le) G.hK G.hu (by rfl) (by rfl) r_int (r_blen G (by rfl) L.n_len (pa_consE (by rfl) (r_var 0 (by rfl) (by first | exact .inl rfl | exact .inr (.inl rfl) | exact .inr (.inr rfl)) (by decide) (by decide)) pa_nilE (by rfl)) (by rfl) (by rfl)) (r_glb (by rfl) L.h_MOST_LETTERS (by rfl) (by decide)) (by rfl)))))) (pss_consE (ps_retE (by decide) r_bl)
    pss_nilE) pss_nilE)
    (pss_consE (ps_retE (by decide) (pe_andE G.hK (by rfl) (by rfl) (pe_cmpE (op := .in_) G.hK G.hu (by rfl) (pe_idxE G.hK G.hu1 (by rfl) (by rfl) (fun _ _ => (by rfl)) (r_var 0 (by rfl) (by first | exact .inl rfl | exact .inr (.inl rfl) | exact .inr (.inr rfl)) (by decide) (by decide)) r_int) (r_glb (by rfl) L.h_GREAT (by rfl) (by decide)) (by rfl)) (pe_one (pe_callE G L.c_is_row_of_small (Nat.le_add_right _ 2) (by rfl) (by decide) (by decide) (by decide) (by decide) (pas_val (by rfl) (pe_slcE G.hK (by rfl) (by rfl) (by rfl) (r_var 0 (by rfl) (by first | exact .inl rfl | exact .inr (.inl rfl) | exact .inr (.inr rfl)) (by decide) (by decide)) (r_po r_int) r_pon) pas_nil (by rfl)) (by rfl)))))
    pss_nilE))
theorem b_end_of_letters (L : Ld P w K mg base ca T cf kc aE aI) (f : Addr) (A : Around) (outer : List PySem.Env) (s : Shared) (H : Hp) (E : XK) (hr : Room (kc + 2) (A.deeper (envOfC "end_of_letters" (scopeSt (top 16)) s.heap.objs.size f cdv))) (hG : (A.deeper (envOfC "end_of_letters" (scopeSt (top 16)) s.heap.objs.size f cdv)).guards = some []) :
    PSs (cxOf (L2.CX P w) P w K mg base ["text", "at", "end"] "end_of_letters" (scopeSt (top 16)) f cdv A outer s H E) (bodySt (top 16)) (tSs ⟨K, ca⟩ T Φ cf (fun cls d _ H => E cls d H) f_end_of_letters.ro (kpOf f_end_of_letters) f_end_of_letters.body) := by
  have G := Gd.of (W := ⟨K, ca⟩) (P := P) (w := w) (mg := mg) (base := base) (N := ["text", "at", "end"]) (outer := outer) (H := H) (E := E) rfl hr hG (by decide)
  exact (pss_consE (r_set (by rfl) (r_var 1 (by rfl) (by first | exact .inl rfl | exact .inr (.inl rfl) | exact .inr (.inr rfl)) (by decide) (by decide)) (pgx_name (in_sl (by decide)) (nkp (by decide)) (by decide) (pg_name (i := 2) G.nd (by rfl) (by first | exact .inl rfl | exact .inr rfl))) (by rfl) (by rfl) (by rfl))
    (pss_consE (ps_whlE G.hp (PW.pt (pw_andE (pt_cmpE (op := .lt) G.hK G.hu (by rfl) (r_var 2 (by rfl) (by first | exact .inl rfl | exact .inr (.inl rfl) | exact .inr (.inr rfl)) (by decide) (by decide)) (r_blen G (by rfl) L.n_len (pa_consE (by rfl) (r_var 0 (by rfl) (by first | exact .inl rfl | exact .inr (.inl rfl) | exact .inr (.inr rfl)) (by decide) (by decide)) pa_nilE (by rfl)) (by rfl) (by rfl)) (by rfl)) (pw_and1 (pt_cmpE (op := .in_) G.hK G.hu (by rfl) (pe_idxE G.hK G.hu1 (by rfl) (by rfl) (fun _ _ => (by rfl)) (r_var 0 (by rfl) (by first | exact .inl rfl | exact .inr (.inl rfl) | exact .inr (.inr rfl)) (by decide) (by decide)) (r_var 2 (by rfl) (by first | exact .inl rfl | exact .inr (.inl rfl) | exact .inr (.inr rfl)) (by decide) (by decide))) (r_glb (by rfl) L.h_LETTERS (by rfl) (by decide)) (by rfl))))) (pss_consE (ps_augE (op := .add) (nkp (by decide)) (by rfl) (by decide) G.nd (by rfl) (by first | exact .inl rfl | exact .inr rfl) (by first | exact .inl rfl | exact .inr rfl) r_int)
    pss_nilE))
    (pss_consE (ps_retE (by decide) (r_var 2 (by rfl) (by first | exact .inl rfl | exact .inr (.inl rfl) | exact .inr (.inr rfl)) (by decide) (by decide)))
    pss_nilE)))
theorem b_token_at (L : Ld P w K mg base ca T cf kc aE aI) (f : Addr) (A : Around) (outer : List PySem.Env) (s : Shared) (H : Hp) (E : XK) (hr : Room (kc + 2) (A.deeper (envOfC "token_at" (scopeSt (top 17)) s.heap.objs.size f cdv))) (hG : (A.deeper (envOfC "token_at" (scopeSt (top 17)) s.heap.objs.size f cdv)).guards = some []) :
    PSs (cxOf (L2.CX P w) P w K mg base ["text", "at", "row"] "token_at" (scopeSt (top 17)) f cdv A outer s H E) (bodySt (top 17)) (tSs ⟨K, ca⟩ T Φ cf (fun cls d _ H => E cls d H) f_token_at.ro (kpOf f_token_at) f_token_at.body) := by
  have G := Gd.of (W := ⟨K, ca⟩) (P := P) (w := w) (mg := mg) (base := base) (N := ["text", "at", "row"]) (outer := outer) (H := H) (E := E) rfl hr hG (by decide)
  exact (pss_consE (ps_ifE (PW.pt (pw_orE (pt_cmpE (op := .in_) G.hK G.hu (by rfl) (pe_idxE G.hK G.hu1 (by rfl) (by rfl) (fun _ _ => (by rfl)) (r_var 0 (by rfl) (by first | exact .inl rfl | exact .inr (.inl rfl) | exact .inr (.inr rfl)) (by decide) (by decide)) (r_var 1 (by rfl) (by first | exact .inl rfl | exact .inr (.inl rfl) | exact .inr (.inr rfl)) (by decide) (by decide))) (r_glb (by rfl) L.h_SIGNS (by rfl) (by decide)) (by rfl)) (pw_or1 (pt_cmpE (op := .in_) G.hK G.hu (by rfl) (pe_idxE G.hK G.hu1 (by rfl) (by rfl) (fun _ _ => (by rfl)) (r_var 0 (by rfl) (by first | exact .inl rfl | exact .inr (.inl rfl) | exact .inr (.inr rfl)) (by decide) (by decide)) (r_var 1 (by rfl) (by first | exact .inl rfl | exact .inr (.inl rfl) | exact .inr (.inr rfl)) (by decide) (by decide))) (r_glb (by rfl) L.h_FIGURES (by rfl) (by decide)) (by rfl))))) (pss_consE (ps_retE (by decide) (pe_idxE G.hK G.hu1 (by rfl) (by rfl) (fun _ _ => (by rfl)) (r_var 0 (by rfl) (by first | exact .inl rfl | exact .inr (.inl rfl) | exact .inr (.inr rfl)) (by decide) (by decide)) (r_var 1 (by rfl) (by first | exact .inl rfl | exact .inr (.inl rfl) | exact .inr (.inr rfl)) (by decide) (by decide))))
    pss_nilE) pss_nilE)
    (pss_consE (r_set (by rfl) (pe_slcE G.hK (by rfl) (by rfl) (by rfl) (r_var 0 (by rfl) (by first | exact .inl rfl | exact .inr (.inl rfl) | exact .inr (.inr rfl)) (by decide) (by decide)) (r_po (r_var 1 (by rfl) (by first | exact .inl rfl | exact .inr (.inl rfl) | exact .inr (.inr rfl)) (by decide) (by decide))) (r_po (pe_callE G L.c_end_of_letters (Nat.le_add_right _ 2) (by rfl) (by decide) (by decide) (by decide) (by decide) (pas_val (by rfl) (r_var 0 (by rfl) (by first | exact .inl rfl | exact .inr (.inl rfl) | exact .inr (.inr rfl)) (by decide) (by decide)) (pas_val (by rfl) (r_var 1 (by rfl) (by first | exact .inl rfl | exact .inr (.inl rfl) | exact .inr (.inr rfl)) (by decide) (by decide)) pas_nil (by rfl)) (by rfl)) (by rfl)))) (pgx_name (in_sl (by decide)) (nkp (by decide)) (by decide) (pg_name (i := 2) G.nd (by rfl) (by first | exact .inl rfl | exact .inr rfl))) (by rfl) (by rfl) (by rfl))
    (pss_consE (ps_ifE (PW.pt (pw_orE (pt_truE G.hK (pe_callE G L.c_is_kind (Nat.le_add_right _ 2) (by rfl) (by decide) (by decide) (by decide) (by decide) (pas_val (by rfl) (r_var 2 (by rfl) (by first | exact .inl rfl | exact .inr (.inl rfl) | exact .inr (.inr rfl)) (by decide) (by decide)) pas_nil (by rfl)) (by rfl)) (fun _ => (by rfl))) (pw_orE (pt_truE G.hK (pe_callE G L.c_is_word (Nat.le_add_right _ 2) (by rfl) (by decide) (by decide) (by decide) (by decide) (pas_val (by rfl) (r_var 2 (by rfl) (by first | exact .inl rfl | exact .inr (.inl rfl) | exact .inr (.inr rfl)) (by decide) (by decide)) pas_nil (by rfl)) (by rfl)) (fun _ => (by rfl))) (pw_or1 (pt_cmpE (op := .in_) G.hK G.hu (by rfl) (r_var 2 (by rfl) (by first | exact .inl rfl | exact .inr (.inl rfl) | exact .inr (.inr rfl)) (by decide) (by decide)) (r_glb (by rfl) L.h_KEPT (by rfl) (by decide)) (by rfl)))))) (pss_consE (ps_retE (by decide) (r_var 2 (by rfl) (by first | exact .inl rfl | exact .inr (.inl rfl) | exact .inr (.inr rfl)) (by decide) (by decide)))
    pss_nilE) pss_nilE)
    (pss_consE (ps_raisFE G.hc G.tk L.r_BadText SX.nm_at G.dp L.g_BadText (by rfl) (by decide) L.a_BadText (by rfl) (by rfl) (pa_consE (by rfl) (r_var 1 (by rfl) (by first | exact .inl rfl | exact .inr (.inl rfl) | exact .inr (.inr rfl)) (by decide) (by decide)) pa_nilE (by rfl)) (by rfl))
    pss_nilE))))
theorem b_tokens_of (L : Ld P w K mg base ca T cf kc aE aI) (f : Addr) (A : Around) (outer : List PySem.Env) (s : Shared) (H : Hp) (E : XK) (hr : Room (kc + 2) (A.deeper (envOfC "tokens_of" (scopeSt (top 18)) s.heap.objs.size f cdv))) (hG : (A.deeper (envOfC "tokens_of" (scopeSt (top 18)) s.heap.objs.size f cdv)).guards = some []) :
    PSs (cxOf (L2.CX P w) P w K mg base ["text", "found", "at", "token"] "tokens_of" (scopeSt (top 18)) f cdv A outer s H E) (bodySt (top 18)) (tSs ⟨K, ca⟩ T Φ cf (fun cls d _ H => E cls d H) f_tokens_of.ro (kpOf f_tokens_of) f_tokens_of.body) := by
  have G := Gd.of (W := ⟨K, ca⟩) (P := P) (w := w) (mg := mg) (base := base) (N := ["text", "found", "at", "token"]) (outer := outer) (H := H) (E := E) rfl hr hG (by decide)
  exact (pss_consE (ps_ifE (PW.pt (pw_orE (pt_notE (pt_truE G.hK (pe_isiE G.hK L.E (by rfl) L.n_isinstance (r_var 0 (by rfl) (by first | exact .inl rfl | exact .inr (.inl rfl) | exact .inr (.inr rfl)) (by decide) (by decide)) (tyA_str (by rfl) L.n_str) (by rfl) (by rfl)) (fun _ => (by rfl)))) (pw_or1 (pt_cmpE (op := .gt) G.hK G.hu (by rfl) (r_blen G (by rfl) L.n_len (pa_consE (by rfl) (r_var 0 (by rfl) (by first | exact .inl rfl | exact .inr (.inl rfl) | exact .inr (.inr rfl)) (by decide) (by decide)) pa_nilE (by rfl)) (by rfl) (by rfl)) (r_glb (by rfl) L.h_MOST_SIGNS (by rfl) (by decide)) (by rfl))))) (pss_consE (ps_raisFE G.hc G.tk L.r_BadText SX.nm_at G.dp L.g_BadText (by rfl) (by decide) L.a_BadText (by rfl) (by rfl) (pa_consE (by rfl) r_int pa_nilE (by rfl)) (by rfl))
    pss_nilE) pss_nilE)
    (pss_consE (by first | exact ps_parE G.hc (nkps (by decide)) (pgs_cons (pg_name (i := 1) G.nd (by rfl) (by first | exact .inl rfl | exact .inr rfl)) (pgs_cons (pg_name (i := 2) G.nd (by rfl) (by first | exact .inl rfl | exact .inr rfl)) pgs_nil (by rfl)) (by rfl)) (pam_cons (by decide) (pe_lstE (by rfl) pa_nilE) (pam_cons (by decide) r_int pam_nil (by rfl)) (by rfl)) (by decide) (by rfl) (by rfl) (by rfl) (by rfl) | exact ps_par2E G.hc (nkps (by decide)) G.nd (by rfl) (by rfl) (by decide) (by rfl) (by rfl) (pam_cons (by decide) (pe_lstE (by rfl) pa_nilE) (pam_cons (by decide) r_int pam_nil (by rfl)) (by rfl)) (by rfl) (by rfl))
    (pss_consE (ps_whlE G.hp (pt_cmpE (op := .lt) G.hK G.hu (by rfl) (r_var 2 (by rfl) (by first | exact .inl rfl | exact .inr (.inl rfl) | exact .inr (.inr rfl)) (by decide) (by decide)) (r_blen G (by rfl) L.n_len (pa_consE (by rfl) (r_var 0 (by rfl) (by first | exact .inl rfl | exact .inr (.inl rfl) | exact .inr (.inr rfl)) (by decide) (by decide)) pa_nilE (by rfl)) (by rfl) (by rfl)) (by rfl)) (pss_consE (ps_ifE (pt_cmpE (op := .in_) G.hK G.hu (by rfl) (pe_idxE G.hK G.hu1 (by rfl) (by rfl) (fun _ _ => (by rfl)) (r_var 0 (by rfl) (by first | exact .inl rfl | exact .inr (.inl rfl) | exact .inr (.inr rfl)) (by decide) (by decide)) (r_var 2 (by rfl) (by first | exact .inl rfl | exact .inr (.inl rfl) | exact .inr (.inr rfl)) (by decide) (by decide))) (r_str (by decide +kernel) (by decide)) (by rfl)) (pss_consE (ps_augE (op := .add) (nkp (by decide)) (by rfl) (by decide) G.nd (by rfl) (by first | exact .inl rfl | exact .inr rfl) (by first | exact .inl rfl | exact .inr rfl) r_int)
    pss_nilE) (pss_consE (r_set (by rfl) (pe_callE G L.c_token_at (Nat.le_add_right _ 2) (by rfl) (by decide) (by decide) (by decide) (by decide) (pas_val (by rfl) (r_var 0 (by rfl) (by first | exact .inl rfl | exact .inr (.inl rfl) | exact .inr (.inr rfl)) (by decide) (by decide)) (pas_val (by rfl) (r_var 2 (by rfl) (by first | exact .inl rfl | exact .inr (.inl rfl) | exact .inr (.inr rfl)) (by decide) (by decide)) pas_nil (by rfl)) (by rfl)) (by rfl)) (pgx_name (in_sl (by decide)) (nkp (by decide)) (by decide) (pg_name (i := 3) G.nd (by rfl) (by first | exact .inl rfl | exact .inr rfl))) (by rfl) (by rfl) (by rfl))
    (pss_consE (ps_expE (pe_appendE (by decide) (pth_v (pe_var (i := 1) (by rfl) (by first | exact .inl rfl | exact .inr (.inl rfl) | exact .inr (.inr rfl)) (by decide) (by decide))) (pa_consE (by rfl) (pe_tupE (by rfl) (pa_consE (by rfl) (r_var 3 (by rfl) (by first | exact .inl rfl | exact .inr (.inl rfl) | exact .inr (.inr rfl)) (by decide) (by decide)) (pa_consE (by rfl) (r_var 2 (by rfl) (by first | exact .inl rfl | exact .inr (.inl rfl) | exact .inr (.inr rfl)) (by decide) (by decide)) pa_nilE (by rfl)) (by rfl))) pa_nilE (by rfl)) (by rfl) (by rfl) (by rfl)) (by rfl))
    (pss_consE (ps_augE (op := .add) (nkp (by decide)) (by rfl) (by decide) G.nd (by rfl) (by first | exact .inl rfl | exact .inr rfl) (by first | exact .inl rfl | exact .inr rfl) (r_blen G (by rfl) L.n_len (pa_consE (by rfl) (r_var 3 (by rfl) (by first | exact .inl rfl | exact .inr (.inl rfl) | exact .inr (.inr rfl)) (by decide) (by decide)) pa_nilE (by rfl)) (by rfl) (by rfl)))
    pss_nilE))))
    pss_nilE))
    (pss_consE (ps_retE (by decide) (r_var 1 (by rfl) (by first | exact .inl rfl | exact .inr (.inl rfl) | exact .inr (.inr rfl)) (by decide) (by decide)))
    pss_nilE))))
theorem b__law_begun (L : Ld P w K mg base ca T cf kc aE aI) (f : Addr) (A : Around) (outer : List PySem.Env) (s : Shared) (H : Hp) (E : XK) (hr : Room (kc + 2) (A.deeper (envOfC "_law_begun" (scopeSt (top 20)) s.heap.objs.size f cdv))) (hG : (A.deeper (envOfC "_law_begun" (scopeSt (top 20)) s.heap.objs.size f cdv)).guards = some []) :
    PSs (cxOf (L2.CX P w) P w K mg base ["script", "large", "cell"] "_law_begun" (scopeSt (top 20)) f cdv A outer s H E) (bodySt (top 20)) (tSs ⟨K, ca⟩ T Φ cf (fun cls d _ H => E cls d H) f__law_begun.ro (kpOf f__law_begun) f__law_begun.body) := by
  have G := Gd.of (W := ⟨K, ca⟩) (P := P) (w := w) (mg := mg) (base := base) (N := ["script", "large", "cell"]) (outer := outer) (H := H) (E := E) rfl hr hG (by decide)
  exact (pss_consE (by first | exact (r_lcO G (own := [("cell", 2)]) (nkp (by decide)) (by rfl) (by rfl) (by decide) (by rfl) (by rfl) (by rfl) (by rfl) (by rfl) (pi_overE G.hK (r_var 0 (by rfl) (by first | exact .inl rfl | exact .inr (.inl rfl) | exact .inr (.inr rfl)) (by decide) (by decide))) (fun s H C cl fp => (pgx_name (in_sl (by decide)) (noff (by decide)) (by decide) (pg_name (i := 2) G.nd (by rfl) (by first | exact .inl rfl | exact .inr rfl)))) (fun s H C cl fp => (r_pts (pt_cmpE (op := .ge) G.blk.hK G.blk.hu (by rfl) (r_babs G.blk (by rfl) L.n_abs (pa_consE (by rfl) (r_var 2 (by rfl) (by first | exact .inl rfl | exact .inr (.inl rfl) | exact .inr (.inr rfl)) (by decide) (by decide)) pa_nilE (by rfl)) (by rfl) (by rfl)) (pe_bin (op := .pow) G.blk.hK (by rfl) r_int r_int) (by rfl)))) (fun s H C cl fp => (pe_bin (op := .sub) G.blk.hK (by rfl) (r_babs G.blk (by rfl) L.n_abs (pa_consE (by rfl) (r_var 2 (by rfl) (by first | exact .inl rfl | exact .inr (.inl rfl) | exact .inr (.inr rfl)) (by decide) (by decide)) pa_nilE (by rfl)) (by rfl) (by rfl)) (pe_bin (op := .pow) G.blk.hK (by rfl) r_int r_int))) (fun _ => (by rfl))) | exact (r_own (r_lc G (own := [("cell", 2)]) (by rfl) (by rfl) (by decide) (by rfl) (by rfl) (pi_overE G.hK (r_var 0 (by rfl) (by first | exact .inl rfl | exact .inr (.inl rfl) | exact .inr (.inr rfl)) (by decide) (by decide))) (fun s H C cl fp => (pgx_name (in_sl (by decide)) (noff (by decide)) (by decide) (pg_name (i := 2) G.nd (by rfl) (by first | exact .inl rfl | exact .inr rfl)))) (fun s H C cl fp => (r_pts (pt_cmpE (op := .ge) G.blk.hK G.blk.hu (by rfl) (r_babs G.blk (by rfl) L.n_abs (pa_consE (by rfl) (r_var 2 (by rfl) (by first | exact .inl rfl | exact .inr (.inl rfl) | exact .inr (.inr rfl)) (by decide) (by decide)) pa_nilE (by rfl)) (by rfl) (by rfl)) (pe_bin (op := .pow) G.blk.hK (by rfl) r_int r_int) (by rfl)))) (fun s H C cl fp => (pe_bin (op := .sub) G.blk.hK (by rfl) (r_babs G.blk (by rfl) L.n_abs (pa_consE (by rfl) (r_var 2 (by rfl) (by first | exact .inl rfl | exact .inr (.inl rfl) | exact .inr (.inr rfl)) (by decide) (by decide)) pa_nilE (by rfl)) (by rfl) (by rfl)) (pe_bin (op := .pow) G.blk.hK (by rfl) r_int r_int))) (fun _ => (by rfl))) (pgx_name (in_sl (by decide)) (nkp (by decide)) (by decide) (pg_name (i := 1) G.nd (by rfl) (by first | exact .inl rfl | exact .inr rfl))) (by rfl) (by rfl) (by rfl)))
    (pss_consE (ps_retE (by decide) (pe_dctE (by rfl) (r_kvc (r_str (by decide +kernel) (by decide)) (r_var 1 (by rfl) (by first | exact .inl rfl | exact .inr (.inl rfl) | exact .inr (.inr rfl)) (by decide) (by decide)) (r_kvc (r_str (by decide +kernel) (by decide)) (r_lc G (own := [("cell", 2)]) (by rfl) (by rfl) (by decide) (by rfl) (by rfl) (pi_overE G.hK (r_var 0 (by rfl) (by first | exact .inl rfl | exact .inr (.inl rfl) | exact .inr (.inr rfl)) (by decide) (by decide))) (fun s H C cl fp => (pgx_name (in_sl (by decide)) (noff (by decide)) (by decide) (pg_name (i := 2) G.nd (by rfl) (by first | exact .inl rfl | exact .inr rfl)))) (fun s H C cl fp => r_ptn) (fun s H C cl fp => (r_babs G.blk (by rfl) L.n_abs (pa_consE (by rfl) (r_var 2 (by rfl) (by first | exact .inl rfl | exact .inr (.inl rfl) | exact .inr (.inr rfl)) (by decide) (by decide)) pa_nilE (by rfl)) (by rfl) (by rfl))) (fun _ => (by rfl))) (r_kvc (r_str (by decide +kernel) (by decide)) r_int (r_kvc (r_str (by decide +kernel) (by decide)) r_int r_kvn)))) (by rfl) (by rfl) (by simp) (by decide)))
    pss_nilE))
theorem b__law_blend (L : Ld P w K mg base ca T cf kc aE aI) (f : Addr) (A : Around) (outer : List PySem.Env) (s : Shared) (H : Hp) (E : XK) (hr : Room (kc + 2) (A.deeper (envOfC "_law_blend" (scopeSt (top 21)) s.heap.objs.size f cdv))) (hG : (A.deeper (envOfC "_law_blend" (scopeSt (top 21)) s.heap.objs.size f cdv)).guards = some []) :
    PSs (cxOf (L2.CX P w) P w K mg base ["draw", "prime", "laps", "found", "stirred", "cell"] "_law_blend" (scopeSt (top 21)) f cdv A outer s H E) (bodySt (top 21)) (tSs ⟨K, ca⟩ T Φ cf (fun cls d _ H => E cls d H) f__law_blend.ro (kpOf f__law_blend) f__law_blend.body) := by
  have G := Gd.of (W := ⟨K, ca⟩) (P := P) (w := w) (mg := mg) (base := base) (N := ["draw", "prime", "laps", "found", "stirred", "cell"]) (outer := outer) (H := H) (E := E) rfl hr hG (by decide)
  exact (pss_consE (by first | exact ps_parE G.hc (nkps (by decide)) (pgs_cons (pg_name (i := 2) G.nd (by rfl) (by first | exact .inl rfl | exact .inr rfl)) (pgs_cons (pg_name (i := 3) G.nd (by rfl) (by first | exact .inl rfl | exact .inr rfl)) pgs_nil (by rfl)) (by rfl)) (pam_cons (by decide) (pe_bin (op := .add) G.hK (by rfl) (pe_borE (pth_ix G.hu1 (pth_v (pe_var (i := 0) (by rfl) (by first | exact .inl rfl | exact .inr (.inl rfl) | exact .inr (.inr rfl)) (by decide) (by decide))) (key_str (by decide +kernel)) (fun _ _ => (by rfl)))) r_int) (pam_cons (by decide) r_int pam_nil (by rfl)) (by rfl)) (by decide) (by rfl) (by rfl) (by rfl) (by rfl) | exact ps_par2E G.hc (nkps (by decide)) G.nd (by rfl) (by rfl) (by decide) (by rfl) (by rfl) (pam_cons (by decide) (pe_bin (op := .add) G.hK (by rfl) (pe_borE (pth_ix G.hu1 (pth_v (pe_var (i := 0) (by rfl) (by first | exact .inl rfl | exact .inr (.inl rfl) | exact .inr (.inr rfl)) (by decide) (by decide))) (key_str (by decide +kernel)) (fun _ _ => (by rfl)))) r_int) (pam_cons (by decide) r_int pam_nil (by rfl)) (by rfl)) (by rfl) (by rfl))
    (pss_consE (ps_psetE G.hu1 (by decide) (by rfl) (pth_v (pe_var (i := 0) (by rfl) (by first | exact .inl rfl | exact .inr (.inl rfl) | exact .inr (.inr rfl)) (by decide) (by decide))) (r_str (by decide +kernel) (by decide)) (r_var 2 (by rfl) (by first | exact .inl rfl | exact .inr (.inl rfl) | exact .inr (.inr rfl)) (by decide) (by decide)) (by rfl) (by rfl) (fun _ => (by rfl)))
    (pss_consE (ps_forE (by decide) G.hp G.hc (pi_overE G.hK (pe_lstE (by rfl) (pa_consE (by rfl) r_int (pa_consE (by rfl) r_int (pa_consE (by rfl) r_int pa_nilE (by rfl)) (by rfl)) (by rfl)))) (pgx_name (in_sl (by decide)) (nkp (by decide)) (by decide) (pg_name (i := 1) G.nd (by rfl) (by first | exact .inl rfl | exact .inr rfl))) (pss_consE (r_set (by rfl) (pe_bin (op := .mod) G.hK (by rfl) (r_bint G (by rfl) L.n_int (pa_consE (by rfl) (pe_bin (op := .add) G.hK (by rfl) (pe_bin (op := .mul) G.hK (by rfl) (r_var 2 (by rfl) (by first | exact .inl rfl | exact .inr (.inl rfl) | exact .inr (.inr rfl)) (by decide) (by decide)) r_int) (pe_bin (op := .fdiv) G.hK (by rfl) (r_var 1 (by rfl) (by first | exact .inl rfl | exact .inr (.inl rfl) | exact .inr (.inr rfl)) (by decide) (by decide)) r_int)) pa_nilE (by rfl)) (by rfl) (by rfl)) (r_var 1 (by rfl) (by first | exact .inl rfl | exact .inr (.inl rfl) | exact .inr (.inr rfl)) (by decide) (by decide))) (pgx_name (in_sl (by decide)) (nkp (by decide)) (by decide) (pg_name (i := 4) G.nd (by rfl) (by first | exact .inl rfl | exact .inr rfl))) (by rfl) (by rfl) (by rfl))
    (pss_consE (ps_forE (by decide) G.hp G.hc (pi_overE G.hK (pe_borE (pth_ix G.hu1 (pth_v (pe_var (i := 0) (by rfl) (by first | exact .inl rfl | exact .inr (.inl rfl) | exact .inr (.inr rfl)) (by decide) (by decide))) (key_str (by decide +kernel)) (fun _ _ => (by rfl))))) (pgx_name (in_sl (by decide)) (nkp (by decide)) (by decide) (pg_name (i := 5) G.nd (by rfl) (by first | exact .inl rfl | exact .inr rfl))) (pss_consE (r_set (by rfl) (pe_bin (op := .mod) G.hK (by rfl) (r_bint G (by rfl) L.n_int (pa_consE (by rfl) (pe_bin (op := .add) G.hK (by rfl) (pe_bin (op := .add) G.hK (by rfl) (pe_bin (op := .mul) G.hK (by rfl) (r_var 4 (by rfl) (by first | exact .inl rfl | exact .inr (.inl rfl) | exact .inr (.inr rfl)) (by decide) (by decide)) r_int) (r_bint G (by rfl) L.n_int (pa_consE (by rfl) (r_var 5 (by rfl) (by first | exact .inl rfl | exact .inr (.inl rfl) | exact .inr (.inr rfl)) (by decide) (by decide)) pa_nilE (by rfl)) (by rfl) (by rfl))) r_int) pa_nilE (by rfl)) (by rfl) (by rfl)) (r_var 1 (by rfl) (by first | exact .inl rfl | exact .inr (.inl rfl) | exact .inr (.inr rfl)) (by decide) (by decide))) (pgx_name (in_sl (by decide)) (nkp (by decide)) (by decide) (pg_name (i := 4) G.nd (by rfl) (by first | exact .inl rfl | exact .inr rfl))) (by rfl) (by rfl) (by rfl))
    pss_nilE) (fun _ => (by rfl)))
    (pss_consE (r_set (by rfl) (pe_bin (op := .add) G.hK (by rfl) (pe_bin (op := .mul) G.hK (by rfl) (r_var 3 (by rfl) (by first | exact .inl rfl | exact .inr (.inl rfl) | exact .inr (.inr rfl)) (by decide) (by decide)) r_int) (pe_bin (op := .mod) G.hK (by rfl) (r_bint G (by rfl) L.n_int (pa_consE (by rfl) (pe_bin (op := .pow) G.hK (by rfl) (r_var 4 (by rfl) (by first | exact .inl rfl | exact .inr (.inl rfl) | exact .inr (.inr rfl)) (by decide) (by decide)) r_int) pa_nilE (by rfl)) (by rfl) (by rfl)) (r_var 1 (by rfl) (by first | exact .inl rfl | exact .inr (.inl rfl) | exact .inr (.inr rfl)) (by decide) (by decide)))) (pgx_name (in_sl (by decide)) (nkp (by decide)) (by decide) (pg_name (i := 3) G.nd (by rfl) (by first | exact .inl rfl | exact .inr rfl))) (by rfl) (by rfl) (by rfl))
    pss_nilE))) (fun _ => (by rfl)))
    (pss_consE (ps_retE (by decide) (r_var 3 (by rfl) (by first | exact .inl rfl | exact .inr (.inl rfl) | exact .inr (.inr rfl)) (by decide) (by decide)))
    pss_nilE))))
theorem b__law_take (L : Ld P w K mg base ca T cf kc aE aI) (f : Addr) (A : Around) (outer : List PySem.Env) (s : Shared) (H : Hp) (E : XK) (hr : Room (kc + 2) (A.deeper (envOfC "_law_take" (scopeSt (top 22)) s.heap.objs.size f cdv))) (hG : (A.deeper (envOfC "_law_take" (scopeSt (top 22)) s.heap.objs.size f cdv)).guards = some []) :
    PSs (cxOf (L2.CX P w) P w K mg base ["draw", "size", "found"] "_law_take" (scopeSt (top 22)) f cdv A outer s H E) (bodySt (top 22)) (tSs ⟨K, ca⟩ T Φ cf (fun cls d _ H => E cls d H) f__law_take.ro (kpOf f__law_take) f__law_take.body) := by
  have G := Gd.of (W := ⟨K, ca⟩) (P := P) (w := w) (mg := mg) (base := base) (N := ["draw", "size", "found"]) (outer := outer) (H := H) (E := E) rfl hr hG (by decide)
  exact (pss_consE (ps_whlE G.hp (PW.pt (pw_andE (pt_cmpE (op := .eq) G.hK G.hu (by rfl) (pe_borE (pth_ix G.hu1 (pth_v (pe_var (i := 0) (by rfl) (by first | exact .inl rfl | exact .inr (.inl rfl) | exact .inr (.inr rfl)) (by decide) (by decide))) (key_str (by decide +kernel)) (fun _ _ => (by rfl)))) r_int (by rfl)) (pw_and1 (pt_cmpE (op := .ne) G.hK G.hu (by rfl) (pe_borE (pth_ix G.hu1 (pth_v (pe_var (i := 0) (by rfl) (by first | exact .inl rfl | exact .inr (.inl rfl) | exact .inr (.inr rfl)) (by decide) (by decide))) (key_str (by decide +kernel)) (fun _ _ => (by rfl)))) (pe_lstE (by rfl) pa_nilE) (by rfl))))) (pss_consE (ps_psetE G.hu1 (by decide) (by rfl) (pth_v (pe_var (i := 0) (by rfl) (by first | exact .inl rfl | exact .inr (.inl rfl) | exact .inr (.inr rfl)) (by decide) (by decide))) (r_str (by decide +kernel) (by decide)) (pe_popAtE (by decide) (pth_ix G.hu1 (pth_v (pe_var (i := 0) (by rfl) (by first | exact .inl rfl | exact .inr (.inl rfl) | exact .inr (.inr rfl)) (by decide) (by decide))) (key_str (by decide +kernel)) (fun _ _ => (by rfl))) (pa_consE (by rfl) r_int pa_nilE (by rfl)) (by rfl) (by rfl) (by rfl)) (by rfl) (by rfl) (fun _ => (by rfl)))
    pss_nilE))
    (pss_consE (ps_ifE (pt_cmpE (op := .eq) G.hK G.hu (by rfl) (pe_borE (pth_ix G.hu1 (pth_v (pe_var (i := 0) (by rfl) (by first | exact .inl rfl | exact .inr (.inl rfl) | exact .inr (.inr rfl)) (by decide) (by decide))) (key_str (by decide +kernel)) (fun _ _ => (by rfl)))) r_int (by rfl)) (pss_consE (ps_psetE G.hu1 (by decide) (by rfl) (pth_v (pe_var (i := 0) (by rfl) (by first | exact .inl rfl | exact .inr (.inl rfl) | exact .inr (.inr rfl)) (by decide) (by decide))) (r_str (by decide +kernel) (by decide)) (pe_callE G L.c__law_blend (Nat.le_add_right _ 2) (by rfl) (by decide) (by decide) (by decide) (by decide) (pas_ioV (pth_v (pe_var (i := 0) (by rfl) (by first | exact .inl rfl | exact .inr (.inl rfl) | exact .inr (.inr rfl)) (by decide) (by decide))) pas_nil (by rfl)) (by rfl)) (by rfl) (by rfl) (fun _ => (by rfl)))
    pss_nilE) pss_nilE)
    (pss_consE (r_set (by rfl) (pe_bin (op := .mod) G.hK (by rfl) (r_bint G (by rfl) L.n_int (pa_consE (by rfl) (pe_borE (pth_ix G.hu1 (pth_v (pe_var (i := 0) (by rfl) (by first | exact .inl rfl | exact .inr (.inl rfl) | exact .inr (.inr rfl)) (by decide) (by decide))) (key_str (by decide +kernel)) (fun _ _ => (by rfl)))) pa_nilE (by rfl)) (by rfl) (by rfl)) (r_var 1 (by rfl) (by first | exact .inl rfl | exact .inr (.inl rfl) | exact .inr (.inr rfl)) (by decide) (by decide))) (pgx_name (in_sl (by decide)) (nkp (by decide)) (by decide) (pg_name (i := 2) G.nd (by rfl) (by first | exact .inl rfl | exact .inr rfl))) (by rfl) (by rfl) (by rfl))
    (pss_consE (ps_psetE G.hu1 (by decide) (by rfl) (pth_v (pe_var (i := 0) (by rfl) (by first | exact .inl rfl | exact .inr (.inl rfl) | exact .inr (.inr rfl)) (by decide) (by decide))) (r_str (by decide +kernel) (by decide)) (pe_bin (op := .fdiv) G.hK (by rfl) (r_bint G (by rfl) L.n_int (pa_consE (by rfl) (pe_borE (pth_ix G.hu1 (pth_v (pe_var (i := 0) (by rfl) (by first | exact .inl rfl | exact .inr (.inl rfl) | exact .inr (.inr rfl)) (by decide) (by decide))) (key_str (by decide +kernel)) (fun _ _ => (by rfl)))) pa_nilE (by rfl)) (by rfl) (by rfl)) (r_var 1 (by rfl) (by first | exact .inl rfl | exact .inr (.inl rfl) | exact .inr (.inr rfl)) (by decide) (by decide))) (by rfl) (by rfl) (fun _ => (by rfl)))
    (pss_consE (ps_retE (by decide) (r_var 2 (by rfl) (by first | exact .inl rfl | exact .inr (.inl rfl) | exact .inr (.inr rfl)) (by decide) (by decide)))
    pss_nilE)))))
theorem b__law_pick (L : Ld P w K mg base ca T cf kc aE aI) (f : Addr) (A : Around) (outer : List PySem.Env) (s : Shared) (H : Hp) (E : XK) (hr : Room (kc + 2) (A.deeper (envOfC "_law_pick" (scopeSt (top 23)) s.heap.objs.size f cdv))) (hG : (A.deeper (envOfC "_law_pick" (scopeSt (top 23)) s.heap.objs.size f cdv)).guards = some []) :
    PSs (cxOf (L2.CX P w) P w K mg base ["draw", "some"] "_law_pick" (scopeSt (top 23)) f cdv A outer s H E) (bodySt (top 23)) (tSs ⟨K, ca⟩ T Φ cf (fun cls d _ H => E cls d H) f__law_pick.ro (kpOf f__law_pick) f__law_pick.body) := by
  have G := Gd.of (W := ⟨K, ca⟩) (P := P) (w := w) (mg := mg) (base := base) (N := ["draw", "some"]) (outer := outer) (H := H) (E := E) rfl hr hG (by decide)
  exact (pss_consE (ps_retE (by decide) (pe_idxE G.hK G.hu1 (by rfl) (by rfl) (fun _ _ => (by rfl)) (r_var 1 (by rfl) (by first | exact .inl rfl | exact .inr (.inl rfl) | exact .inr (.inr rfl)) (by decide) (by decide)) (pe_callE G L.c__law_take (Nat.le_add_right _ 2) (by rfl) (by decide) (by decide) (by decide) (by decide) (pas_ioV (pth_v (pe_var (i := 0) (by rfl) (by first | exact .inl rfl | exact .inr (.inl rfl) | exact .inr (.inr rfl)) (by decide) (by decide))) (pas_val (by rfl) (r_blen G (by rfl) L.n_len (pa_consE (by rfl) (r_var 1 (by rfl) (by first | exact .inl rfl | exact .inr (.inl rfl) | exact .inr (.inr rfl)) (by decide) (by decide)) pa_nilE (by rfl)) (by rfl) (by rfl)) pas_nil (by rfl)) (by rfl)) (by rfl))))
    pss_nilE)
theorem b__law_same (L : Ld P w K mg base ca T cf kc aE aI) (f : Addr) (A : Around) (outer : List PySem.Env) (s : Shared) (H : Hp) (E : XK) (hr : Room (kc + 2) (A.deeper (envOfC "_law_same" (scopeSt (top 25)) s.heap.objs.size f cdv))) (hG : (A.deeper (envOfC "_law_same" (scopeSt (top 25)) s.heap.objs.size f cdv)).guards = some []) :
    PSs (cxOf (L2.CX P w) P w K mg base ["told", "due"] "_law_same" (scopeSt (top 25)) f cdv A outer s H E) (bodySt (top 25)) (tSs ⟨K, ca⟩ T Φ cf (fun cls d _ H => E cls d H) f__law_same.ro (kpOf f__law_same) f__law_same.body) := by
  have G := Gd.of (W := ⟨K, ca⟩) (P := P) (w := w) (mg := mg) (base := base) (N := ["told", "due"]) (outer := outer) (H := H) (E := E) rfl hr hG (by decide)
  exact (pss_consE (ps_retE (by decide) (pe_cmpE (op := .eq) G.hK G.hu (by rfl) (r_brepr G (by rfl) L.n_repr (pa_consE (by rfl) (r_var 0 (by rfl) (by first | exact .inl rfl | exact .inr (.inl rfl) | exact .inr (.inr rfl)) (by decide) (by decide)) pa_nilE (by rfl)) (by rfl) (by rfl)) (r_brepr G (by rfl) L.n_repr (pa_consE (by rfl) (r_var 1 (by rfl) (by first | exact .inl rfl | exact .inr (.inl rfl) | exact .inr (.inr rfl)) (by decide) (by decide)) pa_nilE (by rfl)) (by rfl) (by rfl)) (by rfl)))
    pss_nilE)
theorem b__law_tokens (L : Ld P w K mg base ca T cf kc aE aI) (f : Addr) (A : Around) (outer : List PySem.Env) (s : Shared) (H : Hp) (E : XK) (hr : Room (kc + 2) (A.deeper (envOfC "_law_tokens" (scopeSt (top 26)) s.heap.objs.size f cdv))) (hG : (A.deeper (envOfC "_law_tokens" (scopeSt (top 26)) s.heap.objs.size f cdv)).guards = some []) :
    PSs (cxOf (L2.CX P w) P w K mg base ["text", "small", "great", "found", "at", "sign", "end", "row", "one"] "_law_tokens" (scopeSt (top 26)) f cdv A outer s H E) (bodySt (top 26)) (tSs ⟨K, ca⟩ T Φ cf (fun cls d _ H => E cls d H) f__law_tokens.ro (kpOf f__law_tokens) f__law_tokens.body) := by
  have G := Gd.of (W := ⟨K, ca⟩) (P := P) (w := w) (mg := mg) (base := base) (N := ["text", "small", "great", "found", "at", "sign", "end", "row", "one"]) (outer := outer) (H := H) (E := E) rfl hr hG (by decide)
  exact (pss_consE (by first | exact ps_parE G.hc (nkps (by decide)) (pgs_cons (pg_name (i := 1) G.nd (by rfl) (by first | exact .inl rfl | exact .inr rfl)) (pgs_cons (pg_name (i := 2) G.nd (by rfl) (by first | exact .inl rfl | exact .inr rfl)) pgs_nil (by rfl)) (by rfl)) (pam_cons (by decide) (r_str (by decide +kernel) (by decide)) (pam_cons (by decide) (r_str (by decide +kernel) (by decide)) pam_nil (by rfl)) (by rfl)) (by decide) (by rfl) (by rfl) (by rfl) (by rfl) | exact ps_par2E G.hc (nkps (by decide)) G.nd (by rfl) (by rfl) (by decide) (by rfl) (by rfl) (pam_cons (by decide) (r_str (by decide +kernel) (by decide)) (pam_cons (by decide) (r_str (by decide +kernel) (by decide)) pam_nil (by rfl)) (by rfl)) (by rfl) (by rfl))
    (pss_consE (by first | exact ps_parE G.hc (nkps (by decide)) (pgs_cons (pg_name (i := 3) G.nd (by rfl) (by first | exact .inl rfl | exact .inr rfl)) (pgs_cons (pg_name (i := 4) G.nd (by rfl) (by first | exact .inl rfl | exact .inr rfl)) pgs_nil (by rfl)) (by rfl)) (pam_cons (by decide) (pe_lstE (by rfl) pa_nilE) (pam_cons (by decide) r_int pam_nil (by rfl)) (by rfl)) (by decide) (by rfl) (by rfl) (by rfl) (by rfl) | exact ps_par2E G.hc (nkps (by decide)) G.nd (by rfl) (by rfl) (by decide) (by rfl) (by rfl) (pam_cons (by decide) (pe_lstE (by rfl) pa_nilE) (pam_cons (by decide) r_int pam_nil (by rfl)) (by rfl)) (by rfl) (by rfl))
    (pss_consE (ps_whlE G.hp (pt_cmpE (op := .lt) G.hK G.hu (by rfl) (r_var 4 (by rfl) (by first | exact .inl rfl | exact .inr (.inl rfl) | exact .inr (.inr rfl)) (by decide) (by decide)) (r_blen G (by rfl) L.n_len (pa_consE (by rfl) (r_var 0 (by rfl) (by first | exact .inl rfl | exact .inr (.inl rfl) | exact .inr (.inr rfl)) (by decide) (by decide)) pa_nilE (by rfl)) (by rfl) (by rfl)) (by rfl)) (pss_consE (by first | exact ps_parE G.hc (nkps (by decide)) (pgs_cons (pg_name (i := 5) G.nd (by rfl) (by first | exact .inl rfl | exact .inr rfl)) (pgs_cons (pg_name (i := 6) G.nd (by rfl) (by first | exact .inl rfl | exact .inr rfl)) pgs_nil (by rfl)) (by rfl)) (pam_cons (by decide) (pe_idxE G.hK G.hu1 (by rfl) (by rfl) (fun _ _ => (by rfl)) (r_var 0 (by rfl) (by first | exact .inl rfl | exact .inr (.inl rfl) | exact .inr (.inr rfl)) (by decide) (by decide)) (r_var 4 (by rfl) (by first | exact .inl rfl | exact .inr (.inl rfl) | exact .inr (.inr rfl)) (by decide) (by decide))) (pam_cons (by decide) (pe_bin (op := .add) G.hK (by rfl) (r_var 4 (by rfl) (by first | exact .inl rfl | exact .inr (.inl rfl) | exact .inr (.inr rfl)) (by decide) (by decide)) r_int) pam_nil (by rfl)) (by rfl)) (by decide) (by rfl) (by rfl) (by rfl) (by rfl) | exact ps_par2E G.hc (nkps (by decide)) G.nd (by rfl) (by rfl) (by decide) (by rfl) (by rfl) (pam_cons (by decide) (pe_idxE G.hK G.hu1 (by rfl) (by rfl) (fun _ _ => (by rfl)) (r_var 0 (by rfl) (by first | exact .inl rfl | exact .inr (.inl rfl) | exact .inr (.inr rfl)) (by decide) (by decide)) (r_var 4 (by rfl) (by first | exact .inl rfl | exact .inr (.inl rfl) | exact .inr (.inr rfl)) (by decide) (by decide))) (pam_cons (by decide) (pe_bin (op := .add) G.hK (by rfl) (r_var 4 (by rfl) (by first | exact .inl rfl | exact .inr (.inl rfl) | exact .inr (.inr rfl)) (by decide) (by decide)) r_int) pam_nil (by rfl)) (by rfl)) (by rfl) (by rfl))
    (pss_consE (ps_ifE (pt_cmpE (op := .in_) G.hK G.hu (by rfl) (r_var 5 (by rfl) (by first | exact .inl rfl | exact .inr (.inl rfl) | exact .inr (.inr rfl)) (by decide) (by decide)) (pe_bin (op := .add) G.hK (by rfl) (r_var 1 (by rfl) (by first | exact .inl rfl | exact .inr (.inl rfl) | exact .inr (.inr rfl)) (by decide) (by decide)) (r_var 2 (by rfl) (by first | exact .inl rfl | exact .inr (.inl rfl) | exact .inr (.inr rfl)) (by decide) (by decide))) (by rfl)) (pss_consE (ps_whlE G.hp (PW.pt (pw_andE (pt_cmpE (op := .lt) G.hK G.hu (by rfl) (r_var 6 (by rfl) (by first | exact .inl rfl | exact .inr (.inl rfl) | exact .inr (.inr rfl)) (by decide) (by decide)) (r_blen G (by rfl) L.n_len (pa_consE (by rfl) (r_var 0 (by rfl) (by first | exact .inl rfl | exact .inr (.inl rfl) | exact .inr (.inr rfl)) (by decide) (by decide)) pa_nilE (by rfl)) (by rfl) (by rfl)) (by rfl)) (pw_and1 (pt_cmpE (op := .in_) G.hK G.hu (by rfl) (pe_idxE G.hK G.hu1 (by rfl) (by rfl) (fun _ _ => (by rfl)) (r_var 0 (by rfl) (by first | exact .inl rfl | exact .inr (.inl rfl) | exact .inr (.inr rfl)) (by decide) (by decide)) (r_var 6 (by rfl) (by first | exact .inl rfl | exact .inr (.inl rfl) | exact .inr (.inr rfl)) (by decide) (by decide))) (pe_bin (op := .add) G.hK (by rfl) (r_var 1 (by rfl) (by first | exact .inl rfl | exact .inr (.inl rfl) | exact .inr (.inr rfl)) (by decide) (by decide)) (r_var 2 (by rfl) (by first | exact .inl rfl | exact .inr (.inl rfl) | exact .inr (.inr rfl)) (by decide) (by decide))) (by rfl))))) (pss_consE (r_set (by rfl) (pe_bin (op := .add) G.hK (by rfl) (r_var 6 (by rfl) (by first | exact .inl rfl | exact .inr (.inl rfl) | exact .inr (.inr rfl)) (by decide) (by decide)) r_int) (pgx_name (in_sl (by decide)) (nkp (by decide)) (by decide) (pg_name (i := 6) G.nd (by rfl) (by first | exact .inl rfl | exact .inr rfl))) (by rfl) (by rfl) (by rfl))
    pss_nilE))
    (pss_consE (r_set (by rfl) (pe_slcE G.hK (by rfl) (by rfl) (by rfl) (r_var 0 (by rfl) (by first | exact .inl rfl | exact .inr (.inl rfl) | exact .inr (.inr rfl)) (by decide) (by decide)) (r_po (r_var 4 (by rfl) (by first | exact .inl rfl | exact .inr (.inl rfl) | exact .inr (.inr rfl)) (by decide) (by decide))) (r_po (r_var 6 (by rfl) (by first | exact .inl rfl | exact .inr (.inl rfl) | exact .inr (.inr rfl)) (by decide) (by decide)))) (pgx_name (in_sl (by decide)) (nkp (by decide)) (by decide) (pg_name (i := 7) G.nd (by rfl) (by first | exact .inl rfl | exact .inr rfl))) (by rfl) (by rfl) (by rfl))
    (pss_consE (ps_ifE (PW.pt (pw_orE (pt_cmpE (op := .gt) G.hK G.hu (by rfl) (r_blen G (by rfl) L.n_len (pa_consE (by rfl) (r_var 7 (by rfl) (by first | exact .inl rfl | exact .inr (.inl rfl) | exact .inr (.inr rfl)) (by decide) (by decide)) pa_nilE (by rfl)) (by rfl) (by rfl)) r_int (by rfl)) (pw_or1 (pt_cmpE (op := .ne) G.hK G.hu (by rfl) (r_lc G (own := [("one", 8)]) (by rfl) (by rfl) (by decide) (by rfl) (by rfl) (pi_overE G.hK (pe_slcE G.hK (by rfl) (by rfl) (by rfl) (r_var 7 (by rfl) (by first | exact .inl rfl | exact .inr (.inl rfl) | exact .inr (.inr rfl)) (by decide) (by decide)) (r_po r_int) r_pon)) (fun s H C cl fp => (pgx_name (in_sl (by decide)) (noff (by decide)) (by decide) (pg_name (i := 8) G.nd (by rfl) (by first | exact .inl rfl | exact .inr rfl)))) (fun s H C cl fp => (r_pts (pt_cmpE (op := .nin) G.blk.hK G.blk.hu (by rfl) (r_var 8 (by rfl) (by first | exact .inl rfl | exact .inr (.inl rfl) | exact .inr (.inr rfl)) (by decide) (by decide)) (r_var 1 (by rfl) (by first | exact .inl rfl | exact .inr (.inl rfl) | exact .inr (.inr rfl)) (by decide) (by decide)) (by rfl)))) (fun s H C cl fp => r_int) (fun _ => (by rfl))) (pe_lstE (by rfl) pa_nilE) (by rfl))))) (pss_consE (ps_retE (by decide) (r_var 4 (by rfl) (by first | exact .inl rfl | exact .inr (.inl rfl) | exact .inr (.inr rfl)) (by decide) (by decide)))
    pss_nilE) pss_nilE)
    (pss_consE (ps_expE (pe_appendE (by decide) (pth_v (pe_var (i := 3) (by rfl) (by first | exact .inl rfl | exact .inr (.inl rfl) | exact .inr (.inr rfl)) (by decide) (by decide))) (pa_consE (by rfl) (pe_tupE (by rfl) (pa_consE (by rfl) (r_var 7 (by rfl) (by first | exact .inl rfl | exact .inr (.inl rfl) | exact .inr (.inr rfl)) (by decide) (by decide)) (pa_consE (by rfl) (r_var 4 (by rfl) (by first | exact .inl rfl | exact .inr (.inl rfl) | exact .inr (.inr rfl)) (by decide) (by decide)) pa_nilE (by rfl)) (by rfl))) pa_nilE (by rfl)) (by rfl) (by rfl) (by rfl)) (by rfl))
    pss_nilE)))) (pss_consE (ps_ifE (pt_cmpE (op := .in_) G.hK G.hu (by rfl) (r_var 5 (by rfl) (by first | exact .inl rfl | exact .inr (.inl rfl) | exact .inr (.inr rfl)) (by decide) (by decide)) (r_str (by decide +kernel) (by decide)) (by rfl)) (pss_consE (ps_expE (pe_appendE (by decide) (pth_v (pe_var (i := 3) (by rfl) (by first | exact .inl rfl | exact .inr (.inl rfl) | exact .inr (.inr rfl)) (by decide) (by decide))) (pa_consE (by rfl) (pe_tupE (by rfl) (pa_consE (by rfl) (r_var 5 (by rfl) (by first | exact .inl rfl | exact .inr (.inl rfl) | exact .inr (.inr rfl)) (by decide) (by decide)) (pa_consE (by rfl) (r_var 4 (by rfl) (by first | exact .inl rfl | exact .inr (.inl rfl) | exact .inr (.inr rfl)) (by decide) (by decide)) pa_nilE (by rfl)) (by rfl))) pa_nilE (by rfl)) (by rfl) (by rfl) (by rfl)) (by rfl))
    pss_nilE) (pss_consE (ps_ifE (pt_cmpE (op := .nin) G.hK G.hu (by rfl) (r_var 5 (by rfl) (by first | exact .inl rfl | exact .inr (.inl rfl) | exact .inr (.inr rfl)) (by decide) (by decide)) (pe_lstE (by rfl) (pa_consE (by rfl) (r_str (by decide +kernel) (by decide)) (pa_consE (by rfl) (r_str (by decide +kernel) (by decide)) pa_nilE (by rfl)) (by rfl))) (by rfl)) (pss_consE (ps_retE (by decide) (r_var 4 (by rfl) (by first | exact .inl rfl | exact .inr (.inl rfl) | exact .inr (.inr rfl)) (by decide) (by decide)))
    pss_nilE) pss_nilE)
    pss_nilE))
    pss_nilE))
    (pss_consE (r_set (by rfl) (r_var 6 (by rfl) (by first | exact .inl rfl | exact .inr (.inl rfl) | exact .inr (.inr rfl)) (by decide) (by decide)) (pgx_name (in_sl (by decide)) (nkp (by decide)) (by decide) (pg_name (i := 4) G.nd (by rfl) (by first | exact .inl rfl | exact .inr rfl))) (by rfl) (by rfl) (by rfl))
    pss_nilE))))
    (pss_consE (ps_retE (by decide) (r_var 3 (by rfl) (by first | exact .inl rfl | exact .inr (.inl rfl) | exact .inr (.inr rfl)) (by decide) (by decide)))
    pss_nilE))))
theorem b__law_pieces (L : Ld P w K mg base ca T cf kc aE aI) (f : Addr) (A : Around) (outer : List PySem.Env) (s : Shared) (H : Hp) (E : XK) (hr : Room (kc + 2) (A.deeper (envOfC "_law_pieces" (scopeSt (top 27)) s.heap.objs.size f cdv))) (hG : (A.deeper (envOfC "_law_pieces" (scopeSt (top 27)) s.heap.objs.size f cdv)).guards = some []) :
    PSs (cxOf (L2.CX P w) P w K mg base ["draw", "some", "odd", "k"] "_law_pieces" (scopeSt (top 27)) f cdv A outer s H E) (bodySt (top 27)) (tSs ⟨K, ca⟩ T Φ cf (fun cls d _ H => E cls d H) f__law_pieces.ro (kpOf f__law_pieces) f__law_pieces.body) := by
  have G := Gd.of (W := ⟨K, ca⟩) (P := P) (w := w) (mg := mg) (base := base) (N := ["draw", "some", "odd", "k"]) (outer := outer) (H := H) (E := E) rfl hr hG (by decide)
  exact (pss_consE (r_set (by rfl) (pe_lstE (by rfl) (pa_consE (by rfl) (r_str (by decide +kernel) (by decide)) (pa_consE (by rfl) (r_str (by decide +kernel) (by decide)) (pa_consE (by rfl) (r_str (by decide +kernel) (by decide)) (pa_consE (by rfl) (r_str (by decide +kernel) (by decide)) (pa_consE (by rfl) (r_str (by decide +kernel) (by decide)) (pa_consE (by rfl) (r_str (by decide +kernel) (by decide)) (pa_consE (by rfl) (r_str (by decide +kernel) (by decide)) (pa_consE (by rfl) (r_str (by decide +kernel) (by decide)) (pa_consE (by rfl) (r_str (by decide +kernel) (by decide)) (pa_consE (by rfl) (r_str (by decide +kernel) (by decide)) (pa_consE (by rfl) (r_str (by decide +kernel) (by decide)) (pa_consE (by rfl) (r_str (by decide +kernel) (by decide)) (pa_consE (by rfl) (r_str (by decide +kernel) (by decide)) (pa_consE (by rfl) (r_str (by decide +kernel) (by decide)) (pa_consE (by rfl) (r_str (by decide +kernel) (by decide)) (pa_consE (by rfl) (r_str (by decide +kernel) (by decide)) (pa_consE (by rfl) (r_str (by decide +kernel) (by decide)) (pa_consE (by rfl) (r_str (by decide +kernel) (by decide)) (pa_consE (by rfl) (r_str (by decide +kernel) (by decide)) (pa_consE (by rfl) (r_str (by decide +kernel) (by decide)) (pa_consE (by rfl) (r_str (by decide +kernel) (by decide)) (pa_consE (by rfl) (r_str (by decide +kernel) (by decide)) pa_nilE (by rfl)) (by rfl)) (by rfl)) (by rfl)) (by rfl)) (by rfl)) (by rfl)) (by rfl)) (by rfl)) (by rfl)) (by rfl)) (by rfl)) (by rfl)) (by rfl)) (by rfl)) (by rfl)) (by rfl)) (by rfl)) (by rfl)) (by rfl)) (by rfl)) (by rfl))) (pgx_name (in_sl (by decide)) (nkp (by decide)) (by decide) (pg_name (i := 1) G.nd (by rfl) (by first | exact .inl rfl | exact .inr rfl))) (by rfl) (by rfl) (by rfl))
    (pss_consE (r_set (by rfl) (pe_lstE (by rfl) (pa_consE (by rfl) (r_str (by decide +kernel) (by decide)) (pa_consE (by rfl) (r_str (by decide +kernel) (by decide)) (pa_consE (by rfl) (r_str (by decide +kernel) (by decide)) (pa_consE (by rfl) (r_str (by decide +kernel) (by decide)) (pa_consE (by rfl) (r_str (by decide +kernel) (by decide)) (pa_consE (by rfl) (r_str (by decide +kernel) (by decide)) (pa_consE (by rfl) (r_str (by decide +kernel) (by decide)) (pa_consE (by rfl) (r_str (by decide +kernel) (by decide)) (pa_consE (by rfl) (r_str (by decide +kernel) (by decide)) (pa_consE (by rfl) (r_str (by decide +kernel) (by decide)) (pa_consE (by rfl) (r_str (by decide +kernel) (by decide)) (pa_consE (by rfl) (r_str (by decide +kernel) (by decide)) pa_nilE (by rfl)) (by rfl)) (by rfl)) (by rfl)) (by rfl)) (by rfl)) (by rfl)) (by rfl)) (by rfl)) (by rfl)) (by rfl)) (by rfl))) (pgx_name (in_sl (by decide)) (nkp (by decide)) (by decide) (pg_name (i := 2) G.nd (by rfl) (by first | exact .inl rfl | exact .inr rfl))) (by rfl) (by rfl) (by rfl))
    (pss_consE (ps_retE (by decide) (pe_joinE G.hK (by rfl) (r_str (by decide +kernel) (by decide)) (r_lc G (own := [("k", 3)]) (by rfl) (by rfl) (by decide) (by rfl) (by rfl) (pi_rng1E (by rfl) L.n_range (pa_consE (by rfl) (pe_callE G L.c__law_take (Nat.le_add_right _ 2) (by rfl) (by decide) (by decide) (by decide) (by decide) (pas_ioV (pth_v (pe_var (i := 0) (by rfl) (by first | exact .inl rfl | exact .inr (.inl rfl) | exact .inr (.inr rfl)) (by decide) (by decide))) (pas_val (by rfl) r_int pas_nil (by rfl)) (by rfl)) (by rfl)) pa_nilE (by rfl)) (by rfl)) (fun s H C cl fp => (pgx_name (in_sl (by decide)) (noff (by decide)) (by decide) (pg_name (i := 3) G.nd (by rfl) (by first | exact .inl rfl | exact .inr rfl)))) (fun s H C cl fp => r_ptn) (fun s H C cl fp => (pe_callE G.blk L.c__law_pick (Nat.le_add_right _ 2) (by rfl) (by decide) (by decide) (by decide) (by decide) (pas_ioV (pth_v (pe_var (i := 0) (by rfl) (by first | exact .inl rfl | exact .inr (.inl rfl) | exact .inr (.inr rfl)) (by decide) (by decide))) (pas_val (by rfl) (pe_iteE (by decide) (by decide) (pt_cmpE (op := .eq) G.blk.hK G.blk.hu (by rfl) (pe_callE G.blk L.c__law_take (Nat.le_add_right _ 2) (by rfl) (by decide) (by decide) (by decide) (by decide) (pas_ioV (pth_v (pe_var (i := 0) (by rfl) (by first | exact .inl rfl | exact .inr (.inl rfl) | exact .inr (.inr rfl)) (by decide) (by decide))) (pas_val (by rfl) r_int pas_nil (by rfl)) (by rfl)) (by rfl)) r_int (by rfl)) (r_var 2 (by rfl) (by first | exact .inl rfl | exact .inr (.inl rfl) | exact .inr (.inr rfl)) (by decide) (by decide)) (r_var 1 (by rfl) (by first | exact .inl rfl | exact .inr (.inl rfl) | exact .inr (.inr rfl)) (by decide) (by decide))) pas_nil (by rfl)) (by rfl)) (by rfl))) (fun _ => (by rfl))) (by rfl) (by rfl) (by rfl) (by rfl)))
    pss_nilE)))
theorem b_law {c Pt : Addr} (TB : TabB base mg c Pt) (hmT : (Pt, (("law" : Str) ++ ".<locals>.") ++ "<lambda>") ∈ T) (hu : ∀ p ∈ T, p.1 = Pt → p.2 = (("law" : Str) ++ ".<locals>.") ++ "<lambda>") (hcode : cdv = .ref c) (L : Ld P w K mg base ca T cf kc aE aI) (f : Addr) (A : Around) (outer : List PySem.Env) (s : Shared) (H : Hp) (E : XK) (hr : Room (kc + 2) (A.deeper (envOfC "law" (scopeSt (top 28)) s.heap.objs.size f cdv))) (hG : (A.deeper (envOfC "law" (scopeSt (top 28)) s.heap.objs.size f cdv)).guards = some []) :
    PSs (cxOf (L2.CX P w) P w K mg base ["script", "draw", "lap", "great", "error", "text", "due"] "law" (scopeSt (top 28)) f cdv A outer s H E) (bodySt (top 28)) (tSs ⟨K, ca⟩ T Φ cf (fun cls d _ H => E cls d H) f_law.ro (kpOf f_law) f_law.body) := by
  have G := Gd.of (W := ⟨K, ca⟩) (P := P) (w := w) (mg := mg) (base := base) (N := ["script", "draw", "lap", "great", "error", "text", "due"]) (outer := outer) (H := H) (E := E) rfl hr hG (by decide)
  obtain ⟨g, oc, dV, kV, doc, pm, cdv', ct, od, an, params, sg, osl, j, p1, p2, p3, p4, p5, p6, p7, p8, p9, p10, p11, p12, p13, p14, cau⟩ := L.cau
  exact (pss_consE (r_own (pe_callE G L.c__law_begun (Nat.le_add_right _ 2) (by rfl) (by decide) (by decide) (by decide) (by decide) (pas_val (by rfl) (r_var 0 (by rfl) (by first | exact .inl rfl | exact .inr (.inl rfl) | exact .inr (.inr rfl)) (by decide) (by decide)) pas_nil (by rfl)) (by rfl)) (pgx_name (in_sl (by decide)) (nkp (by decide)) (by decide) (pg_name (i := 1) G.nd (by rfl) (by first | exact .inl rfl | exact .inr rfl))) (by rfl) (by rfl) (by rfl))
    (pss_consE (ps_forE (by decide) G.hp G.hc (pi_rng1E (by rfl) L.n_range (pa_consE (by rfl) (pe_bin (op := .add) G.hK (by rfl) r_int (r_bmin2 G (by rfl) L.n_min (pa_consE (by rfl) (r_blen G (by rfl) L.n_len (pa_consE (by rfl) (r_var 0 (by rfl) (by first | exact .inl rfl | exact .inr (.inl rfl) | exact .inr (.inr rfl)) (by decide) (by decide)) pa_nilE (by rfl)) (by rfl) (by rfl)) (pa_consE (by rfl) r_int pa_nilE (by rfl)) (by rfl)) (by rfl) (by rfl))) pa_nilE (by rfl)) (by rfl)) (pgx_name (in_sl (by decide)) (nkp (by decide)) (by decide) (pg_name (i := 2) G.nd (by rfl) (by first | exact .inl rfl | exact .inr rfl))) (pss_consE (r_set (by rfl) (pe_callE G L.c__law_pieces (Nat.le_add_right _ 2) (by rfl) (by decide) (by decide) (by decide) (by decide) (pas_ioV (pth_v (pe_var (i := 1) (by rfl) (by first | exact .inl rfl | exact .inr (.inl rfl) | exact .inr (.inr rfl)) (by decide) (by decide))) pas_nil (by rfl)) (by rfl)) (pgx_name (in_sl (by decide)) (nkp (by decide)) (by decide) (pg_name (i := 5) G.nd (by rfl) (by first | exact .inl rfl | exact .inr rfl))) (by rfl) (by rfl) (by rfl))
    (pss_consE (r_set (by rfl) (pe_callE G L.c__law_tokens (Nat.le_add_right _ 2) (by rfl) (by decide) (by decide) (by decide) (by decide) (pas_val (by rfl) (r_var 5 (by rfl) (by first | exact .inl rfl | exact .inr (.inl rfl) | exact .inr (.inr rfl)) (by decide) (by decide)) pas_nil (by rfl)) (by rfl)) (pgx_name (in_sl (by decide)) (nkp (by decide)) (by decide) (pg_name (i := 6) G.nd (by rfl) (by first | exact .inl rfl | exact .inr rfl))) (by rfl) (by rfl) (by rfl))
    (pss_consE (ps_ifE (pt_truE G.hK (pe_isiE G.hK L.E (by rfl) L.n_isinstance (r_var 6 (by rfl) (by first | exact .inl rfl | exact .inr (.inl rfl) | exact .inr (.inr rfl)) (by decide) (by decide)) (tyA_int (by rfl) L.n_int) (by rfl) (by rfl)) (fun _ => (by rfl))) (pss_consE (r_set (by rfl) (pe_caughtE cau L.hex (by rfl) TB hcode hmT hu G.hr G.hG (lamS_by (by rfl)) (by rfl) (fun _ _ _ _ _ => (by rfl)) (fun A outer s H E f c' hr2 hG2 => (pe_callE (G.lam hr2 hG2) L.c_tokens_of (Nat.le_refl _) (by rfl) (by decide) (by decide) (by decide) (by decide) (pas_val (by rfl) (r_var 5 (by rfl) (by first | exact .inl rfl | exact .inr (.inl rfl) | exact .inr (.inr rfl)) (by decide) (by decide)) pas_nil (by rfl)) (by rfl)))) (pgx_name (in_sl (by decide)) (nkp (by decide)) (by decide) (pg_name (i := 4) G.nd (by rfl) (by first | exact .inl rfl | exact .inr rfl))) (by rfl) (by rfl) (by rfl))
    (pss_consE (ps_ifE (PW.pt (pw_orE (pt_notE (pt_truE G.hK (pe_isiE G.hK L.E (by rfl) L.n_isinstance (r_var 4 (by rfl) (by first | exact .inl rfl | exact .inr (.inl rfl) | exact .inr (.inr rfl)) (by decide) (by decide)) (TyA.one (.er 9 _ L.a_BadText) (pe_glob (by rfl) L.g_BadText (.refl _) (by decide))) (by rfl) (by rfl)) (fun _ => (by rfl)))) (pw_or1 (pt_notE (pt_truE G.hK (pe_callE G L.c__law_same (Nat.le_add_right _ 2) (by rfl) (by decide) (by decide) (by decide) (by decide) (pas_val (by rfl) (pe_fldE G.hK L.E (by rfl) (by rfl) (r_var 4 (by rfl) (by first | exact .inl rfl | exact .inr (.inl rfl) | exact .inr (.inr rfl)) (by decide) (by decide))) (pas_val (by rfl) (r_var 6 (by rfl) (by first | exact .inl rfl | exact .inr (.inl rfl) | exact .inr (.inr rfl)) (by decide) (by decide)) pas_nil (by rfl)) (by rfl)) (by rfl)) (fun _ => (by rfl))))))) (pss_consE (ps_retE (by decide) r_bl)
    pss_nilE) pss_nilE)
    pss_nilE)) (pss_consE (ps_ifE (pt_notE (pt_truE G.hK (pe_callE G L.c__law_same (Nat.le_add_right _ 2) (by rfl) (by decide) (by decide) (by decide) (by decide) (pas_val (by rfl) (pe_callE G L.c_tokens_of (Nat.le_add_right _ 2) (by rfl) (by decide) (by decide) (by decide) (by decide) (pas_val (by rfl) (r_var 5 (by rfl) (by first | exact .inl rfl | exact .inr (.inl rfl) | exact .inr (.inr rfl)) (by decide) (by decide)) pas_nil (by rfl)) (by rfl)) (pas_val (by rfl) (r_var 6 (by rfl) (by first | exact .inl rfl | exact .inr (.inl rfl) | exact .inr (.inr rfl)) (by decide) (by decide)) pas_nil (by rfl)) (by rfl)) (by rfl)) (fun _ => (by rfl)))) (pss_consE (ps_retE (by decide) r_bl)
    pss_nilE) pss_nilE)
    pss_nilE))
    pss_nilE))) (fun _ => (by rfl)))
    (pss_consE (r_set (by rfl) (pe_bin (op := .mul) G.hK (by rfl) (r_str (by decide +kernel) (by decide)) r_int) (pgx_name (in_sl (by decide)) (nkp (by decide)) (by decide) (pg_name (i := 3) G.nd (by rfl) (by first | exact .inl rfl | exact .inr rfl))) (by rfl) (by rfl) (by rfl))
    (pss_consE (ps_ifE (PW.pt (pw_orE (pt_cmpE (op := .ne) G.hK G.hu (by rfl) (r_blen G (by rfl) L.n_len (pa_consE (by rfl) (pe_callE G L.c_tokens_of (Nat.le_add_right _ 2) (by rfl) (by decide) (by decide) (by decide) (by decide) (pas_val (by rfl) (r_var 3 (by rfl) (by first | exact .inl rfl | exact .inr (.inl rfl) | exact .inr (.inr rfl)) (by decide) (by decide)) pas_nil (by rfl)) (by rfl)) pa_nilE (by rfl)) (by rfl) (by rfl)) r_int (by rfl)) (pw_or1 (pt_cmpE (op := .ne) G.hK G.hu (by rfl) (pe_fldE G.hK L.E (by rfl) (by rfl) (pe_caughtE cau L.hex (by rfl) TB hcode hmT hu G.hr G.hG (lamS_by (by rfl)) (by rfl) (fun _ _ _ _ _ => (by rfl)) (fun A outer s H E f c' hr2 hG2 => (pe_callE (G.lam hr2 hG2) L.c_tokens_of (Nat.le_refl _) (by rfl) (by decide) (by decide) (by decide) (by decide) (pas_val (by rfl) (pe_bin (op := .add) (G.lam hr2 hG2).hK (by rfl) (r_var 3 (by rfl) (by first | exact .inl rfl | exact .inr (.inl rfl) | exact .inr (.inr rfl)) (by decide) (by decide)) (pe_callE (G.lam hr2 hG2) L.c__law_pick (Nat.le_refl _) (by rfl) (by decide) (by decide) (by decide) (by decide) (pas_ioV (pth_v (pe_var (i := 1) (by rfl) (by first | exact .inl rfl | exact .inr (.inl rfl) | exact .inr (.inr rfl)) (by decide) (by decide))) (pas_val (by rfl) (pe_lstE (by rfl) (pa_consE (by rfl) (r_str (by decide +kernel) (by decide)) (pa_consE (by rfl) (r_str (by decide +kernel) (by decide)) (pa_consE (by rfl) (r_str (by decide +kernel) (by decide)) pa_nilE (by rfl)) (by rfl)) (by rfl))) pas_nil (by rfl)) (by rfl)) (by rfl))) pas_nil (by rfl)) (by rfl))))) r_int (by rfl))))) (pss_consE (ps_retE (by decide) r_bl)
    pss_nilE) pss_nilE)
    (pss_consE (r_set (by rfl) (pe_caughtE cau L.hex (by rfl) TB hcode hmT hu G.hr G.hG (lamS_by (by rfl)) (by rfl) (fun _ _ _ _ _ => (by rfl)) (fun A outer s H E f c' hr2 hG2 => (pe_callE (G.lam hr2 hG2) L.c_tokens_of (Nat.le_refl _) (by rfl) (by decide) (by decide) (by decide) (by decide) (pas_val (by rfl) (pe_callE (G.lam hr2 hG2) L.c__law_pick (Nat.le_refl _) (by rfl) (by decide) (by decide) (by decide) (by decide) (pas_ioV (pth_v (pe_var (i := 1) (by rfl) (by first | exact .inl rfl | exact .inr (.inl rfl) | exact .inr (.inr rfl)) (by decide) (by decide))) (pas_val (by rfl) (pe_lstE (by rfl) (pa_consE (by rfl) r_non (pa_consE (by rfl) r_int (pa_consE (by rfl) (pe_lstE (by rfl) (pa_consE (by rfl) (r_str (by decide +kernel) (by decide)) pa_nilE (by rfl))) (pa_consE (by rfl) (pe_tupE (by rfl) (pa_consE (by rfl) (r_str (by decide +kernel) (by decide)) pa_nilE (by rfl))) pa_nilE (by rfl)) (by rfl)) (by rfl)) (by rfl))) pas_nil (by rfl)) (by rfl)) (by rfl)) pas_nil (by rfl)) (by rfl)))) (pgx_name (in_sl (by decide)) (nkp (by decide)) (by decide) (pg_name (i := 4) G.nd (by rfl) (by first | exact .inl rfl | exact .inr rfl))) (by rfl) (by rfl) (by rfl))
    (pss_consE (ps_retE (by decide) (pe_andE G.hK (by rfl) (by rfl) (pe_isiE G.hK L.E (by rfl) L.n_isinstance (r_var 4 (by rfl) (by first | exact .inl rfl | exact .inr (.inl rfl) | exact .inr (.inr rfl)) (by decide) (by decide)) (TyA.one (.er 9 _ L.a_BadText) (pe_glob (by rfl) L.g_BadText (.refl _) (by decide))) (by rfl) (by rfl)) (pe_andE G.hK (by rfl) (by rfl) (pe_callE G L.c__law_same (Nat.le_add_right _ 2) (by rfl) (by decide) (by decide) (by decide) (by decide) (pas_val (by rfl) (pe_fldE G.hK L.E (by rfl) (by rfl) (r_var 4 (by rfl) (by first | exact .inl rfl | exact .inr (.inl rfl) | exact .inr (.inr rfl)) (by decide) (by decide))) (pas_val (by rfl) r_int pas_nil (by rfl)) (by rfl)) (by rfl)) (pe_one (pe_cmpE (op := .eq) G.hK G.hu (by rfl) (pe_callE G L.c_tokens_of (Nat.le_add_right _ 2) (by rfl) (by decide) (by decide) (by decide) (by decide) (pas_val (by rfl) (r_str (by decide +kernel) (by decide)) pas_nil (by rfl)) (by rfl)) (pe_lstE (by rfl) pa_nilE) (by rfl))))))
    pss_nilE))))))
end
end PyI

set_option Elab.async false
set_option linter.all false
set_option maxRecDepth 100000
set_option maxHeartbeats 4000000
namespace PyI
open PySem PySem.Spec PyProof.Rows L2 LamX
section
variable {P : Program} {w : World} {K : PySem.W.Frag} {mg : Str → Option Value} {base : Heap} {ca : Nat → Option Addr} {T : List (Addr × Str)} {aE aI : Nat → Addr}
theorem ld_all {cd_is_row_of_small : Value} {cd_is_kind : Value} {cd_is_word : Value} {cd_end_of_letters : Value} {cd_token_at : Value} {cd_tokens_of : Value} {cd__law_begun : Value} {cd__law_blend : Value} {cd__law_take : Value} {cd__law_pick : Value} {cd__law_same : Value} {cd__law_tokens : Value} {cd__law_pieces : Value} (S : Ls P w K mg ca aE aI) (D_is_row_of_small : DefF K mg "is_row_of_small" ["thing"] (argsSt (top 8)) (bodySt (top 8)) (scopeSt (top 8)) cd_is_row_of_small) (D_is_kind : DefF K mg "is_kind" ["thing"] (argsSt (top 9)) (bodySt (top 9)) (scopeSt (top 9)) cd_is_kind) (D_is_word : DefF K mg "is_word" ["thing"] (argsSt (top 10)) (bodySt (top 10)) (scopeSt (top 10)) cd_is_word) (D_end_of_letters : DefF K mg "end_of_letters" ["text", "at"] (argsSt (top 16)) (bodySt (top 16)) (scopeSt (top 16)) cd_end_of_letters) (D_token_at : DefF K mg "token_at" ["text", "at"] (argsSt (top 17)) (bodySt (top 17)) (scopeSt (top 17)) cd_token_at) (D_tokens_of : DefF K mg "tokens_of" ["text"] (argsSt (top 18)) (bodySt (top 18)) (scopeSt (top 18)) cd_tokens_of) (D__law_begun : DefF K mg "_law_begun" ["script"] (argsSt (top 20)) (bodySt (top 20)) (scopeSt (top 20)) cd__law_begun) (D__law_blend : DefF K mg "_law_blend" ["draw"] (argsSt (top 21)) (bodySt (top 21)) (scopeSt (top 21)) cd__law_blend) (D__law_take : DefF K mg "_law_take" ["draw", "size"] (argsSt (top 22)) (bodySt (top 22)) (scopeSt (top 22)) cd__law_take) (D__law_pick : DefF K mg "_law_pick" ["draw", "some"] (argsSt (top 23)) (bodySt (top 23)) (scopeSt (top 23)) cd__law_pick) (D__law_same : DefF K mg "_law_same" ["told", "due"] (argsSt (top 25)) (bodySt (top 25)) (scopeSt (top 25)) cd__law_same) (D__law_tokens : DefF K mg "_law_tokens" ["text"] (argsSt (top 26)) (bodySt (top 26)) (scopeSt (top 26)) cd__law_tokens) (D__law_pieces : DefF K mg "_law_pieces" ["draw"] (argsSt (top 27)) (bodySt (top 27)) (scopeSt (top 27)) cd__law_pieces)  : ∀ n, Ld P w K mg base ca T (callF Φ n) (3 * n) aE aI
  | 0 => { S with c_is_row_of_small := cal_zero D_is_row_of_small, c_is_kind := cal_zero D_is_kind, c_is_word := cal_zero D_is_word, c_end_of_letters := cal_zero D_end_of_letters, c_token_at := cal_zero D_token_at, c_tokens_of := cal_zero D_tokens_of, c__law_begun := cal_zero D__law_begun, c__law_blend := cal_zero D__law_blend, c__law_take := cal_zero D__law_take, c__law_pick := cal_zero D__law_pick, c__law_same := cal_zero D__law_same, c__law_tokens := cal_zero D__law_tokens, c__law_pieces := cal_zero D__law_pieces }
  | n + 1 =>
    have L := ld_all S D_is_row_of_small D_is_kind D_is_word D_end_of_letters D_token_at D_tokens_of D__law_begun D__law_blend D__law_take D__law_pick D__law_same D__law_tokens D__law_pieces  n
    { S with c_is_row_of_small := cal_succ D_is_row_of_small Φ_is_row_of_small (C8.fnScope_by (by decide +kernel : C8.scC ["thing", "sign"] ["thing"] (scopeSt (top 8)) = true)) rfl rfl fun f A outer s H E hr hG => b_is_row_of_small L f A outer s H E hr hG, c_is_kind := cal_succ D_is_kind Φ_is_kind (C8.fnScope_by (by decide +kernel : C8.scC ["thing"] ["thing"] (scopeSt (top 9)) = true)) rfl rfl fun f A outer s H E hr hG => b_is_kind L f A outer s H E hr hG, c_is_word := cal_succ D_is_word Φ_is_word (C8.fnScope_by (by decide +kernel : C8.scC ["thing"] ["thing"] (scopeSt (top 10)) = true)) rfl rfl fun f A outer s H E hr hG => b_is_word L f A outer s H E hr hG, c_end_of_letters := cal_succ D_end_of_letters Φ_end_of_letters (C8.fnScope_by (by decide +kernel : C8.scC ["text", "at", "end"] ["text", "at"] (scopeSt (top 16)) = true)) rfl rfl fun f A outer s H E hr hG => b_end_of_letters L f A outer s H E hr hG, c_token_at := cal_succ D_token_at Φ_token_at (C8.fnScope_by (by decide +kernel : C8.scC ["text", "at", "row"] ["text", "at"] (scopeSt (top 17)) = true)) rfl rfl fun f A outer s H E hr hG => b_token_at L f A outer s H E hr hG, c_tokens_of := cal_succ D_tokens_of Φ_tokens_of (C8.fnScope_by (by decide +kernel : C8.scC ["text", "found", "at", "token"] ["text"] (scopeSt (top 18)) = true)) rfl rfl fun f A outer s H E hr hG => b_tokens_of L f A outer s H E hr hG, c__law_begun := cal_succ D__law_begun Φ__law_begun (C8.fnScope_by (by decide +kernel : C8.scC ["script", "large", "cell"] ["script"] (scopeSt (top 20)) = true)) rfl rfl fun f A outer s H E hr hG => b__law_begun L f A outer s H E hr hG, c__law_blend := cal_succ D__law_blend Φ__law_blend (C8.fnScope_by (by decide +kernel : C8.scC ["draw", "prime", "laps", "found", "stirred", "cell"] ["draw"] (scopeSt (top 21)) = true)) rfl rfl fun f A outer s H E hr hG => b__law_blend L f A outer s H E hr hG, c__law_take := cal_succ D__law_take Φ__law_take (C8.fnScope_by (by decide +kernel : C8.scC ["draw", "size", "found"] ["draw", "size"] (scopeSt (top 22)) = true)) rfl rfl fun f A outer s H E hr hG => b__law_take L f A outer s H E hr hG, c__law_pick := cal_succ D__law_pick Φ__law_pick (C8.fnScope_by (by decide +kernel : C8.scC ["draw", "some"] ["draw", "some"] (scopeSt (top 23)) = true)) rfl rfl fun f A outer s H E hr hG => b__law_pick L f A outer s H E hr hG, c__law_same := cal_succ D__law_same Φ__law_same (C8.fnScope_by (by decide +kernel : C8.scC ["told", "due"] ["told", "due"] (scopeSt (top 25)) = true)) rfl rfl fun f A outer s H E hr hG => b__law_same L f A outer s H E hr hG, c__law_tokens := cal_succ D__law_tokens Φ__law_tokens (C8.fnScope_by (by decide +kernel : C8.scC ["text", "small", "great", "found", "at", "sign", "end", "row", "one"] ["text"] (scopeSt (top 26)) = true)) rfl rfl fun f A outer s H E hr hG => b__law_tokens L f A outer s H E hr hG, c__law_pieces := cal_succ D__law_pieces Φ__law_pieces (C8.fnScope_by (by decide +kernel : C8.scC ["draw", "some", "odd", "k"] ["draw"] (scopeSt (top 27)) = true)) rfl rfl fun f A outer s H E hr hG => b__law_pieces L f A outer s H E hr hG }
end
theorem ends {w : World} {h : Heap} {mg : Str → Option Value} {fa : Addr} {K : PySem.W.Frag} {p_is_row_of_small : Addr} {oc_is_row_of_small kV_is_row_of_small doc_is_row_of_small pm_is_row_of_small ct_is_row_of_small : Value} {od_is_row_of_small an_is_row_of_small : Option Addr} {osl_is_row_of_small : Array (Option Value)} {cd_is_row_of_small : Value} {p_is_kind : Addr} {oc_is_kind kV_is_kind doc_is_kind pm_is_kind ct_is_kind : Value} {od_is_kind an_is_kind : Option Addr} {osl_is_kind : Array (Option Value)} {cd_is_kind : Value} {p_is_word : Addr} {oc_is_word kV_is_word doc_is_word pm_is_word ct_is_word : Value} {od_is_word an_is_word : Option Addr} {osl_is_word : Array (Option Value)} {cd_is_word : Value} {p_end_of_letters : Addr} {oc_end_of_letters kV_end_of_letters doc_end_of_letters pm_end_of_letters ct_end_of_letters : Value} {od_end_of_letters an_end_of_letters : Option Addr} {osl_end_of_letters : Array (Option Value)} {cd_end_of_letters : Value} {p_token_at : Addr} {oc_token_at kV_token_at doc_token_at pm_token_at ct_token_at : Value} {od_token_at an_token_at : Option Addr} {osl_token_at : Array (Option Value)} {cd_token_at : Value} {p_tokens_of : Addr} {oc_tokens_of kV_tokens_of doc_tokens_of pm_tokens_of ct_tokens_of : Value} {od_tokens_of an_tokens_of : Option Addr} {osl_tokens_of : Array (Option Value)} {cd_tokens_of : Value} {p__law_begun : Addr} {oc__law_begun kV__law_begun doc__law_begun pm__law_begun ct__law_begun : Value} {od__law_begun an__law_begun : Option Addr} {osl__law_begun : Array (Option Value)} {cd__law_begun : Value} {p__law_blend : Addr} {oc__law_blend kV__law_blend doc__law_blend pm__law_blend ct__law_blend : Value} {od__law_blend an__law_blend : Option Addr} {osl__law_blend : Array (Option Value)} {cd__law_blend : Value} {p__law_take : Addr} {oc__law_take kV__law_take doc__law_take pm__law_take ct__law_take : Value} {od__law_take an__law_take : Option Addr} {osl__law_take : Array (Option Value)} {cd__law_take : Value} {p__law_pick : Addr} {oc__law_pick kV__law_pick doc__law_pick pm__law_pick ct__law_pick : Value} {od__law_pick an__law_pick : Option Addr} {osl__law_pick : Array (Option Value)} {cd__law_pick : Value} {p__law_same : Addr} {oc__law_same kV__law_same doc__law_same pm__law_same ct__law_same : Value} {od__law_same an__law_same : Option Addr} {osl__law_same : Array (Option Value)} {cd__law_same : Value} {p__law_tokens : Addr} {oc__law_tokens kV__law_tokens doc__law_tokens pm__law_tokens ct__law_tokens : Value} {od__law_tokens an__law_tokens : Option Addr} {osl__law_tokens : Array (Option Value)} {cd__law_tokens : Value} {p__law_pieces : Addr} {oc__law_pieces kV__law_pieces doc__law_pieces pm__law_pieces ct__law_pieces : Value} {od__law_pieces an__law_pieces : Option Addr} {osl__law_pieces : Array (Option Value)} {cd__law_pieces : Value} {p_law : Addr} {oc_law kV_law doc_law pm_law ct_law : Value} {od_law an_law : Option Addr} {osl_law : Array (Option Value)} {c_law P_law : Addr} {oc2_law : Value} {od2_law : Option Addr} {osl2_law : Array (Option Value)} {vs_law : Array Value} {u_FIGURES : Value} {u_GREAT : Value} {u_KEPT : Value} {u_LETTERS : Value} {u_MOST_LETTERS : Value} {u_MOST_SIGNS : Value} {u_SIGNS : Value} {u_SMALL : Value} {e_NetError : Addr} {e_BadText : Addr} {i_BadText N_BadText cda_BadText cc_BadText : Addr} {nm_BadText q_BadText qual_BadText msg_BadText file_BadText : Str} {bs_BadText bm_BadText sub_BadText : List Value} {sn_BadText : List Str} {ab_BadText : Bool} {col_BadText : Option Bool} {dd_BadText od_BadText an_BadText cld2_BadText cld3_BadText : Option Addr} {k0_BadText k1_BadText k2_BadText k3_BadText k5_BadText : Option Value} {oc_BadText doc_BadText pm_BadText ct_BadText cl2_BadText cl3_BadText : Value} {osl_BadText csl2_BadText csl3_BadText : Array (Option Value)} {j_BadText : Nat} {p1_BadText p2_BadText q1_BadText q2_BadText q3_BadText q4_BadText q5_BadText q6_BadText r1_BadText r2_BadText r3_BadText r4_BadText : Pos} {vs_BadText : Array Value} {tf_BadText : Tok} {p_cau : Addr} {oc_cau kV_cau doc_cau pm_cau cdv_cau ct_cau : Value} {od_cau an_cau : Option Addr} {params_cau : Arguments} {sg_cau : Scope} {osl_cau : Array (Option Value)} {j_cau : Nat} {p1_cau p2_cau p3_cau p4_cau p5_cau p6_cau p7_cau p8_cau p9_cau p10_cau p11_cau p12_cau p13_cau p14_cau : Pos} (KX : K.In h) (G : h.Ns mainGlobals mg) (hmg : mg "law" = some (.ref fa))
    (a_is_row_of_small : PySem.W.nsIn K mainGlobals "is_row_of_small" = some (some (.ref p_is_row_of_small)))
    (l_is_row_of_small : K.lookup p_is_row_of_small = some ⟨oc_is_row_of_small, od_is_row_of_small, .func (PySem.W.fnOf "is_row_of_small" "is_row_of_small" (argsSt (top 8)) (bodySt (top 8)) (scopeSt (top 8)) .none kV_is_row_of_small doc_is_row_of_small pm_is_row_of_small an_is_row_of_small cd_is_row_of_small ct_is_row_of_small), osl_is_row_of_small⟩)
    (d_is_row_of_small : PySem.W.codeIn K cd_is_row_of_small "is_row_of_small" = true)
    (k_is_row_of_small : PySem.W.keepIn K (.ref p_is_row_of_small) = true)
    (a_is_kind : PySem.W.nsIn K mainGlobals "is_kind" = some (some (.ref p_is_kind)))
    (l_is_kind : K.lookup p_is_kind = some ⟨oc_is_kind, od_is_kind, .func (PySem.W.fnOf "is_kind" "is_kind" (argsSt (top 9)) (bodySt (top 9)) (scopeSt (top 9)) .none kV_is_kind doc_is_kind pm_is_kind an_is_kind cd_is_kind ct_is_kind), osl_is_kind⟩)
    (d_is_kind : PySem.W.codeIn K cd_is_kind "is_kind" = true)
    (k_is_kind : PySem.W.keepIn K (.ref p_is_kind) = true)
    (a_is_word : PySem.W.nsIn K mainGlobals "is_word" = some (some (.ref p_is_word)))
    (l_is_word : K.lookup p_is_word = some ⟨oc_is_word, od_is_word, .func (PySem.W.fnOf "is_word" "is_word" (argsSt (top 10)) (bodySt (top 10)) (scopeSt (top 10)) .none kV_is_word doc_is_word pm_is_word an_is_word cd_is_word ct_is_word), osl_is_word⟩)
    (d_is_word : PySem.W.codeIn K cd_is_word "is_word" = true)
    (k_is_word : PySem.W.keepIn K (.ref p_is_word) = true)
    (a_end_of_letters : PySem.W.nsIn K mainGlobals "end_of_letters" = some (some (.ref p_end_of_letters)))
    (l_end_of_letters : K.lookup p_end_of_letters = some ⟨oc_end_of_letters, od_end_of_letters, .func (PySem.W.fnOf "end_of_letters" "end_of_letters" (argsSt (top 16)) (bodySt (top 16)) (scopeSt (top 16)) .none kV_end_of_letters doc_end_of_letters pm_end_of_letters an_end_of_letters cd_end_of_letters ct_end_of_letters), osl_end_of_letters⟩)
    (d_end_of_letters : PySem.W.codeIn K cd_end_of_letters "end_of_letters" = true)
    (k_end_of_letters : PySem.W.keepIn K (.ref p_end_of_letters) = true)
    (a_token_at : PySem.W.nsIn K mainGlobals "token_at" = some (some (.ref p_token_at)))
    (l_token_at : K.lookup p_token_at = some ⟨oc_token_at, od_token_at, .func (PySem.W.fnOf "token_at" "token_at" (argsSt (top 17)) (bodySt (top 17)) (scopeSt (top 17)) .none kV_token_at doc_token_at pm_token_at an_token_at cd_token_at ct_token_at), osl_token_at⟩)
    (d_token_at : PySem.W.codeIn K cd_token_at "token_at" = true)
    (k_token_at : PySem.W.keepIn K (.ref p_token_at) = true)
    (a_tokens_of : PySem.W.nsIn K mainGlobals "tokens_of" = some (some (.ref p_tokens_of)))
    (l_tokens_of : K.lookup p_tokens_of = some ⟨oc_tokens_of, od_tokens_of, .func (PySem.W.fnOf "tokens_of" "tokens_of" (argsSt (top 18)) (bodySt (top 18)) (scopeSt (top 18)) .none kV_tokens_of doc_tokens_of pm_tokens_of an_tokens_of cd_tokens_of ct_tokens_of), osl_tokens_of⟩)
    (d_tokens_of : PySem.W.codeIn K cd_tokens_of "tokens_of" = true)
    (k_tokens_of : PySem.W.keepIn K (.ref p_tokens_of) = true)
    (a__law_begun : PySem.W.nsIn K mainGlobals "_law_begun" = some (some (.ref p__law_begun)))
    (l__law_begun : K.lookup p__law_begun = some ⟨oc__law_begun, od__law_begun, .func (PySem.W.fnOf "_law_begun" "_law_begun" (argsSt (top 20)) (bodySt (top 20)) (scopeSt (top 20)) .none kV__law_begun doc__law_begun pm__law_begun an__law_begun cd__law_begun ct__law_begun), osl__law_begun⟩)
    (d__law_begun : PySem.W.codeIn K cd__law_begun "_law_begun" = true)
    (k__law_begun : PySem.W.keepIn K (.ref p__law_begun) = true)
    (a__law_blend : PySem.W.nsIn K mainGlobals "_law_blend" = some (some (.ref p__law_blend)))
    (l__law_blend : K.lookup p__law_blend = some ⟨oc__law_blend, od__law_blend, .func (PySem.W.fnOf "_law_blend" "_law_blend" (argsSt (top 21)) (bodySt (top 21)) (scopeSt (top 21)) .none kV__law_blend doc__law_blend pm__law_blend an__law_blend cd__law_blend ct__law_blend), osl__law_blend⟩)
    (d__law_blend : PySem.W.codeIn K cd__law_blend "_law_blend" = true)
    (k__law_blend : PySem.W.keepIn K (.ref p__law_blend) = true)
    (a__law_take : PySem.W.nsIn K mainGlobals "_law_take" = some (some (.ref p__law_take)))
    (l__law_take : K.lookup p__law_take = some ⟨oc__law_take, od__law_take, .func (PySem.W.fnOf "_law_take" "_law_take" (argsSt (top 22)) (bodySt (top 22)) (scopeSt (top 22)) .none kV__law_take doc__law_take pm__law_take an__law_take cd__law_take ct__law_take), osl__law_take⟩)
    (d__law_take : PySem.W.codeIn K cd__law_take "_law_take" = true)
    (k__law_take : PySem.W.keepIn K (.ref p__law_take) = true)
    (a__law_pick : PySem.W.nsIn K mainGlobals "_law_pick" = some (some (.ref p__law_pick)))
    (l__law_pick : K.lookup p__law_pick = some ⟨oc__law_pick, od__law_pick, .func (PySem.W.fnOf "_law_pick" "_law_pick" (argsSt (top 23)) (bodySt (top 23)) (scopeSt (top 23)) .none kV__law_pick doc__law_pick pm__law_pick an__law_pick cd__law_pick ct__law_pick), osl__law_pick⟩)
    (d__law_pick : PySem.W.codeIn K cd__law_pick "_law_pick" = true)
    (k__law_pick : PySem.W.keepIn K (.ref p__law_pick) = true)
    (a__law_same : PySem.W.nsIn K mainGlobals "_law_same" = some (some (.ref p__law_same)))
    (l__law_same : K.lookup p__law_same = some ⟨oc__law_same, od__law_same, .func (PySem.W.fnOf "_law_same" "_law_same" (argsSt (top 25)) (bodySt (top 25)) (scopeSt (top 25)) .none kV__law_same doc__law_same pm__law_same an__law_same cd__law_same ct__law_same), osl__law_same⟩)
    (d__law_same : PySem.W.codeIn K cd__law_same "_law_same" = true)
    (k__law_same : PySem.W.keepIn K (.ref p__law_same) = true)
    (a__law_tokens : PySem.W.nsIn K mainGlobals "_law_tokens" = some (some (.ref p__law_tokens)))
    (l__law_tokens : K.lookup p__law_tokens = some ⟨oc__law_tokens, od__law_tokens, .func (PySem.W.fnOf "_law_tokens" "_law_tokens" (argsSt (top 26)) (bodySt (top 26)) (scopeSt (top 26)) .none kV__law_tokens doc__law_tokens pm__law_tokens an__law_tokens cd__law_tokens ct__law_tokens), osl__law_tokens⟩)
    (d__law_tokens : PySem.W.codeIn K cd__law_tokens "_law_tokens" = true)
    (k__law_tokens : PySem.W.keepIn K (.ref p__law_tokens) = true)
    (a__law_pieces : PySem.W.nsIn K mainGlobals "_law_pieces" = some (some (.ref p__law_pieces)))
    (l__law_pieces : K.lookup p__law_pieces = some ⟨oc__law_pieces, od__law_pieces, .func (PySem.W.fnOf "_law_pieces" "_law_pieces" (argsSt (top 27)) (bodySt (top 27)) (scopeSt (top 27)) .none kV__law_pieces doc__law_pieces pm__law_pieces an__law_pieces cd__law_pieces ct__law_pieces), osl__law_pieces⟩)
    (d__law_pieces : PySem.W.codeIn K cd__law_pieces "_law_pieces" = true)
    (k__law_pieces : PySem.W.keepIn K (.ref p__law_pieces) = true)
    (a_law : PySem.W.nsIn K mainGlobals "law" = some (some (.ref p_law)))
    (l_law : K.lookup p_law = some ⟨oc_law, od_law, .func (PySem.W.fnOf "law" "law" (argsSt (top 28)) (bodySt (top 28)) (scopeSt (top 28)) .none kV_law doc_law pm_law an_law (.ref c_law) ct_law), osl_law⟩)
    (d_law : PySem.W.codeIn K (.ref c_law) "law" = true)
    (k_law : PySem.W.keepIn K (.ref p_law) = true)
    (lc_law : K.lookup c_law = some ⟨oc2_law, od2_law, .fields vs_law, osl2_law⟩)
    (v_law : vs_law[11]? = some (.ref P_law))
    (hc_law : PySem.W.codeHdIn K c_law P_law = true)
    (hH_law : h.get? P_law = some { cls := .none, data := .fields #[] })
    (hN_law : K.lookup P_law = none)
    (n_abs : PySem.W.nsIn K mainGlobals "abs" = some none)
    (n_all : PySem.W.nsIn K mainGlobals "all" = some none)
    (n_int : PySem.W.nsIn K mainGlobals "int" = some none)
    (n_isinstance : PySem.W.nsIn K mainGlobals "isinstance" = some none)
    (n_len : PySem.W.nsIn K mainGlobals "len" = some none)
    (n_min : PySem.W.nsIn K mainGlobals "min" = some none)
    (n_range : PySem.W.nsIn K mainGlobals "range" = some none)
    (n_repr : PySem.W.nsIn K mainGlobals "repr" = some none)
    (n_str : PySem.W.nsIn K mainGlobals "str" = some none)
    (h_FIGURES : PySem.W.nsIn K mainGlobals "FIGURES" = some (some u_FIGURES))
    (q_FIGURES : fastB K g_FIGURES u_FIGURES = true)
    (h_GREAT : PySem.W.nsIn K mainGlobals "GREAT" = some (some u_GREAT))
    (q_GREAT : fastB K g_GREAT u_GREAT = true)
    (h_KEPT : PySem.W.nsIn K mainGlobals "KEPT" = some (some u_KEPT))
    (q_KEPT : fastB K g_KEPT u_KEPT = true)
    (h_LETTERS : PySem.W.nsIn K mainGlobals "LETTERS" = some (some u_LETTERS))
    (q_LETTERS : fastB K g_LETTERS u_LETTERS = true)
    (h_MOST_LETTERS : PySem.W.nsIn K mainGlobals "MOST_LETTERS" = some (some u_MOST_LETTERS))
    (q_MOST_LETTERS : fastB K g_MOST_LETTERS u_MOST_LETTERS = true)
    (h_MOST_SIGNS : PySem.W.nsIn K mainGlobals "MOST_SIGNS" = some (some u_MOST_SIGNS))
    (q_MOST_SIGNS : fastB K g_MOST_SIGNS u_MOST_SIGNS = true)
    (h_SIGNS : PySem.W.nsIn K mainGlobals "SIGNS" = some (some u_SIGNS))
    (q_SIGNS : fastB K g_SIGNS u_SIGNS = true)
    (h_SMALL : PySem.W.nsIn K mainGlobals "SMALL" = some (some u_SMALL))
    (q_SMALL : fastB K g_SMALL u_SMALL = true)
    (e_NetError_ : PySem.W.nsIn K mainGlobals "NetError" = some (some (.ref e_NetError)))
    (e_BadText_ : PySem.W.nsIn K mainGlobals "BadText" = some (some (.ref e_BadText)))
    (eB : List.all [(0, e_NetError), (9, e_BadText)] (errB K [(0, e_NetError), (9, e_BadText)]) = true)
    (xB : List.all [(0, e_NetError), (9, e_BadText)] (exmB K e_NetError) = true)
    (n_super : PySem.W.nsIn K mainGlobals "super" = some none)
    (t_super : (PySem.Challenge.rw_netsled_k02_whole_tokens_of_texts.prog.main.scope.names.lookup ("super" : Str)).isSome = false)
    (i_BadText_ : PySem.W.findIn K (.ref e_BadText) "__init__" = some (some (.ref i_BadText)))
    (sC_BadText : K.lookup e_BadText = some (excClassObj nm_BadText q_BadText e_BadText N_BadText bs_BadText bm_BadText true sn_BadText sub_BadText ab_BadText col_BadText dd_BadText k0_BadText k1_BadText k2_BadText k3_BadText k5_BadText "ValueError.__new__"))
    (sm_BadText : PySem.HandSPX.refsVE bm_BadText = true)
    (sa_BadText : PySem.W.alongIn K "__init__" bm_BadText = some (some (.builtin "ValueError.__init__")))
    (sf_BadText : K.lookup i_BadText = some ⟨oc_BadText, od_BadText, .func (PySem.W.ksFn "__init__" qual_BadText (SX.iA "at" p1_BadText p2_BadText) (SX.iB "at" msg_BadText j_BadText q1_BadText q2_BadText q3_BadText q4_BadText q5_BadText q6_BadText r1_BadText r2_BadText r3_BadText r4_BadText) (SX.iS "at") .none .none doc_BadText pm_BadText an_BadText (.ref cda_BadText) ct_BadText cc_BadText), osl_BadText⟩)
    (sl_BadText : (q3_BadText.endLine == q5_BadText.line) = true)
    (sc_BadText : PySem.W.codeIn K (.ref cda_BadText) qual_BadText = true)
    (s2_BadText : K.lookup cda_BadText = some ⟨cl2_BadText, cld2_BadText, .fields vs_BadText, csl2_BadText⟩)
    (sv_BadText : vs_BadText[2]? = some (.str file_BadText tf_BadText))
    (sg_BadText : ((PySem.Challenge.rw_netsled_k02_whole_tokens_of_texts.prog.main.file : Str) == file_BadText) = true)
    (s3_BadText : K.lookup cc_BadText = some ⟨cl3_BadText, cld3_BadText, .cell (some (.ref e_BadText)), csl3_BadText⟩)
    (sB_BadText : supB K e_BadText i_BadText "at" = true)
    (a_cau : PySem.W.nsIn K mainGlobals "_law_caught" = some (some (.ref p_cau)))
    (l_cau : K.lookup p_cau = some ⟨oc_cau, od_cau, .func (PySem.W.fnOf "_law_caught" "_law_caught" params_cau (cB j_cau p1_cau p2_cau p3_cau p4_cau p5_cau p6_cau p7_cau p8_cau p9_cau p10_cau p11_cau p12_cau p13_cau p14_cau) sg_cau .none  kV_cau doc_cau pm_cau an_cau cdv_cau ct_cau), osl_cau⟩)
    (d_cau : PySem.W.codeIn K cdv_cau "_law_caught" = true)
    (k_cau : PySem.W.keepIn K (.ref p_cau) = true)
    (b_cau : ∀ (kV doc pm ct cdv : Value) (an : Option Addr) (us : List Value), us.length = (["work"] : List Str).length → bindArgs (PySem.W.fnOf "_law_caught" "_law_caught" params_cau (cB j_cau p1_cau p2_cau p3_cau p4_cau p5_cau p6_cau p7_cau p8_cau p9_cau p10_cau p11_cau p12_cau p13_cau p14_cau) sg_cau .none  kV doc pm an cdv ct) ⟨us, []⟩ = pure ((["work"] : List Str).zip us))
    (s_cau : C8.scC cN ["work"] sg_cau = true)
    (ywork_cau : sg_cau.names.lookup ("work" : Str) = some .local)
    (ycaught_cau : sg_cau.names.lookup ("caught" : Str) = some .local)
    (yerror_cau : sg_cau.names.lookup ("error" : Str) = some .local)
    (yNetError_cau : sg_cau.names.lookup ("NetError" : Str) = some .globalImplicit)
    (hu_law : ∀ p ∈ ([(P_law, (("law" : Str) ++ ".<locals>.") ++ "<lambda>")] : List (Addr × Str)), p.1 = P_law → p.2 = (("law" : Str) ++ ".<locals>.") ++ "<lambda>")
    (hv : ∀ ns : List Int, ns.length ≤ 63 → (∀ z ∈ ns, Builtin.Int.intBits z ≤ 1048576) → callF Φ 5 1007 [.scr ns] = .rt (.bl true) []) : LawG PySem.Challenge.rw_netsled_k02_whole_tokens_of_texts w K 15 63 "script" mg fa h := by
  have D_is_row_of_small : DefF K mg "is_row_of_small" ["thing"] (argsSt (top 8)) (bodySt (top 8)) (scopeSt (top 8)) cd_is_row_of_small := defF_mk KX G a_is_row_of_small l_is_row_of_small d_is_row_of_small k_is_row_of_small (fun _ _ _ _ _ us hl => match us, hl with | [_], _ => rfl)
  have D_is_kind : DefF K mg "is_kind" ["thing"] (argsSt (top 9)) (bodySt (top 9)) (scopeSt (top 9)) cd_is_kind := defF_mk KX G a_is_kind l_is_kind d_is_kind k_is_kind (fun _ _ _ _ _ us hl => match us, hl with | [_], _ => rfl)
  have D_is_word : DefF K mg "is_word" ["thing"] (argsSt (top 10)) (bodySt (top 10)) (scopeSt (top 10)) cd_is_word := defF_mk KX G a_is_word l_is_word d_is_word k_is_word (fun _ _ _ _ _ us hl => match us, hl with | [_], _ => rfl)
  have D_end_of_letters : DefF K mg "end_of_letters" ["text", "at"] (argsSt (top 16)) (bodySt (top 16)) (scopeSt (top 16)) cd_end_of_letters := defF_mk KX G a_end_of_letters l_end_of_letters d_end_of_letters k_end_of_letters (fun _ _ _ _ _ us hl => match us, hl with | [_, _], _ => rfl)
  have D_token_at : DefF K mg "token_at" ["text", "at"] (argsSt (top 17)) (bodySt (top 17)) (scopeSt (top 17)) cd_token_at := defF_mk KX G a_token_at l_token_at d_token_at k_token_at (fun _ _ _ _ _ us hl => match us, hl with | [_, _], _ => rfl)
  have D_tokens_of : DefF K mg "tokens_of" ["text"] (argsSt (top 18)) (bodySt (top 18)) (scopeSt (top 18)) cd_tokens_of := defF_mk KX G a_tokens_of l_tokens_of d_tokens_of k_tokens_of (fun _ _ _ _ _ us hl => match us, hl with | [_], _ => rfl)
  have D__law_begun : DefF K mg "_law_begun" ["script"] (argsSt (top 20)) (bodySt (top 20)) (scopeSt (top 20)) cd__law_begun := defF_mk KX G a__law_begun l__law_begun d__law_begun k__law_begun (fun _ _ _ _ _ us hl => match us, hl with | [_], _ => rfl)
  have D__law_blend : DefF K mg "_law_blend" ["draw"] (argsSt (top 21)) (bodySt (top 21)) (scopeSt (top 21)) cd__law_blend := defF_mk KX G a__law_blend l__law_blend d__law_blend k__law_blend (fun _ _ _ _ _ us hl => match us, hl with | [_], _ => rfl)
  have D__law_take : DefF K mg "_law_take" ["draw", "size"] (argsSt (top 22)) (bodySt (top 22)) (scopeSt (top 22)) cd__law_take := defF_mk KX G a__law_take l__law_take d__law_take k__law_take (fun _ _ _ _ _ us hl => match us, hl with | [_, _], _ => rfl)
  have D__law_pick : DefF K mg "_law_pick" ["draw", "some"] (argsSt (top 23)) (bodySt (top 23)) (scopeSt (top 23)) cd__law_pick := defF_mk KX G a__law_pick l__law_pick d__law_pick k__law_pick (fun _ _ _ _ _ us hl => match us, hl with | [_, _], _ => rfl)
  have D__law_same : DefF K mg "_law_same" ["told", "due"] (argsSt (top 25)) (bodySt (top 25)) (scopeSt (top 25)) cd__law_same := defF_mk KX G a__law_same l__law_same d__law_same k__law_same (fun _ _ _ _ _ us hl => match us, hl with | [_, _], _ => rfl)
  have D__law_tokens : DefF K mg "_law_tokens" ["text"] (argsSt (top 26)) (bodySt (top 26)) (scopeSt (top 26)) cd__law_tokens := defF_mk KX G a__law_tokens l__law_tokens d__law_tokens k__law_tokens (fun _ _ _ _ _ us hl => match us, hl with | [_], _ => rfl)
  have D__law_pieces : DefF K mg "_law_pieces" ["draw"] (argsSt (top 27)) (bodySt (top 27)) (scopeSt (top 27)) cd__law_pieces := defF_mk KX G a__law_pieces l__law_pieces d__law_pieces k__law_pieces (fun _ _ _ _ _ us hl => match us, hl with | [_], _ => rfl)
  have D_law : DefF K mg "law" ["script"] (argsSt (top 28)) (bodySt (top 28)) (scopeSt (top 28)) (.ref c_law) := defF_mk KX G a_law l_law d_law k_law (fun _ _ _ _ _ us hl => match us, hl with | [_], _ => rfl)
  have S : Ls PySem.Challenge.rw_netsled_k02_whole_tokens_of_texts.prog w K mg (caL [(0, e_NetError), (9, e_BadText)]) (fun c => (caL [(0, e_NetError), (9, e_BadText)] c).getD 0) (fun c => (List.lookup c ([(9, i_BadText)] : List (Nat × Addr))).getD 0) :=
    { E := errs_mk eB,
      n_abs := PySem.W.mg_none_of KX G n_abs,
      n_all := PySem.W.mg_none_of KX G n_all,
      n_int := PySem.W.mg_none_of KX G n_int,
      n_isinstance := PySem.W.mg_none_of KX G n_isinstance,
      n_len := PySem.W.mg_none_of KX G n_len,
      n_min := PySem.W.mg_none_of KX G n_min,
      n_range := PySem.W.mg_none_of KX G n_range,
      n_repr := PySem.W.mg_none_of KX G n_repr,
      n_str := PySem.W.mg_none_of KX G n_str,
      a_BadText := rfl,
      g_BadText := PySem.W.mg_of KX G e_BadText_,
      r_BadText := sup_mk sB_BadText sC_BadText sm_BadText sa_BadText (PySem.W.mg_none_of KX G n_super) t_super sl_BadText sf_BadText sc_BadText s2_BadText sv_BadText sg_BadText s3_BadText,
      h_FIGURES := glb_mk KX G h_FIGURES q_FIGURES,
      h_GREAT := glb_mk KX G h_GREAT q_GREAT,
      h_KEPT := glb_mk KX G h_KEPT q_KEPT,
      h_LETTERS := glb_mk KX G h_LETTERS q_LETTERS,
      h_MOST_LETTERS := glb_mk KX G h_MOST_LETTERS q_MOST_LETTERS,
      h_MOST_SIGNS := glb_mk KX G h_MOST_SIGNS q_MOST_SIGNS,
      h_SIGNS := glb_mk KX G h_SIGNS q_SIGNS,
      h_SMALL := glb_mk KX G h_SMALL q_SMALL,
      hex := hex_mk xB,
      cau := cau_mk KX G a_cau l_cau d_cau k_cau b_cau s_cau ywork_cau ycaught_cau yerror_cau yNetError_cau e_NetError_ }
  refine lawG_mk (ca := caL [(0, e_NetError), (9, e_BadText)]) (T := [(P_law, (("law" : Str) ++ ".<locals>.") ++ "<lambda>")]) (cs := [(c_law, P_law)]) (Φ := Φ) (n := 5) (i := 1007) (fn := f_law) KX hmg ?_ ?_ ?_ ?_ Φ_law rfl rfl D_law (fun _ _ _ _ _ s u => .of_eq rfl) (fun base hK hG hT f fd hx => ?_) hv
  · intro p hp; simp only [List.mem_cons, List.not_mem_nil, or_false] at hp; rcases hp with rfl
    · exact ⟨c_law, by simp⟩
  · intro p hp; simp only [List.mem_cons, List.not_mem_nil, or_false] at hp; rcases hp with rfl
    · exact hc_law
  · intro p hp; simp only [List.mem_cons, List.not_mem_nil, or_false] at hp; rcases hp with rfl
    · exact hH_law
  · intro p hp; simp only [List.mem_cons, List.not_mem_nil, or_false] at hp; rcases hp with rfl
    · exact hN_law
  · obtain ⟨oc, od, kV, doc, pm, ct, an, osl, hfd, _, h3, h4⟩ := hx
    have L := ld_all (base := base) (T := [(P_law, (("law" : Str) ++ ".<locals>.") ++ "<lambda>")]) S D_is_row_of_small D_is_kind D_is_word D_end_of_letters D_token_at D_tokens_of D__law_begun D__law_blend D__law_take D__law_pick D__law_same D__law_tokens D__law_pieces  4
    exact lawF_succ hfd h3 h4 Φ_law (C8.fnScope_by (by decide +kernel : C8.scC ["script", "draw", "lap", "great", "error", "text", "due"] ["script"] (scopeSt (top 28)) = true)) rfl rfl fun f A outer s H E hr hG => b_law (hT (c_law, P_law) (by simp)) (by simp) hu_law rfl L f A outer s H E hr hG
end PyI

set_option Elab.async false
set_option linter.all false
open PySem PySem.W PyProof.Rows
set_option maxRecDepth 100000 in
set_option maxHeartbeats 0 in
theorem PySem.Challenge.cw_netsled_k02_whole_tokens_of_texts_holds : PySem.Challenge.rw_netsled_k02_whole_tokens_of_texts.Holds := by
  w_on; o_law; k_head; (case hw => w_witness2)
  k_fill
  refine PyI.walk_ofG (l := PySem.Challenge.rw_netsled_k02_whole_tokens_of_texts) (n := 63) (k := 15) (x := "script") rfl (by decide) rfl ⟨rfl, by decide, by decide⟩ (fun w h Y => PySem.W.km_in_of Y) ?F
  case F =>
    intro w mg fa h Y KX G hmg
    refine' PyI.ends KX G hmg ?a_is_row_of_small ?l_is_row_of_small ?d_is_row_of_small ?k_is_row_of_small ?a_is_kind ?l_is_kind ?d_is_kind ?k_is_kind ?a_is_word ?l_is_word ?d_is_word ?k_is_word ?a_end_of_letters ?l_end_of_letters ?d_end_of_letters ?k_end_of_letters ?a_token_at ?l_token_at ?d_token_at ?k_token_at ?a_tokens_of ?l_tokens_of ?d_tokens_of ?k_tokens_of ?a__law_begun ?l__law_begun ?d__law_begun ?k__law_begun ?a__law_blend ?l__law_blend ?d__law_blend ?k__law_blend ?a__law_take ?l__law_take ?d__law_take ?k__law_take ?a__law_pick ?l__law_pick ?d__law_pick ?k__law_pick ?a__law_same ?l__law_same ?d__law_same ?k__law_same ?a__law_tokens ?l__law_tokens ?d__law_tokens ?k__law_tokens ?a__law_pieces ?l__law_pieces ?d__law_pieces ?k__law_pieces ?a_law ?l_law ?d_law ?k_law ?lc_law ?v_law ?hc_law ?hH_law ?hN_law ?n_abs ?n_all ?n_int ?n_isinstance ?n_len ?n_min ?n_range ?n_repr ?n_str ?h_FIGURES ?q_FIGURES ?h_GREAT ?q_GREAT ?h_KEPT ?q_KEPT ?h_LETTERS ?q_LETTERS ?h_MOST_LETTERS ?q_MOST_LETTERS ?h_MOST_SIGNS ?q_MOST_SIGNS ?h_SIGNS ?q_SIGNS ?h_SMALL ?q_SMALL ?e_NetError_ ?e_BadText_ ?eB ?xB ?n_super ?t_super ?i_BadText_ ?sC_BadText ?sm_BadText ?sa_BadText ?sf_BadText ?sl_BadText ?sc_BadText ?s2_BadText ?sv_BadText ?sg_BadText ?s3_BadText ?sB_BadText ?a_cau ?l_cau ?d_cau ?k_cau ?b_cau ?s_cau ?ywork_cau ?ycaught_cau ?yerror_cau ?yNetError_cau ?hu_law PyM.law_true
    (case a_is_row_of_small => k_is)
    (case l_is_row_of_small => k_is)
    (case d_is_row_of_small => k_is)
    (case k_is_row_of_small => k_is)
    (case a_is_kind => k_is)
    (case l_is_kind => k_is)
    (case d_is_kind => k_is)
    (case k_is_kind => k_is)
    (case a_is_word => k_is)
    (case l_is_word => k_is)
    (case d_is_word => k_is)
    (case k_is_word => k_is)
    (case a_end_of_letters => k_is)
    (case l_end_of_letters => k_is)
    (case d_end_of_letters => k_is)
    (case k_end_of_letters => k_is)
    (case a_token_at => k_is)
    (case l_token_at => k_is)
    (case d_token_at => k_is)
    (case k_token_at => k_is)
    (case a_tokens_of => k_is)
    (case l_tokens_of => k_is)
    (case d_tokens_of => k_is)
    (case k_tokens_of => k_is)
    (case a__law_begun => k_is)
    (case l__law_begun => k_is)
    (case d__law_begun => k_is)
    (case k__law_begun => k_is)
    (case a__law_blend => k_is)
    (case l__law_blend => k_is)
    (case d__law_blend => k_is)
    (case k__law_blend => k_is)
    (case a__law_take => k_is)
    (case l__law_take => k_is)
    (case d__law_take => k_is)
    (case k__law_take => k_is)
    (case a__law_pick => k_is)
    (case l__law_pick => k_is)
    (case d__law_pick => k_is)
    (case k__law_pick => k_is)
    (case a__law_same => k_is)
    (case l__law_same => k_is)
    (case d__law_same => k_is)
    (case k__law_same => k_is)
    (case a__law_tokens => k_is)
    (case l__law_tokens => k_is)
    (case d__law_tokens => k_is)
    (case k__law_tokens => k_is)
    (case a__law_pieces => k_is)
    (case l__law_pieces => k_is)
    (case d__law_pieces => k_is)
    (case k__law_pieces => k_is)
    (case a_law => k_is)
    (case l_law => k_is)
    (case d_law => k_is)
    (case k_law => k_is)
    (case lc_law => k_is)
    (case v_law => rfl)
    (case hc_law => kernel_rfl)
    (case hH_law => exact PySem.W.km_tabs_of Y _ (by simp))
    (case hN_law => kernel_rfl)
    (case n_abs => k_is)
    (case n_all => k_is)
    (case n_int => k_is)
    (case n_isinstance => k_is)
    (case n_len => k_is)
    (case n_min => k_is)
    (case n_range => k_is)
    (case n_repr => k_is)
    (case n_str => k_is)
    (case h_FIGURES => k_is)
    (case q_FIGURES => kernel_rfl)
    (case h_GREAT => k_is)
    (case q_GREAT => kernel_rfl)
    (case h_KEPT => k_is)
    (case q_KEPT => kernel_rfl)
    (case h_LETTERS => k_is)
    (case q_LETTERS => kernel_rfl)
    (case h_MOST_LETTERS => k_is)
    (case q_MOST_LETTERS => kernel_rfl)
    (case h_MOST_SIGNS => k_is)
    (case q_MOST_SIGNS => kernel_rfl)
    (case h_SIGNS => k_is)
    (case q_SIGNS => kernel_rfl)
    (case h_SMALL => k_is)
    (case q_SMALL => kernel_rfl)
    (case e_NetError_ => k_is)
    (case e_BadText_ => k_is)
    (case eB => kernel_rfl)
    (case xB => kernel_rfl)
    (case n_super => k_is)
    (case t_super => kernel_rfl)
    (case i_BadText_ => k_is)
    (case sC_BadText => k_is)
    (case sm_BadText => kernel_rfl)
    (case sa_BadText => kernel_rfl)
    (case sf_BadText => k_is)
    (case sl_BadText => rfl)
    (case sc_BadText => k_is)
    (case s2_BadText => k_is)
    (case sv_BadText => rfl)
    (case sg_BadText => kernel_rfl)
    (case s3_BadText => k_is)
    (case sB_BadText => kernel_rfl)
    (case a_cau => k_is)
    (case l_cau => k_is)
    (case d_cau => k_is)
    (case k_cau => k_is)
    (case b_cau => exact fun _ _ _ _ _ _ us hl => match us, hl with | [_], _ => rfl)
    (case s_cau => decide +kernel)
    (case ywork_cau => decide +kernel)
    (case ycaught_cau => decide +kernel)
    (case yerror_cau => decide +kernel)
    (case yNetError_cau => decide +kernel)
    (case hu_law => intro p hp e; simp only [List.mem_cons, List.not_mem_nil, or_false] at hp; rcases hp with rfl <;> first | rfl | exact absurd e (by decide))

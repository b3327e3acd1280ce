import PyProof.Rows.All
import Wide.All
import OpenK.AllK
import Wide.FinOn
import HandS.ForMost
import HandS.ForExc
import HandS.TryMany
import HandS.Wide
import HandS.Gcd
import HandS.Conv
import HandS.IsInst
import HandS.TupAny
import HandS.SortInts
import HandS.Defaults
import HandS.Codes
import HandS.Flow
import HandS.TupMul
import HandS.Style
import HandS.Deep
import HandS.More
import HandS.TupLe
import HandS.Walk
import HandS.OwnEq
import HandS.ExcIs
import HandS.HeadHook2
import HandS.HeadEnd
import HandS.Head3
import HandS.Head0
import HandS.Head1
import HandS.Head2
import KE.KStateDown
import PySem.Challenge.RW_verdictcheaply_k00_ratios_reckoned
set_option autoImplicit false
set_option Elab.async false
set_option linter.all false
set_option maxRecDepth 100000
set_option maxHeartbeats 4000000
/-! PL: a small language with a value semantics: the law's program is read into it; PLs shows that its run is the model's run. -/
namespace PL
open PySem (Str)

/-! ### values -/
inductive Val where
  | non | bl (b : Bool) | int (i : Int) | str (s : Str)
  | tup (vs : List Val) | lst (vs : List Val) | dct (kvs : List (Val × Val)) | ins (c : String) (fs : List (String × Val))
/-- what a name or an attribute holds: a frozen value, or a list, a dict that it alone holds -/
inductive Cell where
  | v (x : Val) | ml (vs : List Val) | md (kvs : List (Val × Val))
/-- .. or an object that it alone holds -/
inductive Slot where
  | cl (x : Cell) | mi (cls : String) (fs : List (String × Cell))
abbrev Slot.v (x : Val) : Slot := .cl (.v x)
abbrev Slot.ml (x : List Val) : Slot := .cl (.ml x)
abbrev Slot.md (x : List (Val × Val)) : Slot := .cl (.md x)
@[simp] def Cell.fz : Cell → Val
  | .v x => x
  | .ml vs => .lst vs
  | .md kvs => .dct kvs
@[simp] def Slot.fz : Slot → Val
  | .cl x => x.fz
  | .mi k fs => .ins k (fs.map fun p => (p.1, p.2.fz))
abbrev Env := List (Option Slot)

/-! ### programs -/
inductive BOp where
  | add | sub | mul | fdiv | mod | pow
  deriving DecidableEq
inductive COp where
  | lt | le | gt | ge | eq | ne | isIn | notIn
  deriving DecidableEq
/-- how an argument is handed on: read alone; frozen first; lent to be changed -/
inductive AM where
  | lend | own | io
  deriving DecidableEq
/-- a place: a name, an attribute of a name's object -/
inductive Pth where
  | var (i : Nat) | fld (i : Nat) (f : String)
  deriving DecidableEq
mutual
/-- a target -/
inductive T where
  | var (i : Nat) | tup (ts : Ts)
inductive Ts where
  | nil | cons (t : T) (ts : Ts)
end
mutual
inductive E where
  | var (i : Nat)
  | non | bl (b : Bool) | int (i : Int) | str (s : Str)
  | glob (x : String)
  | bin (op : BOp) (a b : E)
  | neg (a : E)
  | no (a : E)
  | and (a b : E)
  | or (a b : E)
  | cmp (op : COp) (a b : E)
  | cmp2 (op op' : COp) (a b c : E)
  | isN (neg : Bool) (a : E)
  | isB (neg : Bool) (b : Bool) (a : E)
  | tyIs (neg : Bool) (t : String) (a : E)
  | isi (a : E) (t : String)
  | ite (c a b : E)
  | tup (es : Es) | lst (es : Es) | dct (ks vs : Es)
  | ix (a i : E)
  | sl (a : E) (lo hi : Oe)
  | rev (a : E)
  | call (f : String) (as : As)
  | mk (c : String) (as : As)
  | meth (m : String) (as : As)
  | bi (f : String) (es : Es)
  | fld (i : Nat) (f : String)
  | pop (p : Pth) (i : Oe)
  | get (p d k : E)
  | join (s e : E) | split (s e : E) | index (a e : E)
  | lc (x : E) (t : T) (s : Src) (c : Oe) (own : List Nat)
  | lc2 (x : E) (t : T) (s : Src) (c : Oe) (t' : T) (s' : Src) (c' : Oe) (own own' : List Nat)
  | dc (k x : E) (t : T) (s : Src) (c : Oe) (own : List Nat)
  | fs (es : Es)
inductive Es where
  | nil | cons (e : E) (es : Es)
inductive As where
  | nil | cons (m : AM) (e : E) (as : As)
inductive Oe where
  | none | some (e : E)
/-- what a loop walks -/
inductive Src where
  | it (e : E) | r1 (a : E) | r2 (a b : E) | r3 (a b c : E) | enum (e : E) | enumF (e a : E) | zip (a b : E)
end
mutual
inductive S where
  | asg (t : T) (e : E)
  | setix (p : Pth) (i e : E)
  | setfld (i : Nat) (f : String) (e : E)
  | aug (i : Nat) (op : BOp) (e : E)
  | augfld (i : Nat) (f : String) (op : BOp) (e : E)
  | augix (i : Nat) (k : E) (op : BOp) (e : E)
  | app (p : Pth) (e : E)
  | ins (p : Pth) (i e : E)
  | ext (p : Pth) (e : E)
  | ex (e : E)
  | iff (c : E) (a b : Ss)
  | whl (c : E) (b : Ss)
  | fr (t : T) (s : Src) (b : Ss)
  | ret (e : E)
  | brk | cnt | pass
  | raise (c : String)
  | raiseI (c : String) (e : E)
  | tryO (b : Ss) (c : String) (r : E)
  | tryA (b : Ss) (i : Nat) (c : String) (cs : List (String × E)) (r : Oe)
inductive Ss where
  | nil | cons (s : S) (ss : Ss)
end
/-- a def: its parameters' number, its names' number, those of its parameters that it may change -/
structure Def where
  ps : Nat
  ns : Nat
  io : List Nat
  body : Ss
/-- what a call gives: the value, the lent arguments; an exception (its class, its line) -/
inductive Out where
  | ok (r : Slot) (ios : List Slot)
  | exc (c : String) (ios : List Slot)
  | stuck
/-- what runs -/
structure Ctx where
  call : String → List Slot → Out
  glob : String → Option Val
  /-- is the exception of the class a caught by the clause b -/
  sub : String → String → Option Bool
  io : String → List Nat
  /-- the def's own lent parameters -/
  mine : List Nat
  /-- turns of a while -/
  fuel : Nat
inductive R (α : Type) where
  | ok (a : α) | exc (c : String) (σ : Env) | stuck
@[simp] def R.bind {α β : Type} : R α → (α → R β) → R β
  | .ok a, f => f a
  | .exc c σ, _ => .exc c σ
  | .stuck, _ => .stuck
/-- in a comprehension nothing may be raised -/
@[simp] def R.calm {α : Type} : R α → R α
  | .exc _ _ => .stuck
  | r => r
@[simp] def R.of {α : Type} : Option α → R α
  | some a => .ok a
  | none => .stuck

/-! ### operations -/
abbrev LIM : Nat := 16777216
def truth : Val → Option Bool
  | .non => some false
  | .bl b => some b
  | .int i => some (i != 0)
  | .str s => if s.length ≤ LIM then some (decide (s.length ≠ 0)) else none
  | .tup vs => some (!vs.isEmpty)
  | .lst vs => some (!vs.isEmpty)
  | .dct _ => none
  | .ins _ _ => none
mutual
/-- == of data -/
def Val.eqv : Val → Val → Bool
  | .non, .non => true
  | .bl a, .bl b => a == b
  | .int a, .int b => a == b
  | .bl a, .int b => (if a then (1 : Int) else 0) == b
  | .int a, .bl b => a == (if b then (1 : Int) else 0)
  | .str a, .str b => a == b
  | .tup a, .tup b => eqvs a b
  | .lst a, .lst b => eqvs a b
  | _, _ => false
def eqvs : List Val → List Val → Bool
  | [], [] => true
  | a :: as, b :: bs => Val.eqv a b && eqvs as bs
  | _, _ => false
end
mutual
/-- data: no dicts, no objects; its depth is bounded -/
def Val.isD : Nat → Val → Bool
  | _, .non => true
  | _, .bl _ => true
  | _, .int _ => true
  | _, .str s => PySem.PyData.strOk s
  | n + 1, .tup vs => areD n vs
  | n + 1, .lst vs => areD n vs
  | _, _ => false
def areD : Nat → List Val → Bool
  | _, [] => true
  | n, v :: vs => Val.isD n v && areD n vs
end
/- no list, no dict, no object within -/
mutual
def Val.flat : Val → Bool
  | .tup vs => flats vs
  | .lst _ => false
  | .dct _ => false
  | .ins _ _ => false
  | _ => true
def flats : List Val → Bool
  | [] => true
  | v :: vs => v.flat && flats vs
end
/-- nothing that was handed in can be within -/
def Slot.flat : Slot → Bool
  | .cl (.v x) => x.flat
  | .cl (.ml vs) => flats vs
  | .cl (.md kvs) => flats (kvs.map (·.1)) && flats (kvs.map (·.2))
  | _ => false
/-- the depth to which data may go -/
abbrev DEP : Nat := 60
/-- two that == tells apart at once -/
def scalP : Val → Val → Bool
  | .non, .non => true | .non, .int _ => true | .int _, .non => true | .non, .bl _ => true | .bl _, .non => true | .non, .str _ => true | .str _, .non => true
  | .int _, .int _ => true | .bl _, .bl _ => true | .str _, .str _ => true
  | .int _, .str _ => true | .str _, .int _ => true | .bl _, .str _ => true | .str _, .bl _ => true
  | _, _ => false
def flat0 : Val → Bool
  | .non => true
  | .bl _ => true
  | .int _ => true
  | .str _ => true
  | _ => false
def flats0 : List Val → Bool
  | [] => true
  | v :: r => flat0 v && flats0 r
def anyEq (x : Val) : List Val → Bool
  | [] => false
  | v :: r => v.eqv x || anyEq x r
def valEq (a b : Val) : Option Bool := if scalP a b then some (a.eqv b) else if a.isD DEP && b.isD DEP then some (a.eqv b) else none
def strLt (a b : Str) : Bool := decide (a.cps.toList < b.cps.toList)
def lexInts : List Val → List Val → Option Bool
  | [], [] => some false
  | [], _ :: _ => some true
  | _ :: _, [] => some false
  | .int a :: as, .int b :: bs => if a = b then lexInts as bs else some (decide (a < b))
  | _, _ => none
def allInts : List Val → Bool
  | [] => true
  | .int _ :: r => allInts r
  | _ => false
def mulOk (a b : Int) : Bool := decide (a.natAbs.log2 + b.natAbs.log2 < 134000000)
def ixOf (n : Nat) (i : Int) : Option Nat := if 0 ≤ i then (if i < n then some i.toNat else none) else if -(n : Int) ≤ i then some (i + n).toNat else none
def lookD : List (Val × Val) → Val → Option Val
  | [], _ => none
  | (k, v) :: r, x => if k.eqv x then some v else lookD r x
def putD : List (Val × Val) → Val → Val → List (Val × Val)
  | [], x, y => [(x, y)]
  | (k, v) :: r, x, y => if k.eqv x then (k, y) :: r else (k, v) :: putD r x y
/-- what may be a key: an int, a text, a tuple of these -/
def isKey0 : Val → Bool
  | .int _ => true
  | .str _ => true
  | _ => false
def allKey0 : List Val → Bool
  | [] => true
  | k :: r => isKey0 k && allKey0 r
def isKeyT : Val → Bool
  | .tup vs => allKey0 vs
  | _ => false
/-- a key for this dict: of the kind of those that stand -/
def keyFor (_ : List (Val × Val)) (k : Val) : Bool := isKey0 k
def binV (op : BOp) (a b : Val) : Option Slot :=
  match op, a, b with
  | .add, .int i, .int j => some (.v (.int (i + j)))
  | .sub, .int i, .int j => some (.v (.int (i - j)))
  | .mul, .int i, .int j => if mulOk i j then some (.v (.int (i * j))) else none
  | .fdiv, .int i, .int j => if j ≠ 0 ∧ j.natAbs.log2 < 9000 then some (.v (.int (i.fdiv j))) else none
  | .mod, .int i, .int j => if j ≠ 0 then some (.v (.int (i.fmod j))) else none
  | .pow, .int i, .int j => if 0 ≤ j ∧ j ≤ 1000 ∧ i.natAbs < 18446744073709551616 then some (.v (.int (i ^ j.toNat))) else none
  | .add, .str x, .str y => if x.length + y.length ≤ LIM then some (.v (.str (x ++ y))) else none
  | .add, .tup x, .tup y => if x.length + y.length ≤ LIM then some (.v (.tup (x ++ y))) else none
  | .add, .lst x, .lst y => if x.length + y.length ≤ LIM then some (.ml (x ++ y)) else none
  | .mul, .lst x, .int k => if -(2 ^ 63) ≤ k ∧ k < 2 ^ 63 ∧ x.length * k.toNat ≤ LIM then some (.ml (List.replicate k.toNat x).flatten) else none
  | .mul, .tup x, .int k => if x ≠ [] ∧ 2 ≤ k ∧ k ≤ 1000 ∧ x.length ≤ 1000 then some (.v (.tup (List.replicate k.toNat x).flatten)) else none
  | _, _, _ => none
def subText (x y : Str) : Bool := !(PySem.Builtin.Str.occurrences y x 0 y.length 1).isEmpty
def inL (x : Val) (vs : List Val) : Option Bool := if flat0 x && flats0 vs then some (anyEq x vs) else if x.isD DEP && areD DEP vs then some (anyEq x vs) else none
def inT (x : Val) (vs : List Val) : Option Bool := if flat0 x && flats0 vs then some (anyEq x vs) else none
def cmpV (op : COp) (a b : Val) : Option Bool :=
  match op with
  | .lt => (match a, b with
    | .int i, .int j => some (decide (i < j))
    | .str x, .str y => some (strLt x y)
    | .tup x, .tup y => if allInts x && allInts y then lexInts x y else none
    | _, _ => none)
  | .le => (match a, b with
    | .int i, .int j => some (decide (i ≤ j))
    | _, _ => none)
  | .gt => (match a, b with
    | .int i, .int j => some (decide (j < i))
    | _, _ => none)
  | .ge => (match a, b with
    | .int i, .int j => some (decide (j ≤ i))
    | _, _ => none)
  | .eq => valEq a b
  | .ne => (valEq a b).map (!·)
  | .isIn => (match b with
    | .lst vs => inL a vs
    | .tup vs => inT a vs
    | .dct kvs => if keyFor kvs a then some (lookD kvs a).isSome else none
    | .str y => (match a with
      | .str x => some (subText x y)
      | _ => none)
    | _ => none)
  | .notIn => (match b with
    | .lst vs => (inL a vs).map (!·)
    | .tup vs => (inT a vs).map (!·)
    | .dct kvs => if keyFor kvs a then some (!(lookD kvs a).isSome) else none
    | .str y => (match a with
      | .str x => some (!subText x y)
      | _ => none)
    | _ => none)
def ixV (a i : Val) : Option Val :=
  match a, i with
  | .lst vs, .int k => (ixOf vs.length k).bind fun j => vs[j]?
  | .tup vs, .int k => (ixOf vs.length k).bind fun j => vs[j]?
  | .str x, .int k => if x.length ≤ LIM then (ixOf x.length k).bind fun j => (x.cps[j]?).map fun c => .str ⟨#[c]⟩ else none
  | .dct kvs, k => if keyFor kvs k then lookD kvs k else none
  | _, _ => none
/-- a slice's end as a place -/
def cutIx (n d : Nat) : Option Int → Nat
  | none => d
  | some i => if i < 0 then (i + n).toNat else min i.toNat n
def cutL {α : Type} (xs : List α) (lo hi : Option Int) : List α := (xs.drop (cutIx xs.length 0 lo)).take (cutIx xs.length xs.length hi - cutIx xs.length 0 lo)
def slV (a : Val) (lo hi : Option Int) : Option Slot :=
  match a with
  | .lst vs => some (.ml (cutL vs lo hi))
  | .tup vs => some (.v (.tup (cutL vs lo hi)))
  | .str x => if x.length ≤ LIM then some (.v (.str ⟨(cutL x.cps.toList lo hi).toArray⟩)) else none
  | _ => none
def tyName : Val → String
  | .non => "NoneType"
  | .bl _ => "bool"
  | .int _ => "int"
  | .str _ => "str"
  | .tup _ => "tuple"
  | .lst _ => "list"
  | .dct _ => "dict"
  | .ins c _ => c
def isiKn : Val → Bool
  | .ins _ _ => false
  | _ => true
def tyKn : Val → Bool
  | .ins _ _ => false
  | .dct _ => false
  | _ => true
def isiV (v : Val) (t : String) : Bool := tyName v == t || (t == "int" && tyName v == "bool")
def boolsOf : List Val → Option (List Bool)
  | [] => some []
  | .bl b :: r => (boolsOf r).map (b :: ·)
  | _ => none
def intsOf : List Val → Option (List Int)
  | [] => some []
  | .int i :: r => (intsOf r).map (i :: ·)
  | _ => none
def strsOf : List Val → Option (List Str)
  | [] => some []
  | .str i :: r => (strsOf r).map (i :: ·)
  | _ => none
def charsOf (x : Str) : List Val := x.cps.toList.map fun c => .str ⟨#[c]⟩
/-- the items that a walk over a value gives -/
def itemsV : Val → Option (List Val)
  | .lst vs => some vs
  | .tup vs => some vs
  | _ => none
/- the order of data: ints, texts, tuples and lists of these -/
mutual
def Val.cmpL : Val → Val → Option Ordering
  | .int a, .int b => some (if a < b then .lt else if a = b then .eq else .gt)
  | .str a, .str b => some (if strLt a b then .lt else if a = b then .eq else .gt)
  | .tup a, .tup b => cmpLs a b
  | .lst a, .lst b => cmpLs a b
  | .non, .non => some .eq
  | .bl a, .bl b => some (if a = b then .eq else if b then .lt else .gt)
  | _, _ => none
def cmpLs : List Val → List Val → Option Ordering
  | [], [] => some .eq
  | [], _ :: _ => some .lt
  | _ :: _, [] => some .gt
  | a :: as, b :: bs => match Val.cmpL a b with
    | some .eq => cmpLs as bs
    | r => r
end
def leV (a b : Val) : Bool := match a.cmpL b with
  | some .gt => false
  | _ => true
def insSort : List Val → List Val
  | [] => []
  | x :: r => ins x (insSort r)
where ins (x : Val) : List Val → List Val
  | [] => [x]
  | y :: r => if leV x y then x :: y :: r else y :: ins x r
def ordAll : List Val → Bool
  | [] => true
  | x :: r => r.all (fun y => (x.cmpL y).isSome) && ordAll r
def biLen : List Val → Option Slot
  | [.lst xs] => some (.v (.int xs.length))
  | [.tup xs] => some (.v (.int xs.length))
  | [.dct xs] => some (.v (.int xs.length))
  | [.str x] => if x.length ≤ LIM then some (.v (.int x.length)) else none
  | _ => none
def biAbs : List Val → Option Slot
  | [.int i] => some (.v (.int (if i < 0 then -i else i)))
  | _ => none
def biInt : List Val → Option Slot
  | [.int i] => some (.v (.int i))
  | [.bl b] => some (.v (.int (if b then 1 else 0)))
  | [.str x] => (match PySem.intText? x with
    | some n => if x.length ≤ 640 then some (.v (.int n)) else none
    | none => none)
  | _ => none
def biStr : List Val → Option Slot
  | [.int i] => if i.natAbs.log2 < 1920 then some (.v (.str (toString i))) else none
  | _ => none
def biGcd : List Val → Option Slot
  | [.int a, .int b] => some (.v (.int ((Nat.gcd a.natAbs b.natAbs : Nat) : Int)))
  | _ => none
def biMax : List Val → Option Slot
  | [.int i, .int j] => some (.v (.int (if j > i then j else i)))
  | [.lst xs] => (match intsOf xs with
    | some (n :: r) => some (.v (.int (r.foldl max n)))
    | _ => none)
  | _ => none
def biMin : List Val → Option Slot
  | [.int i, .int j] => some (.v (.int (if j < i then j else i)))
  | [.lst xs] => (match intsOf xs with
    | some (n :: r) => some (.v (.int (r.foldl min n)))
    | _ => none)
  | _ => none
def biSum : List Val → Option Slot
  | [.lst xs] => (intsOf xs).map fun ns => .v (.int ns.sum)
  | _ => none
def biAny : List Val → Option Slot
  | [.lst xs] => (boolsOf xs).map fun bs => .v (.bl (bs.any id))
  | _ => none
def biAll : List Val → Option Slot
  | [.lst xs] => (boolsOf xs).map fun bs => .v (.bl (bs.all id))
  | _ => none
def biList : List Val → Option Slot
  | [.lst xs] => some (.ml xs)
  | [.tup xs] => some (.ml xs)
  | [.dct kvs] => some (.ml (kvs.map (·.1)))
  | _ => none
def biTuple : List Val → Option Slot
  | [.lst xs] => some (.v (.tup xs))
  | [.tup xs] => some (.v (.tup xs))
  | _ => none
def biDict : List Val → Option Slot
  | [.dct kvs] => some (.md kvs)
  | _ => none
def biSorted : List Val → Option Slot
  | [.lst xs] => (intsOf xs).map fun ns => .ml (ns.mergeSort.map .int)
  | _ => none
def biLrange : List Val → Option Slot
  | [.int a, .int b] => if -(2 ^ 62) ≤ a ∧ a < 2 ^ 62 ∧ -(2 ^ 62) ≤ b ∧ b < 2 ^ 62 ∧ (b - a).toNat ≤ LIM then some (.ml ((List.range (b - a).toNat).map fun k => .int (a + (k : Nat)))) else none
  | _ => none
def biV (f : String) (vs : List Val) : Option Slot :=
  match f with
  | "len" => biLen vs
  | "abs" => biAbs vs
  | "int" => biInt vs
  | "str" => biStr vs
  | "gcd" => biGcd vs
  | "max" => biMax vs
  | "min" => biMin vs
  | "sum" => biSum vs
  | "any" => biAny vs
  | "all" => biAll vs
  | "list" => biList vs
  | "tuple" => biTuple vs
  | "dict" => biDict vs
  | "sorted" => biSorted vs
  | "lrange" => biLrange vs
  | _ => none
def joinL (s : List Nat) : List (List Nat) → List Nat
  | [] => []
  | [x] => x
  | x :: r => x ++ s ++ joinL s r
def joinV (s : Str) (xs : List Str) : Str := ⟨(joinL s.cps.toList (xs.map fun x => x.cps.toList)).toArray⟩

/-! ### places -/
def rdP (σ : Env) : Pth → Option Slot
  | .var i => (σ[i]?).join
  | .fld i f => match (σ[i]?).join with
    | some (.mi _ fs) => (fs.lookup f).map Slot.cl
    | some (.cl (.v (.ins _ fs))) => (fs.lookup f).map Slot.v
    | _ => none
def putFld (f : String) (c : Cell) : List (String × Cell) → List (String × Cell)
  | [] => [(f, c)]
  | (g, x) :: r => if g = f then (g, c) :: r else (g, x) :: putFld f c r
def wrP (σ : Env) (p : Pth) (c : Cell) : Option Env :=
  match p with
  | .var i => some (σ.set i (some (.cl c)))
  | .fld i f => match (σ[i]?).join with
    | some (.mi k fs) => some (σ.set i (some (.mi k (putFld f c fs))))
    | _ => none
/-- an argument made ready: a value; what a place holds at the end -/
inductive Pre where
  | val (s : Slot) | at (p : Pth)
def isMl : Option Slot → Bool
  | some (.cl (.ml _)) => true
  | _ => false
def wipeE (σ : Env) : List Nat → Env
  | [] => σ
  | v :: vs => (wipeE σ vs).set v none
/- a target's store: the names alone -/
mutual
def T.put : T → Slot → Env → Option Env
  | .var i, s, σ => some (σ.set i (some s))
  | .tup ts, s, σ => match s.fz with
    | .tup vs => ts.puts vs σ
    | _ => none
def Ts.puts : Ts → List Val → Env → Option Env
  | .nil, [], σ => some σ
  | .cons t ts, v :: vs, σ => (t.put (.v v) σ).bind fun σ' => ts.puts vs σ'
  | _, _, _ => none
end
mutual
def T.ixs : T → List Nat
  | .var i => [i]
  | .tup ts => ts.ixs
def Ts.ixs : Ts → List Nat
  | .nil => []
  | .cons t ts => t.ixs ++ ts.ixs
end
def fillP (σ : Env) : List Pre → Option (List Val)
  | [] => some []
  | .val s :: r => (fillP σ r).map (s.fz :: ·)
  | .at p :: r => (rdP σ p).bind fun s => (fillP σ r).map (s.fz :: ·)
/-- the arguments as slots -/
def argS (σ : Env) : List (AM × Pre) → Option (List Slot)
  | [] => some []
  | (_, .val s) :: r => (argS σ r).map (s :: ·)
  | (.io, .at p) :: r => (rdP σ p).bind fun s => (argS σ r).map (s :: ·)
  | (_, .at p) :: r => (rdP σ p).bind fun s => (argS σ r).map (.v s.fz :: ·)
/-- the lent places are written back -/
def backS (σ : Env) : List (AM × Pre) → List Slot → Option Env
  | [], [] => some σ
  | (.io, .at (.var i)) :: r, s :: ss => backS (σ.set i (some s)) r ss
  | (.io, .at (.fld i f)) :: r, .cl c :: ss => (wrP σ (.fld i f) c).bind fun σ' => backS σ' r ss
  | (.io, .val _) :: r, _ :: ss => backS σ r ss
  | (.lend, _) :: r, ss => backS σ r ss
  | (.own, _) :: r, ss => backS σ r ss
  | _, _ => none
def hasLend : List (AM × Pre) → Bool
  | [] => false
  | (.lend, .at _) :: _ => true
  | _ :: r => hasLend r
/-- behind a call -/
def afterC (σ : Env) (as : List (AM × Pre)) : Out → R (Slot × Env)
  | .ok r ios => (match backS σ as ios with
    | some σ' => if hasLend as && !(r.flat && ios.all Slot.flat) then .stuck else .ok (r, σ')
    | none => .stuck)
  | .exc c ios => (match backS σ as ios with
    | some σ' => .exc c σ'
    | none => .stuck)
  | .stuck => .stuck
/-- the values of a place are frozen -/
def frzP (σ : Env) (p : Pth) : Option (Val × Env) :=
  match rdP σ p with
  | some s => (match s with
    | .cl (.v x) => some (x, σ)
    | s => (match p with
      | .var i => some (s.fz, σ.set i (some (.v s.fz)))
      | .fld i f => (wrP σ (.fld i f) (.v s.fz)).map fun σ' => (s.fz, σ')))
  | none => none
def intO : Val → Option Int
  | .int i => some i
  | _ => none
/-- .. -/
def qual (c m : String) : String := c ++ "." ++ m
def clsOf : Slot → Option String
  | .mi c _ => some c
  | .cl (.v (.ins c _)) => some c
  | _ => none
def clsPre (σ : Env) : List (AM × Pre) → Option String
  | (_, .val s) :: _ => clsOf s
  | (_, .at p) :: _ => (rdP σ p).bind clsOf
  | [] => none
def enumL (n : Int) : List Val → List Val
  | [] => []
  | v :: r => .tup [.int n, v] :: enumL (n + 1) r
def zipL : List Val → List Val → List Val
  | a :: as, b :: bs => .tup [a, b] :: zipL as bs
  | _, _ => []
def rangeL (a b : Int) : List Val := (List.range (b - a).toNat).map fun k => .int (a + (k : Nat))
def inR (a : Int) : Bool := decide (-(2 ^ 62) ≤ a) && decide (a < 2 ^ 62)
def rangeC (a c : Int) (n : Nat) : List Val := (List.range n).map fun k => .int (a + (k : Nat) * c)
/-- one turn behind another -/
def foldC (f : List Val → Val → R (List Val)) : List Val → List Val → R (List Val)
  | acc, [] => .ok acc
  | acc, x :: r => (f acc x).bind fun acc' => foldC f acc' r
def foldK (f : List (Val × Val) → Val → R (List (Val × Val))) : List (Val × Val) → List Val → R (List (Val × Val))
  | acc, [] => .ok acc
  | acc, x :: r => (f acc x).bind fun acc' => foldK f acc' r

/-! ### expressions -/
mutual
def E.ev (X : Ctx) : E → Env → R (Slot × Env)
  | .var i, σ => (match frzP σ (.var i) with
    | some (v, σ') => .ok (.v v, σ')
    | none => .stuck)
  | .non, σ => .ok (.v .non, σ)
  | .bl b, σ => .ok (.v (.bl b), σ)
  | .int i, σ => .ok (.v (.int i), σ)
  | .str s, σ => .ok (.v (.str s), σ)
  | .glob x, σ => (match X.glob x with
    | some v => .ok (.v v, σ)
    | none => .stuck)
  | .bin op a b, σ => (a.pre X σ).bind fun (p, σ1) => (b.pre X σ1).bind fun (q, σ2) => (match fillP σ2 [p, q] with
    | some [x, y] => (match binV op x y with
      | some s => .ok (s, σ2)
      | none => .stuck)
    | _ => .stuck)
  | .neg a, σ => (a.pre X σ).bind fun (p, σ1) => (match fillP σ1 [p] with
    | some [.int i] => .ok (.v (.int (-i)), σ1)
    | _ => .stuck)
  | .no a, σ => (a.pre X σ).bind fun (p, σ1) => (match fillP σ1 [p] with
    | some [v] => (match truth v with
      | some k => .ok (.v (.bl (!k)), σ1)
      | none => .stuck)
    | _ => .stuck)
  | .and a b, σ => (a.ev X σ).bind fun (s, σ1) => (match truth s.fz with
    | some true => b.ev X σ1
    | some false => .ok (.v s.fz, σ1)
    | none => .stuck)
  | .or a b, σ => (a.ev X σ).bind fun (s, σ1) => (match truth s.fz with
    | some true => .ok (.v s.fz, σ1)
    | some false => b.ev X σ1
    | none => .stuck)
  | .cmp op a b, σ => (a.pre X σ).bind fun (p, σ1) => (b.pre X σ1).bind fun (q, σ2) => (match fillP σ2 [p, q] with
    | some [x, y] => (match cmpV op x y with
      | some k => .ok (.v (.bl k), σ2)
      | none => .stuck)
    | _ => .stuck)
  | .cmp2 op op' a b c, σ => (a.pre X σ).bind fun (p, σ1) => (b.pre X σ1).bind fun (q, σ2) => (match fillP σ2 [p, q] with
    | some [x, y] => (match cmpV op x y with
      | some false => .ok (.v (.bl false), σ2)
      | some true => (c.pre X σ2).bind fun (r, σ3) => (match fillP σ3 [q, r] with
        | some [y, z] => (match cmpV op' y z with
          | some k => .ok (.v (.bl k), σ3)
          | none => .stuck)
        | _ => .stuck)
      | none => .stuck)
    | _ => .stuck)
  | .isN n a, σ => (a.pre X σ).bind fun (p, σ1) => (match fillP σ1 [p] with
    | some [.non] => .ok (.v (.bl (!n)), σ1)
    | some [_] => .ok (.v (.bl n), σ1)
    | _ => .stuck)
  | .isB n b a, σ => (a.pre X σ).bind fun (p, σ1) => (match fillP σ1 [p] with
    | some [.bl k] => .ok (.v (.bl ((k == b) != n)), σ1)
    | _ => .stuck)
  | .tyIs n t a, σ => (a.pre X σ).bind fun (p, σ1) => (match fillP σ1 [p] with
    | some [v] => if tyKn v then .ok (.v (.bl ((tyName v == t) != n)), σ1) else .stuck
    | _ => .stuck)
  | .isi a t, σ => (a.pre X σ).bind fun (p, σ1) => (match fillP σ1 [p] with
    | some [v] => if isiKn v then .ok (.v (.bl (isiV v t)), σ1) else .stuck
    | _ => .stuck)
  | .ite c a b, σ => (c.test X σ).bind fun (k, σ1) => if k then a.ev X σ1 else b.ev X σ1
  | .tup es, σ => (es.evs X σ).bind fun (vs, σ1) => if vs.length ≤ LIM then .ok (.v (.tup vs), σ1) else .stuck
  | .lst es, σ => (es.evs X σ).bind fun (vs, σ1) => if vs.length ≤ LIM then .ok (.ml vs, σ1) else .stuck
  | .dct ks es, σ => (ks.evs X σ).bind fun (kl, σ1) => (es.evs X σ1).bind fun (vl, σ2) =>
      if kl.length = vl.length ∧ kl.length ≤ 15 ∧ kl.all isKey0 then .ok (.md ((kl.zip vl).foldl (fun d p => putD d p.1 p.2) []), σ2) else .stuck
  | .ix a i, σ => (a.pre X σ).bind fun (p, σ1) => (i.pre X σ1).bind fun (q, σ2) => (match fillP σ2 [p, q] with
    | some [x, y] => (match ixV x y with
      | some v => .ok (.v v, σ2)
      | none => .stuck)
    | _ => .stuck)
  | .sl a lo hi, σ => (a.pre X σ).bind fun (p, σ1) => (lo.evo X σ1).bind fun (l, σ2) => (hi.evo X σ2).bind fun (h, σ3) => (match fillP σ3 [p] with
    | some [x] => (match slV x l h with
      | some s => .ok (s, σ3)
      | none => .stuck)
    | _ => .stuck)
  | .rev a, σ => (a.pre X σ).bind fun (p, σ1) => (match fillP σ1 [p] with
    | some [.lst vs] => .ok (.ml vs.reverse, σ1)
    | some [.tup vs] => .ok (.v (.tup vs.reverse), σ1)
    | some [.str x] => .ok (.v (.str ⟨x.cps.toList.reverse.toArray⟩), σ1)
    | _ => .stuck)
  | .call f as, σ => (as.pres X σ).bind fun (ps, σ1) => (match argS σ1 ps with
    | some ss => afterC σ1 ps (X.call f ss)
    | none => .stuck)
  | .mk c as, σ => (as.pres X σ).bind fun (ps, σ1) => (match argS σ1 ps with
    | some ss => (match X.call (qual c "__init__") (.mi c [] :: ss) with
      | .ok (.cl (.v .non)) [s] => if hasLend ps then .stuck else .ok (s, σ1)
      | .exc c _ => .exc c σ1
      | _ => .stuck)
    | none => .stuck)
  | .meth m as, σ => (as.pres X σ).bind fun (ps, σ1) => (match clsPre σ1 ps, argS σ1 ps with
    | some c, some ss => afterC σ1 ps (X.call (qual c m) ss)
    | _, _ => .stuck)
  | .bi f es, σ => (es.prs X σ).bind fun (ps, σ1) => (match fillP σ1 ps with
    | some vs => (match biV f vs with
      | some s => .ok (s, σ1)
      | none => .stuck)
    | none => .stuck)
  | .fld i f, σ => (match frzP σ (.fld i f) with
    | some (v, σ') => .ok (.v v, σ')
    | none => .stuck)
  | .pop p i, σ => (i.evo X σ).bind fun (k, σ1) => (match rdP σ1 p with
    | some (.cl (.ml vs)) => (match k with
      | none => (match vs.getLast? with
        | some v => (match wrP σ1 p (.ml vs.dropLast) with
          | some σ2 => .ok (.v v, σ2)
          | none => .stuck)
        | none => .stuck)
      | some k => (match ixOf vs.length k with
        | some j => (match vs[j]?, wrP σ1 p (.ml (vs.eraseIdx j)) with
          | some v, some σ2 => .ok (.v v, σ2)
          | _, _ => .stuck)
        | none => .stuck))
    | _ => .stuck)
  | .get d k x, σ => (d.pre X σ).bind fun (p, σ1) => (k.pre X σ1).bind fun (q, σ2) => (x.pre X σ2).bind fun (r, σ3) => (match fillP σ3 [p, q, r] with
    | some [.dct kvs, y, z] => if keyFor kvs y then .ok (.v ((lookD kvs y).getD z), σ3) else .stuck
    | _ => .stuck)
  | .join s e, σ => (s.pre X σ).bind fun (p, σ1) => (e.pre X σ1).bind fun (q, σ2) => (match fillP σ2 [p, q] with
    | some [.str s, .lst xs] => (match strsOf xs with
      | some ts => if (joinV s ts).length ≤ LIM then .ok (.v (.str (joinV s ts)), σ2) else .stuck
      | none => .stuck)
    | _ => .stuck)
  | .split s e, σ => (s.pre X σ).bind fun (p, σ1) => (e.pre X σ1).bind fun (q, σ2) => (match fillP σ2 [p, q] with
    | some [.str s, .str t] => if t.length ≠ 0 ∧ s.length + 2 ≤ LIM then .ok (.ml ((PySem.Txt.split s t).map .str), σ2) else .stuck
    | _ => .stuck)
  | .index a e, σ => (a.pre X σ).bind fun (p, σ1) => (e.pre X σ1).bind fun (q, σ2) => (match fillP σ2 [p, q] with
    | some [.lst xs, y] => (match xs.findIdx? (fun x => x.eqv y) with
      | some j => if xs.all isKey0 && isKey0 y then .ok (.v (.int j), σ2) else .stuck
      | none => .stuck)
    | _ => .stuck)
  | .lc x t s c own, σ => (s.evs X σ).bind fun (xs, σ1) =>
      (foldC (fun acc v => (match t.put (.v v) (wipeE σ1 own) with
        | some σ2 => (c.cond X σ2).calm.bind fun (k, σ3) => if k then (x.ev X σ3).calm.bind fun (s, _) => if acc.length < LIM then .ok (acc ++ [s.fz]) else .stuck else .ok acc
        | none => .stuck)) [] xs).bind fun vs => .ok (.ml vs, σ1)
  | .lc2 x t s c t' s' c' own own', σ => (s.evs X σ).bind fun (xs, σ1) =>
      (foldC (fun acc v => (match t.put (.v v) (wipeE σ1 own) with
        | some σ2 => (c.cond X σ2).calm.bind fun (k, σ3) => if k then (s'.evs X σ3).calm.bind fun (ys, σ4) =>
            foldC (fun acc w => (match t'.put (.v w) (wipeE σ4 own') with
              | some σ5 => (c'.cond X σ5).calm.bind fun (k, σ6) => if k then (x.ev X σ6).calm.bind fun (s, _) => if acc.length < LIM then .ok (acc ++ [s.fz]) else .stuck else .ok acc
              | none => .stuck)) acc ys
          else .ok acc
        | none => .stuck)) [] xs).bind fun vs => .ok (.ml vs, σ1)
  | .dc k x t s c own, σ => (s.evs X σ).bind fun (xs, σ1) =>
      (foldK (fun acc v => (match t.put (.v v) (wipeE σ1 own) with
        | some σ2 => (c.cond X σ2).calm.bind fun (b, σ3) => if b then (k.ev X σ3).calm.bind fun (ks, σ4) => (x.ev X σ4).calm.bind fun (s, _) =>
            if acc.length < LIM ∧ keyFor acc ks.fz then .ok (putD acc ks.fz s.fz) else .stuck else .ok acc
        | none => .stuck)) [] xs).bind fun kvs => .ok (.md kvs, σ1)
  | .fs es, σ => (es.evs X σ).bind fun (vs, σ1) => (match (vs.mapM fun v => (match v with
      | .str x => some x
      | .int i => if i.natAbs.log2 < 1920 then some (toString i) else none
      | _ => none) : Option (List Str)) with
    | some ts => if (joinV ⟨#[]⟩ ts).length ≤ LIM then .ok (.v (.str (joinV ⟨#[]⟩ ts)), σ1) else .stuck
    | none => .stuck)
/-- an operand: a place is read when all stand -/
def E.pre (X : Ctx) : E → Env → R (Pre × Env)
  | .var i, σ => (match rdP σ (.var i) with
    | some _ => .ok (.at (.var i), σ)
    | none => .stuck)
  | .fld i f, σ => (match rdP σ (.fld i f) with
    | some _ => .ok (.at (.fld i f), σ)
    | none => .stuck)
  | e, σ => (e.ev X σ).bind fun (s, σ1) => .ok (.val (.v s.fz), σ1)
/-- a test -/
def E.test (X : Ctx) : E → Env → R (Bool × Env)
  | .no a, σ => (a.test X σ).bind fun (k, σ1) => .ok (!k, σ1)
  | .and a b, σ => (a.test X σ).bind fun (k, σ1) => if k then b.test X σ1 else .ok (false, σ1)
  | .or a b, σ => (a.test X σ).bind fun (k, σ1) => if k then .ok (true, σ1) else b.test X σ1
  | .ite c a b, σ => (c.test X σ).bind fun (k, σ1) => if k then a.test X σ1 else b.test X σ1
  | e, σ => (e.pre X σ).bind fun (p, σ1) => (match fillP σ1 [p] with
    | some [v] => (match truth v with
      | some k => .ok (k, σ1)
      | none => .stuck)
    | _ => .stuck)
def Es.evs (X : Ctx) : Es → Env → R (List Val × Env)
  | .nil, σ => .ok ([], σ)
  | .cons e es, σ => (e.ev X σ).bind fun (s, σ1) => (es.evs X σ1).bind fun (vs, σ2) => .ok (s.fz :: vs, σ2)
def Es.prs (X : Ctx) : Es → Env → R (List Pre × Env)
  | .nil, σ => .ok ([], σ)
  | .cons e es, σ => (e.pre X σ).bind fun (p, σ1) => (es.prs X σ1).bind fun (ps, σ2) => .ok (p :: ps, σ2)
def As.pres (X : Ctx) : As → Env → R (List (AM × Pre) × Env)
  | .nil, σ => .ok ([], σ)
  | .cons .own e as, σ => (e.ev X σ).bind fun (s, σ1) => (as.pres X σ1).bind fun (ps, σ2) => .ok ((.own, .val (.v s.fz)) :: ps, σ2)
  | .cons .lend e as, σ => (e.pre X σ).bind fun (p, σ1) => (as.pres X σ1).bind fun (ps, σ2) => .ok ((.lend, p) :: ps, σ2)
  | .cons .io e as, σ => (match e with
    | .var i => (as.pres X σ).bind fun (ps, σ2) => .ok ((.io, .at (.var i)) :: ps, σ2)
    | .fld i f => (as.pres X σ).bind fun (ps, σ2) => .ok ((.io, .at (.fld i f)) :: ps, σ2)
    | e => (e.ev X σ).bind fun (s, σ1) => (as.pres X σ1).bind fun (ps, σ2) => .ok ((.io, .val s) :: ps, σ2))
def Oe.evo (X : Ctx) : Oe → Env → R (Option Int × Env)
  | .none, σ => .ok (none, σ)
  | .some e, σ => (e.pre X σ).bind fun (p, σ1) => (match fillP σ1 [p] with
    | some [.int i] => .ok (some i, σ1)
    | _ => .stuck)
def Oe.cond (X : Ctx) : Oe → Env → R (Bool × Env)
  | .none, σ => .ok (true, σ)
  | .some e, σ => e.test X σ
def Src.evs (X : Ctx) : Src → Env → R (List Val × Env)
  | .it e, σ => (e.ev X σ).bind fun (s, σ1) => (match itemsV s.fz with
    | some vs => .ok (vs, σ1)
    | none => .stuck)
  | .r1 a, σ => (a.pre X σ).bind fun (p, σ1) => (match fillP σ1 [p] with
    | some [.int i] => if inR i then .ok (rangeL 0 i, σ1) else .stuck
    | _ => .stuck)
  | .r2 a b, σ => (a.pre X σ).bind fun (p, σ1) => (b.pre X σ1).bind fun (q, σ2) => (match fillP σ2 [p, q] with
    | some [.int i, .int j] => if inR i && inR j then .ok (rangeL i j, σ2) else .stuck
    | _ => .stuck)
  | .r3 a b c, σ => (a.pre X σ).bind fun (p, σ1) => (b.pre X σ1).bind fun (q, σ2) => (c.pre X σ2).bind fun (r, σ3) => (match fillP σ3 [p, q, r] with
    | some [.int i, .int j, .int (-1)] => if inR i && inR j then .ok (rangeC i (-1) (i - j).toNat, σ3) else .stuck
    | _ => .stuck)
  | .enum e, σ => (e.ev X σ).bind fun (s, σ1) => (match s.fz with
    | .lst vs => .ok (enumL 0 vs, σ1)
    | .tup vs => .ok (enumL 0 vs, σ1)
    | _ => .stuck)
  | .enumF e a, σ => (e.ev X σ).bind fun (s, σ1) => (a.pre X σ1).bind fun (p, σ2) => (match s.fz, fillP σ2 [p] with
    | .lst vs, some [.int k] => if inR k then .ok (enumL k vs, σ2) else .stuck
    | .tup vs, some [.int k] => if inR k then .ok (enumL k vs, σ2) else .stuck
    | _, _ => .stuck)
  | .zip a b, σ => (a.ev X σ).bind fun (s, σ1) => (b.ev X σ1).bind fun (t, σ2) => (match itemsV s.fz, itemsV t.fz with
    | some xs, some ys => .ok (zipL xs ys, σ2)
    | _, _ => .stuck)
end

/-! ### statements -/
inductive Fl where
  | next (σ : Env) | ret (s : Slot) (σ : Env) | brk (σ : Env) | cnt (σ : Env) | exc (c : String) (σ : Env) | stuck
@[simp] def R.fl {α : Type} : R α → (α → Fl) → Fl
  | .ok a, f => f a
  | .exc c σ, _ => .exc c σ
  | .stuck, _ => .stuck
def loopF (f : Val → Env → Fl) : List Val → Env → Fl
  | [], σ => .next σ
  | x :: r, σ => match f x σ with
    | .next σ' => loopF f r σ'
    | .cnt σ' => loopF f r σ'
    | .brk σ' => .next σ'
    | fl => fl
def loopW (c : Env → R (Bool × Env)) (f : Env → Fl) : Nat → Env → Fl
  | 0, _ => .stuck
  | n + 1, σ => (c σ).fl fun (k, σ1) => if k then (match f σ1 with
      | .next σ' => loopW c f n σ'
      | .cnt σ' => loopW c f n σ'
      | .brk σ' => .next σ'
      | fl => fl) else .next σ1
/-- a name's store: a lent parameter stays what it is -/
def okPut (X : Ctx) (is : List Nat) : Bool := is.all fun i => !X.mine.contains i
def catch_ (X : Ctx) (cs : List (String × E)) (σ : Env) (c : String) : Option (R (Slot × Env)) :=
  match cs with
  | [] => none
  | (d, e) :: r => match X.sub c d with
    | some true => some (e.ev X σ)
    | some false => catch_ X r σ c
    | none => some .stuck
mutual
def S.run (X : Ctx) : S → Env → Fl
  | .asg t e, σ => if okPut X t.ixs then (e.ev X σ).fl fun (s, σ1) => (match t.put s σ1 with
    | some σ2 => .next σ2
    | none => .stuck) else .stuck
  | .setix p i e, σ => (e.ev X σ).fl fun (s, σ1) => (i.pre X σ1).fl fun (q, σ2) => (match rdP σ2 p, fillP σ2 [q] with
    | some (.cl (.ml vs)), some [.int k] => (match ixOf vs.length k with
      | some j => (match wrP σ2 p (.ml (vs.set j s.fz)) with
        | some σ3 => .next σ3
        | none => .stuck)
      | none => .stuck)
    | some (.cl (.md kvs)), some [k] => if keyFor kvs k && decide (kvs.length < LIM) then (match wrP σ2 p (.md (putD kvs k s.fz)) with
        | some σ3 => .next σ3
        | none => .stuck) else .stuck
    | _, _ => .stuck)
  | .setfld i f e, σ => (e.ev X σ).fl fun (s, σ1) => (match s with
    | .cl c => (match wrP σ1 (.fld i f) c with
      | some σ2 => .next σ2
      | none => .stuck)
    | .mi k fs => (match wrP σ1 (.fld i f) (.v (Slot.fz (.mi k fs))) with
      | some σ2 => .next σ2
      | none => .stuck))
  | .aug i op e, σ => if okPut X [i] then (e.pre X σ).fl fun (q, σ1) => (match fillP σ1 [.at (.var i), q] with
    | some [x, y] => (match x, binV op x y with
      | .lst _, _ => .stuck
      | _, some s => .next (σ1.set i (some s))
      | _, none => .stuck)
    | _ => .stuck) else .stuck
  | .augfld i f op e, σ => (e.pre X σ).fl fun (q, σ1) => (match fillP σ1 [.at (.fld i f), q] with
    | some [.int x, .int y] => (match op with
      | .add => (match wrP σ1 (.fld i f) (.v (.int (x + y))) with
        | some σ2 => .next σ2
        | none => .stuck)
      | .sub => (match wrP σ1 (.fld i f) (.v (.int (x - y))) with
        | some σ2 => .next σ2
        | none => .stuck)
      | _ => .stuck)
    | _ => .stuck)
  | .augix i k op e, σ => (k.pre X σ).fl fun (q, σ1) => (e.pre X σ1).fl fun (r, σ2) => (match rdP σ2 (.var i), fillP σ2 [q, r] with
    | some (.cl (.md kvs)), some [kk, .int y] => (match lookD kvs kk, op with
      | some (.int x), .add => if keyFor kvs kk then .next (σ2.set i (some (.md (putD kvs kk (.int (x + y)))))) else .stuck
      | _, _ => .stuck)
    | _, _ => .stuck)
  | .app p e, σ => if isMl (rdP σ p) then (e.ev X σ).fl fun (s, σ1) => (match rdP σ1 p with
    | some (.cl (.ml vs)) => if vs.length < LIM then (match wrP σ1 p (.ml (vs ++ [s.fz])) with
      | some σ2 => .next σ2
      | none => .stuck) else .stuck
    | _ => .stuck) else .stuck
  | .ins p i e, σ => (i.pre X σ).fl fun (q, σ1) => (e.ev X σ1).fl fun (s, σ2) => (match rdP σ2 p, fillP σ2 [q] with
    | some (.cl (.ml vs)), some [.int k] => if vs.length < LIM ∧ 0 ≤ k ∧ k ≤ vs.length then (match wrP σ2 p (.ml (vs.take k.toNat ++ s.fz :: vs.drop k.toNat)) with
      | some σ3 => .next σ3
      | none => .stuck) else .stuck
    | _, _ => .stuck)
  | .ext p e, σ => (e.ev X σ).fl fun (s, σ1) => (match rdP σ1 p, s.fz with
    | some (.cl (.ml vs)), .lst ws => if vs.length + ws.length ≤ LIM then (match wrP σ1 p (.ml (vs ++ ws)) with
      | some σ2 => .next σ2
      | none => .stuck) else .stuck
    | _, _ => .stuck)
  | .ex e, σ => (e.ev X σ).fl fun (_, σ1) => .next σ1
  | .iff c a b, σ => (c.test X σ).fl fun (k, σ1) => if k then a.runs X σ1 else b.runs X σ1
  | .whl c b, σ => loopW (fun σ => c.test X σ) (fun σ => b.runs X σ) X.fuel σ
  | .fr t s b, σ => if okPut X t.ixs then (s.evs X σ).fl fun (xs, σ1) => loopF (fun v σ => (match t.put (.v v) σ with
    | some σ' => b.runs X σ'
    | none => .stuck)) xs σ1 else .stuck
  | .ret e, σ => (match e with
    | .var i => if X.mine.contains i then (e.ev X σ).fl fun (s, σ1) => .ret s σ1 else (match rdP σ (.var i) with
      | some s => .ret s (σ.set i none)
      | none => .stuck)
    | e => (e.ev X σ).fl fun (s, σ1) => .ret s σ1)
  | .brk, σ => .brk σ
  | .cnt, σ => .cnt σ
  | .pass, σ => .next σ
  | .raise c, σ => .exc c σ
  | .raiseI _ _, _ => .stuck
  | .tryO b c r, σ => (match b.runs X σ with
    | .exc d σ1 => (match X.sub d c with
      | some true => (r.ev X σ1).fl fun (s, σ2) => .ret s σ2
      | some false => .exc d σ1
      | none => .stuck)
    | fl => fl)
  | .tryA b _ c cs r, σ => (match b.runs X σ with
    | .exc d σ1 => (match X.sub d c with
      | some true => (match catch_ X cs σ1 d with
        | some q => q.fl fun (s, σ2) => .ret s σ2
        | none => (match r with
          | .none => .next σ1
          | .some e => (e.ev X σ1).fl fun (s, σ2) => .ret s σ2))
      | some false => .exc d σ1
      | none => .stuck)
    | fl => fl)
def Ss.runs (X : Ctx) : Ss → Env → Fl
  | .nil, σ => .next σ
  | .cons s ss, σ => match s.run X σ with
    | .next σ' => ss.runs X σ'
    | fl => fl
end
/-! ### defs -/
structure Prog where
  fn : String → Option Def
  glob : String → Option Val
  sub : String → String → Option Bool
  fuel : Nat
def iosOf (σ : Env) : List Nat → Option (List Slot)
  | [] => some []
  | i :: r => (σ[i]?).join.bind fun s => (iosOf σ r).map (s :: ·)
def endF (io : List Nat) : Fl → Out
  | .next σ => (match iosOf σ io with
    | some ss => .ok (.v .non) ss
    | none => .stuck)
  | .ret s σ => (match iosOf σ io with
    | some ss => .ok s ss
    | none => .stuck)
  | .exc c σ => (match iosOf σ io with
    | some ss => .exc c ss
    | none => .stuck)
  | _ => .stuck
/-- may a slot be handed in at this place -/
def argOk (io : List Nat) : Nat → List Slot → Bool
  | _, [] => true
  | i, s :: r => (io.contains i || (match s with
    | .cl (.v _) => true
    | _ => false)) && argOk io (i + 1) r
def mkC (P : Prog) (call : String → List Slot → Out) (io : List Nat) : Ctx := { call := call, glob := P.glob, sub := P.sub, io := fun f => ((P.fn f).map (·.io)).getD [], mine := io, fuel := P.fuel }
def callF (P : Prog) : Nat → String → List Slot → Out
  | 0, _, _ => .stuck
  | n + 1, f, args => match P.fn f with
    | none => .stuck
    | some d => if args.length = d.ps ∧ argOk d.io 0 args = true then endF d.io (d.body.runs (mkC P (callF P n) d.io) (args.map some ++ List.replicate (d.ns - d.ps) none)) else .stuck
def ctxF (P : Prog) (n : Nat) (io : List Nat) : Ctx := mkC P (callF P n) io
end PL
/-! PA: how values stand in the heap. -/
namespace PL
open PySem PySem.Spec PyProof.Rows L2

abbrev AS := Addr → Prop
abbrev VS := List (Option V)
/-- what the text's objects are: the written part, where the classes stand -/
structure Cfg where
  K : PySem.W.Frag
  cA : String → Addr
  fA : String → Addr
  pN : String → List Str
def keyV : Val → Option Key
  | .int i => some (.inl i)
  | .str s => some (.inr s)
  | _ => none
/-- nothing tracked -/
abbrev noH : Hp := fun _ => none
section
variable (c : Cfg) (F : AS) (H : Hp)
mutual
/-- a frozen value stands at x: its objects are all in F -/
def Rp : Val → V → Prop
  | .non, x => x = .non
  | .bl b, x => x = .bl b
  | .int i, x => x = .int i
  | .str s, x => x = .str s
  | .tup vs, x => ∃ a xs, x = .ref a ∧ ((H a = some (.tup xs) ∧ F a) ∨ SqT c.K noH a xs) ∧ Rps vs xs
  | .lst vs, x => ∃ a xs, x = .ref a ∧ F a ∧ Rd H a (.lst xs) ∧ Rps vs xs
  | .dct kvs, x => ∃ a kx, x = .ref a ∧ F a ∧ Rd H a (.dK kx) ∧ RpK kvs kx
  | .ins k fs, x => ∃ a dx fx, x = .ref a ∧ F a ∧ H a = some (.ins (c.cA k) dx fx) ∧ RpF fs fx
def Rps : List Val → List V → Prop
  | [], xs => xs = []
  | v :: vs, xs => ∃ x r, xs = x :: r ∧ Rp v x ∧ Rps vs r
def RpK : List (Val × Val) → List (Key × V) → Prop
  | [], xs => xs = []
  | (k, v) :: vs, xs => ∃ kk x r, xs = (kk, x) :: r ∧ keyV k = some kk ∧ Rp v x ∧ RpK vs r
def RpF : List (String × Val) → List (Str × V) → Prop
  | [], xs => xs = []
  | (f, v) :: vs, xs => ∃ x r, xs = (Str.ofString f, x) :: r ∧ Rp v x ∧ RpF vs r
end
/-- a name's, an attribute's content: S is what it alone holds -/
def RpC : Cell → V → AS → Prop
  | .v v, x, S => Rp c F H v x ∧ ∀ a, ¬ S a
  | .ml vs, x, S => ∃ a xs, x = .ref a ∧ ¬ F a ∧ H a = some (.lst xs) ∧ Rps c F H vs xs ∧ ∀ b, S b ↔ b = a
  | .md kvs, x, S => ∃ a kx, x = .ref a ∧ ¬ F a ∧ H a = some (.dK kx) ∧ RpK c F H kvs kx ∧ ∀ b, S b ↔ b = a
def RpCs : List (String × Cell) → List (Str × V) → AS → Prop
  | [], fx, S => fx = [] ∧ ∀ a, ¬ S a
  | (f, d) :: r, fx, S => ∃ x rx S1 S2, fx = (Str.ofString f, x) :: rx ∧ RpC c F H d x S1 ∧ RpCs r rx S2 ∧ (∀ a, S1 a → ¬ S2 a) ∧ ∀ a, S a ↔ S1 a ∨ S2 a
def RpS : Slot → V → AS → Prop
  | .cl d, x, S => RpC c F H d x S
  | .mi k fs, x, S => ∃ a dx fx S', x = .ref a ∧ ¬ F a ∧ H a = some (.ins (c.cA k) dx fx) ∧ RpCs c F H fs fx S' ∧ ¬ S' a ∧ ∀ b, S b ↔ b = a ∨ S' b
end
/-- what the stability of a value leans on -/
structure Sb (F : AS) (H H' : Hp) : Prop where
  rd : ∀ a u, F a → Rd H a u → Rd H' a u
  tup : ∀ a xs, F a → H a = some (.tup xs) → H' a = some (.tup xs)
  ins : ∀ a C dx fs, F a → H a = some (.ins C dx fs) → H' a = some (.ins C dx fs)
theorem Sb.of {F : AS} {H H' : Hp} (h : ∀ a o, F a → H a = some o → H' a = some o) : Sb F H H' where
  rd := fun a u f r => r.elim (fun e => .inl (h a _ f e)) fun ⟨o, e⟩ => .inr ⟨o, h a _ f e⟩
  tup := fun a xs f e => h a _ f e
  ins := fun a C dx fs f e => h a _ f e
theorem Sb.refl {F : AS} {H : Hp} : Sb F H H := Sb.of fun _ _ _ e => e
section
variable {c : Cfg} {F F' : AS} {H H' : Hp}
mutual
theorem Rp.mono (hF : ∀ a, F a → F' a) (s : Sb F H H') : ∀ {v : Val} {x : V}, Rp c F H v x → Rp c F' H' v x
  | .non, _, h => by simpa only [Rp] using h
  | .bl _, _, h => by simpa only [Rp] using h
  | .int _, _, h => by simpa only [Rp] using h
  | .str _, _, h => by simpa only [Rp] using h
  | .tup vs, _, h => by
    simp only [Rp] at h ⊢
    obtain ⟨a, xs, e, r, q⟩ := h
    refine ⟨a, xs, e, ?_, Rps.mono hF s q⟩
    rcases r with ⟨r, f⟩ | r
    · exact .inl ⟨s.tup a xs f r, hF a f⟩
    · exact .inr r
  | .lst vs, _, h => by
    simp only [Rp] at h ⊢
    obtain ⟨a, xs, e, f, r, q⟩ := h
    exact ⟨a, xs, e, hF a f, s.rd a _ f r, Rps.mono hF s q⟩
  | .dct kvs, _, h => by
    simp only [Rp] at h ⊢
    obtain ⟨a, kx, e, f, r, q⟩ := h
    exact ⟨a, kx, e, hF a f, s.rd a _ f r, RpK.mono hF s q⟩
  | .ins k fs, _, h => by
    simp only [Rp] at h ⊢
    obtain ⟨a, dx, fx, e, f, r, q⟩ := h
    exact ⟨a, dx, fx, e, hF a f, s.ins a _ _ _ f r, RpF.mono hF s q⟩
theorem Rps.mono (hF : ∀ a, F a → F' a) (s : Sb F H H') : ∀ {v : List Val} {x : List V}, Rps c F H v x → Rps c F' H' v x
  | [], _, h => by simpa only [Rps] using h
  | v :: vs, _, h => by
    simp only [Rps] at h ⊢
    obtain ⟨x, r, e, q1, q2⟩ := h
    exact ⟨x, r, e, Rp.mono hF s q1, Rps.mono hF s q2⟩
theorem RpK.mono (hF : ∀ a, F a → F' a) (s : Sb F H H') : ∀ {v : List (Val × Val)} {x : List (Key × V)}, RpK c F H v x → RpK c F' H' v x
  | [], _, h => by simpa only [RpK] using h
  | (k, v) :: vs, _, h => by
    simp only [RpK] at h ⊢
    obtain ⟨kk, x, r, e, ek, q1, q2⟩ := h
    exact ⟨kk, x, r, e, ek, Rp.mono hF s q1, RpK.mono hF s q2⟩
theorem RpF.mono (hF : ∀ a, F a → F' a) (s : Sb F H H') : ∀ {v : List (String × Val)} {x : List (Str × V)}, RpF c F H v x → RpF c F' H' v x
  | [], _, h => by simpa only [RpF] using h
  | (f, v) :: vs, _, h => by
    simp only [RpF] at h ⊢
    obtain ⟨x, r, e, q1, q2⟩ := h
    exact ⟨x, r, e, Rp.mono hF s q1, RpF.mono hF s q2⟩
end
theorem Rps.length : ∀ {vs : List Val} {xs : List V}, Rps c F H vs xs → vs.length = xs.length
  | [], _, h => by simp only [Rps] at h; subst h; rfl
  | v :: vs, _, h => by
    simp only [Rps] at h
    obtain ⟨x, r, rfl, _, q⟩ := h
    simp [Rps.length q]
theorem Rps.get : ∀ {vs : List Val} {xs : List V} {i : Nat} {v : Val}, Rps c F H vs xs → vs[i]? = some v → ∃ x, xs[i]? = some x ∧ Rp c F H v x
  | [], _, _, _, _, e => by simp at e
  | u :: vs, _, i, v, h, e => by
    simp only [Rps] at h
    obtain ⟨x, r, rfl, q1, q2⟩ := h
    cases i with
    | zero => simp at e; subst e; exact ⟨x, rfl, q1⟩
    | succ i => obtain ⟨y, e1, e2⟩ := Rps.get (i := i) q2 (by simpa using e); exact ⟨y, by simpa using e1, e2⟩
theorem Rps.getx : ∀ {vs : List Val} {xs : List V} {i : Nat} {x : V}, Rps c F H vs xs → xs[i]? = some x → ∃ v, vs[i]? = some v ∧ Rp c F H v x
  | [], _, _, _, h, e => by simp only [Rps] at h; subst h; simp at e
  | u :: vs, _, i, x, h, e => by
    simp only [Rps] at h
    obtain ⟨y, r, rfl, q1, q2⟩ := h
    cases i with
    | zero => simp at e; subst e; exact ⟨u, rfl, q1⟩
    | succ i => obtain ⟨y, e1, e2⟩ := Rps.getx (i := i) q2 (by simpa using e); exact ⟨y, by simpa using e1, e2⟩
theorem Rps.append : ∀ {vs ws : List Val} {xs ys : List V}, Rps c F H vs xs → Rps c F H ws ys → Rps c F H (vs ++ ws) (xs ++ ys)
  | [], _, _, _, h, h' => by simp only [Rps] at h; subst h; exact h'
  | v :: vs, _, _, _, h, h' => by
    simp only [Rps] at h
    obtain ⟨x, r, rfl, q1, q2⟩ := h
    show Rps c F H (v :: (vs ++ _)) (x :: (r ++ _))
    simp only [Rps]
    exact ⟨x, _, rfl, q1, Rps.append q2 h'⟩
theorem Rps.cons {v : Val} {vs : List Val} {x : V} {xs : List V} (h : Rp c F H v x) (h' : Rps c F H vs xs) : Rps c F H (v :: vs) (x :: xs) := by
  simp only [Rps]
  exact ⟨x, xs, rfl, h, h'⟩
theorem Rps.nil : Rps c F H [] [] := by simp only [Rps]
theorem Rps.one {v : Val} {x : V} (h : Rp c F H v x) : Rps c F H [v] [x] := Rps.cons h Rps.nil
theorem Rps.take : ∀ {vs : List Val} {xs : List V} (n : Nat), Rps c F H vs xs → Rps c F H (vs.take n) (xs.take n)
  | _, _, 0, _ => by simp only [List.take_zero]; exact Rps.nil
  | [], _, n + 1, h => by simp only [Rps] at h; subst h; exact Rps.nil
  | v :: vs, _, n + 1, h => by
    simp only [Rps] at h
    obtain ⟨x, r, rfl, q1, q2⟩ := h
    exact Rps.cons q1 (Rps.take n q2)
theorem Rps.drop : ∀ {vs : List Val} {xs : List V} (n : Nat), Rps c F H vs xs → Rps c F H (vs.drop n) (xs.drop n)
  | _, _, 0, h => h
  | [], _, n + 1, h => by simp only [Rps] at h; subst h; exact Rps.nil
  | v :: vs, _, n + 1, h => by
    simp only [Rps] at h
    obtain ⟨x, r, rfl, q1, q2⟩ := h
    exact Rps.drop n q2
theorem Rps.set : ∀ {vs : List Val} {xs : List V} {v : Val} {x : V} (n : Nat), Rps c F H vs xs → Rp c F H v x → Rps c F H (vs.set n v) (xs.set n x)
  | [], _, _, _, n, h, _ => by simp only [Rps] at h; subst h; exact Rps.nil
  | v :: vs, _, _, _, n, h, h' => by
    simp only [Rps] at h
    obtain ⟨x, r, rfl, q1, q2⟩ := h
    cases n with
    | zero => exact Rps.cons h' q2
    | succ n => exact Rps.cons q1 (Rps.set n q2 h')
theorem Rps.eraseIdx : ∀ {vs : List Val} {xs : List V} (n : Nat), Rps c F H vs xs → Rps c F H (vs.eraseIdx n) (xs.eraseIdx n)
  | [], _, n, h => by simp only [Rps] at h; subst h; exact Rps.nil
  | v :: vs, _, n, h => by
    simp only [Rps] at h
    obtain ⟨x, r, rfl, q1, q2⟩ := h
    cases n with
    | zero => exact q2
    | succ n => exact Rps.cons q1 (Rps.eraseIdx n q2)
theorem Rps.reverse : ∀ {vs : List Val} {xs : List V}, Rps c F H vs xs → Rps c F H vs.reverse xs.reverse
  | [], _, h => by simp only [Rps] at h; subst h; exact Rps.nil
  | v :: vs, _, h => by
    simp only [Rps] at h
    obtain ⟨x, r, rfl, q1, q2⟩ := h
    rw [List.reverse_cons, List.reverse_cons]
    exact Rps.append (Rps.reverse q2) (Rps.one q1)
theorem Rps.rep {vs : List Val} {xs : List V} (h : Rps c F H vs xs) : ∀ n : Nat, Rps c F H (List.replicate n vs).flatten (List.replicate n xs).flatten
  | 0 => Rps.nil
  | n + 1 => by
    rw [List.replicate_succ, List.replicate_succ, List.flatten_cons, List.flatten_cons]
    exact Rps.append h (Rps.rep h n)

/-! ### cells, slots -/
theorem RpC.mono {d : Cell} {x : V} {S : AS} (h : RpC c F H d x S) (hF : ∀ a, F a → F' a) (s : Sb F H H') (ho : ∀ a o, S a → H a = some o → H' a = some o) (hn : ∀ a, S a → ¬ F' a) : RpC c F' H' d x S := by
  cases d with
  | v v => exact ⟨h.1.mono hF s, h.2⟩
  | ml vs =>
    obtain ⟨a, xs, e, n, r, q, hs⟩ := h
    have sa : S a := (hs a).mpr rfl
    exact ⟨a, xs, e, hn a sa, ho a _ sa r, q.mono hF s, hs⟩
  | md kvs =>
    obtain ⟨a, kx, e, n, r, q, hs⟩ := h
    have sa : S a := (hs a).mpr rfl
    exact ⟨a, kx, e, hn a sa, ho a _ sa r, q.mono hF s, hs⟩
theorem RpCs.mono (hF : ∀ a, F a → F' a) (s : Sb F H H') : ∀ {fs : List (String × Cell)} {fx : List (Str × V)} {S : AS}, RpCs c F H fs fx S → (∀ a o, S a → H a = some o → H' a = some o) → (∀ a, S a → ¬ F' a) → RpCs c F' H' fs fx S
  | [], _, _, h, _, _ => h
  | (f, d) :: r, _, S, h, ho, hn => by
    obtain ⟨x, rx, S1, S2, e, q1, q2, dj, hs⟩ := h
    exact ⟨x, rx, S1, S2, e, q1.mono hF s (fun a o sa => ho a o ((hs a).mpr (.inl sa))) (fun a sa => hn a ((hs a).mpr (.inl sa))), RpCs.mono hF s q2 (fun a o sa => ho a o ((hs a).mpr (.inr sa))) (fun a sa => hn a ((hs a).mpr (.inr sa))), dj, hs⟩
theorem RpS.mono {d : Slot} {x : V} {S : AS} (h : RpS c F H d x S) (hF : ∀ a, F a → F' a) (s : Sb F H H') (ho : ∀ a o, S a → H a = some o → H' a = some o) (hn : ∀ a, S a → ¬ F' a) : RpS c F' H' d x S := by
  cases d with
  | cl d => exact RpC.mono h hF s ho hn
  | mi k fs =>
    obtain ⟨a, dx, fx, S', e, n, r, q, na, hs⟩ := h
    have sa : S a := (hs a).mpr (.inl rfl)
    exact ⟨a, dx, fx, S', e, hn a sa, ho a _ sa r, RpCs.mono hF s q (fun b o sb => ho b o ((hs b).mpr (.inr sb))) (fun b sb => hn b ((hs b).mpr (.inr sb))), na, hs⟩
/-- what it alone holds is tracked, and not frozen -/
theorem RpC.own {d : Cell} {x : V} {S : AS} (h : RpC c F H d x S) : ∀ a, S a → ¬ F a ∧ ∃ o, H a = some o ∧ Mut (some o) := by
  cases d with
  | v v => exact fun a sa => absurd sa (h.2 a)
  | ml vs =>
    obtain ⟨a, xs, e, n, r, q, hs⟩ := h
    intro b sb
    have eb := (hs b).mp sb
    subst eb
    exact ⟨n, _, r, trivial⟩
  | md kvs =>
    obtain ⟨a, kx, e, n, r, q, hs⟩ := h
    intro b sb
    have eb := (hs b).mp sb
    subst eb
    exact ⟨n, _, r, trivial⟩
theorem RpCs.own : ∀ {fs : List (String × Cell)} {fx : List (Str × V)} {S : AS}, RpCs c F H fs fx S → ∀ a, S a → ¬ F a ∧ ∃ o, H a = some o ∧ Mut (some o)
  | [], _, _, h, a, sa => absurd sa (h.2 a)
  | (f, d) :: r, _, S, h, a, sa => by
    obtain ⟨x, rx, S1, S2, e, q1, q2, dj, hs⟩ := h
    rcases (hs a).mp sa with z | z
    · exact RpC.own q1 a z
    · exact RpCs.own q2 a z
theorem RpS.own {d : Slot} {x : V} {S : AS} (h : RpS c F H d x S) : ∀ a, S a → ¬ F a ∧ ∃ o, H a = some o ∧ Mut (some o) := by
  cases d with
  | cl d => exact RpC.own h
  | mi k fs =>
    obtain ⟨a, dx, fx, S', e, n, r, q, na, hs⟩ := h
    intro b sb
    rcases (hs b).mp sb with z | z
    · subst z; exact ⟨n, _, r, trivial⟩
    · exact RpCs.own q b z
/-- frozen: it stands with what it held -/
theorem RpC.frz {d : Cell} {x : V} {S : AS} (h : RpC c F H d x S) : Rp c (fun a => F a ∨ S a) H d.fz x := by
  cases d with
  | v v => exact h.1.mono (fun a f => .inl f) Sb.refl
  | ml vs =>
    obtain ⟨a, xs, e, n, r, q, hs⟩ := h
    simp only [Cell.fz, Rp]
    exact ⟨a, xs, e, .inr ((hs a).mpr rfl), .inl r, q.mono (fun a f => .inl f) Sb.refl⟩
  | md kvs =>
    obtain ⟨a, kx, e, n, r, q, hs⟩ := h
    simp only [Cell.fz, Rp]
    exact ⟨a, kx, e, .inr ((hs a).mpr rfl), .inl r, q.mono (fun a f => .inl f) Sb.refl⟩
theorem RpCs.frz : ∀ {fs : List (String × Cell)} {fx : List (Str × V)} {S : AS}, RpCs c F H fs fx S → RpF c (fun a => F a ∨ S a) H (fs.map fun p => (p.1, p.2.fz)) fx
  | [], _, _, h => by simp only [List.map_nil, RpF]; exact h.1
  | (f, d) :: r, _, S, h => by
    obtain ⟨x, rx, S1, S2, e, q1, q2, dj, hs⟩ := h
    simp only [List.map_cons, RpF]
    exact ⟨x, rx, e, (RpC.frz q1).mono (fun a f => f.elim .inl fun z => .inr ((hs a).mpr (.inl z))) Sb.refl, (RpCs.frz q2).mono (fun a f => f.elim .inl fun z => .inr ((hs a).mpr (.inr z))) Sb.refl⟩
theorem RpS.frz {d : Slot} {x : V} {S : AS} (h : RpS c F H d x S) : Rp c (fun a => F a ∨ S a) H d.fz x := by
  cases d with
  | cl d => exact RpC.frz h
  | mi k fs =>
    obtain ⟨a, dx, fx, S', e, n, r, q, na, hs⟩ := h
    simp only [Slot.fz, Rp]
    exact ⟨a, dx, fx, e, .inr ((hs a).mpr (.inl rfl)), r, (RpCs.frz q).mono (fun a f => f.elim .inl fun z => .inr ((hs a).mpr (.inr z))) Sb.refl⟩
theorem RpS.v {v : Val} {x : V} (h : Rp c F H v x) : RpS c F H (.v v) x (fun _ => False) := ⟨h, fun _ z => z⟩
theorem RpS.ext {d : Slot} {x : V} {S S2 : AS} (h : RpS c F H d x S) (e : ∀ a, S2 a ↔ S a) : RpS c F H d x S2 := by
  have : S2 = S := funext fun a => propext (e a)
  rw [this]; exact h
end

/-! ### the names -/
def Own (Ls : Nat → AS) : AS := fun a => ∃ i, Ls i a
structure St (c : Cfg) (F : AS) (Ls : Nat → AS) (H : Hp) (σ : Env) (V : VS) : Prop where
  rel : ∀ i s, σ[i]? = some (some s) → ∃ x, V[i]? = some (some x) ∧ RpS c F H s x (Ls i)
  emp : ∀ i, (∀ s, σ[i]? ≠ some (some s)) → ∀ a, ¬ Ls i a
  dis : ∀ i j a, Ls i a → Ls j a → i = j
  len : σ.length = V.length
  fr : ∀ a, F a → ∃ o, H a = some o
/-- from one state to a later one: O may have been changed -/
structure Tr (F O : AS) (H : Hp) (F' O' : AS) (H' : Hp) : Prop where
  keep : ∀ a o, H a = some o → ¬ O a → H' a = some o
  mono : ∀ a, F a → F' a
  new : ∀ a, F' a → F a ∨ O a ∨ H a = none
  own : ∀ a, O' a → O a ∨ H a = none
  there : ∀ a o, H a = some o → ∃ o', H' a = some o'
  tups : ∀ a xs, H a = some (.tup xs) → H' a = some (.tup xs)
theorem Tr.refl {F O : AS} {H : Hp} : Tr F O H F O H := ⟨fun _ _ e _ => e, fun _ f => f, fun _ f => .inl f, fun _ o => .inl o, fun _ o e => ⟨o, e⟩, fun _ _ e => e⟩
theorem Tr.trans {F1 O1 F2 O2 F3 O3 : AS} {H1 H2 H3 : Hp} (a : Tr F1 O1 H1 F2 O2 H2) (b : Tr F2 O2 H2 F3 O3 H3) : Tr F1 O1 H1 F3 O3 H3 where
  keep := fun x o e n => b.keep x o (a.keep x o e n) fun z => (a.own x z).elim n fun q => by rw [q] at e; cases e
  mono := fun x f => b.mono x (a.mono x f)
  new := fun x f => by
    rcases b.new x f with z | z | z
    · exact a.new x z
    · exact .inr (a.own x z)
    · cases q : H1 x with
      | none => exact .inr (.inr rfl)
      | some o => obtain ⟨o', e⟩ := a.there x o q; rw [z] at e; cases e
  own := fun x f => by
    rcases b.own x f with z | z
    · exact a.own x z
    · cases q : H1 x with
      | none => exact .inr rfl
      | some o => obtain ⟨o', e⟩ := a.there x o q; rw [z] at e; cases e
  there := fun x o e => by obtain ⟨o', e'⟩ := a.there x o e; exact b.there x o' e'
  tups := fun x xs e => b.tups x xs (a.tups x xs e)
theorem Tr.sub {F O F' O' O2 : AS} {H H' : Hp} (a : Tr F O H F' O' H') (h : ∀ x, O2 x → O' x) : Tr F O H F' O2 H' :=
  ⟨a.keep, a.mono, a.new, fun x z => a.own x (h x z), a.there, a.tups⟩
theorem Tr.more {F O F' O' O2 : AS} {H H' : Hp} (a : Tr F O H F' O' H') (h : ∀ x, O x → O2 x) : Tr F O2 H F' O' H' :=
  ⟨fun x o e n => a.keep x o e fun z => n (h x z), a.mono, fun x f => (a.new x f).elim .inl fun z => .inr (z.imp (h x) id), fun x z => (a.own x z).imp (h x) id, a.there, a.tups⟩
section
variable {c : Cfg} {F F' : AS} {Ls Ls' : Nat → AS} {H H' : Hp} {σ σ' : Env} {V V' : VS}
theorem St.own (s : St c F Ls H σ V) : ∀ a, Own Ls a → ¬ F a ∧ ∃ o, H a = some o ∧ Mut (some o) := by
  rintro a ⟨i, ia⟩
  by_cases h : ∃ t, σ[i]? = some (some t)
  · obtain ⟨t, e⟩ := h
    obtain ⟨x, _, r⟩ := s.rel i t e
    exact r.own a ia
  · exact absurd ia (s.emp i (fun t e => h ⟨t, e⟩) a)
/-- what is not changed stays stable -/
theorem Tr.sb {O O' : AS} (t : Tr F O H F' O' H') {G : AS} (h : ∀ a, G a → ¬ O a) : Sb G H H' := Sb.of fun a o g e => t.keep a o e (h a g)
theorem St.tr_sb {O' : AS} (s : St c F Ls H σ V) (t : Tr F (Own Ls) H F' O' H') : Sb F H H' := t.sb fun a f z => (s.own a z).1 f
/-- the heap has grown, or turned where nothing of ours stands -/
theorem St.keep (s : St c F Ls H σ V) (hF : ∀ a, F a → F' a) (hn : ∀ a, Own Ls a → ¬ F' a) (h : ∀ a o, (F a ∨ Own Ls a) → H a = some o → H' a = some o) (fr : ∀ a, F' a → ∃ o, H' a = some o) : St c F' Ls H' σ V where
  rel := fun i t e => by
    obtain ⟨x, e1, r⟩ := s.rel i t e
    exact ⟨x, e1, r.mono hF (Sb.of fun a o f => h a o (.inl f)) (fun a o z => h a o (.inr ⟨i, z⟩)) fun a z => hn a ⟨i, z⟩⟩
  emp := s.emp
  dis := s.dis
  len := s.len
  fr := fr
/-- a new frozen object -/
def addF (F : AS) (p : Addr) : AS := fun a => F a ∨ a = p
theorem St.newF {p : Addr} {o : HO} (s : St c F Ls H σ V) (hp : H p = none) : St c (addF F p) Ls (upd H p o) σ V :=
  s.keep (fun a f => .inl f) (fun a z q => q.elim (s.own a z).1 fun e => by
    subst e; obtain ⟨_, o, e, _⟩ := s.own a z; rw [hp] at e; cases e)
    (fun a o _ e => by rw [upd_ne (ne_of_none e hp)]; exact e)
    fun a f => f.elim (fun f => by obtain ⟨o, e⟩ := s.fr a f; exact ⟨o, by rw [upd_ne (ne_of_none e hp)]; exact e⟩) fun e => by subst e; exact ⟨_, upd_same⟩
/-- a new object that is not frozen -/
theorem St.newO {p : Addr} {o : HO} (s : St c F Ls H σ V) (hp : H p = none) : St c F Ls (upd H p o) σ V :=
  s.keep (fun a f => f) (fun a z => (s.own a z).1)
    (fun a o _ e => by rw [upd_ne (ne_of_none e hp)]; exact e)
    fun a f => by obtain ⟨o, e⟩ := s.fr a f; exact ⟨o, by rw [upd_ne (ne_of_none e hp)]; exact e⟩
theorem Tr.newF {p : Addr} {o : HO} {O : AS} (hp : H p = none) : Tr F O H (addF F p) O (upd H p o) :=
  ⟨fun a o e _ => by rw [upd_ne (ne_of_none e hp)]; exact e, fun a f => .inl f, fun a f => f.elim .inl fun e => by subst e; exact .inr (.inr hp), fun a z => .inl z,
    fun a o e => ⟨o, by rw [upd_ne (ne_of_none e hp)]; exact e⟩, fun a xs e => by rw [upd_ne (ne_of_none e hp)]; exact e⟩
theorem Tr.newO {p : Addr} {o : HO} {O : AS} (hp : H p = none) : Tr F O H F (fun a => O a ∨ a = p) (upd H p o) :=
  ⟨fun a o e _ => by rw [upd_ne (ne_of_none e hp)]; exact e, fun a f => f, fun a f => .inl f, fun a z => z.imp id fun e => by subst e; exact hp,
    fun a o e => ⟨o, by rw [upd_ne (ne_of_none e hp)]; exact e⟩, fun a xs e => by rw [upd_ne (ne_of_none e hp)]; exact e⟩
theorem Sb.new {p : Addr} {o : HO} {G : AS} (hp : H p = none) : Sb G H (upd H p o) := Sb.of fun a o _ e => by rw [upd_ne (ne_of_none e hp)]; exact e
/-- a slot takes another content -/
def setL (Ls : Nat → AS) (i : Nat) (S : AS) : Nat → AS := fun j => if j = i then S else Ls j
theorem setL_own {i : Nat} {S : AS} {a : Addr} (h : Own (setL Ls i S) a) : Own Ls a ∨ S a := by
  obtain ⟨j, z⟩ := h
  unfold setL at z
  split at z
  · exact .inr z
  · exact .inl ⟨j, z⟩
theorem St.put {i : Nat} {t : Slot} {x : L2.V} {S : AS} (s : St c F Ls H σ V) (hi : i < σ.length) (r : RpS c F H t x S) (hd : ∀ a, S a → ¬ ∃ j, j ≠ i ∧ Ls j a) : St c F (setL Ls i S) H (σ.set i (some t)) (V.set i (some x)) where
  rel := fun j u e => by
    by_cases h : j = i
    · subst h
      rw [List.getElem?_set_self hi] at e
      cases e
      exact ⟨x, by rw [List.getElem?_set_self (by rw [← s.len]; exact hi)], by simpa [setL] using r⟩
    · rw [List.getElem?_set_ne (Ne.symm h)] at e
      obtain ⟨y, e1, r1⟩ := s.rel j u e
      exact ⟨y, by rw [List.getElem?_set_ne (Ne.symm h)]; exact e1, by simpa [setL, h] using r1⟩
  emp := fun j e a z => by
    by_cases h : j = i
    · subst h
      exact e t (List.getElem?_set_self hi)
    · have z' : Ls j a := by simpa [setL, h] using z
      refine s.emp j (fun u q => e u ?_) a z'
      rw [List.getElem?_set_ne (Ne.symm h)]; exact q
  dis := fun j k a z1 z2 => by
    unfold setL at z1 z2
    split at z1 <;> split at z2
    · rename_i h1 h2; rw [h1, h2]
    · rename_i h1 h2; exact absurd ⟨k, h2, z2⟩ (hd a z1)
    · rename_i h1 h2; exact absurd ⟨j, h1, z1⟩ (hd a z2)
    · exact s.dis j k a z1 z2
  len := by simp [s.len]
  fr := s.fr
/-- a slot forgets -/
theorem St.drop {i : Nat} (s : St c F Ls H σ V) : St c F (setL Ls i fun _ => False) H (σ.set i none) V where
  rel := fun j u e => by
    by_cases h : j = i
    · subst h
      by_cases hl : j < σ.length
      · rw [List.getElem?_set_self hl] at e; cases e
      · rw [List.getElem?_eq_none (by simpa using hl)] at e; cases e
    · rw [List.getElem?_set_ne (Ne.symm h)] at e
      obtain ⟨y, e1, r1⟩ := s.rel j u e
      exact ⟨y, e1, by simpa [setL, h] using r1⟩
  emp := fun j e a z => by
    by_cases h : j = i
    · simp [setL, h] at z
    · have z' : Ls j a := by simpa [setL, h] using z
      refine s.emp j (fun u q => e u ?_) a z'
      rw [List.getElem?_set_ne (Ne.symm h)]; exact q
  dis := fun j k a z1 z2 => by
    unfold setL at z1 z2
    split at z1 <;> split at z2
    · rename_i h1 h2; rw [h1, h2]
    · exact z1.elim
    · exact z2.elim
    · exact s.dis j k a z1 z2
  len := by simp [s.len]
  fr := s.fr
/-- all of a temporary's is frozen -/
theorem St.frz {S : AS} (s : St c F Ls H σ V) (hS : ∀ a, S a → ¬ Own Ls a) (ht : ∀ a, S a → ∃ o, H a = some o) : St c (fun a => F a ∨ S a) Ls H σ V :=
  s.keep (fun a f => .inl f) (fun a z q => q.elim (s.own a z).1 fun e => hS a e z) (fun _ _ _ e => e) fun a f => f.elim (s.fr a) (ht a)
theorem Tr.frz {S O' : AS} {O : AS} (t : Tr F O H F' (fun a => O' a ∨ S a) H') : Tr F O H (fun a => F' a ∨ S a) O' H' :=
  ⟨t.keep, fun a f => .inl (t.mono a f), fun a f => f.elim (t.new a) fun e => .inr (t.own a (.inr e)), fun a z => t.own a (.inl z), t.there, t.tups⟩
end
end PL
/-! PB: readings of the small language's results; operators. -/
namespace PL
open PySem PySem.Spec PyProof.Rows L2

section
variable (c : Cfg) (W : WX) (V : VS)
/-- what a result promises -/
def RW {α : Type} (F O : AS) (H : Hp) (r : R (α × Env)) (k : α → Env → AS → (Nat → AS) → Hp → Prop) : Prop :=
  match r with
  | .ok (a, σ') => ∀ F' Ls' H', St c F' Ls' H' σ' V → Tr F O H F' (Own Ls') H' → k a σ' F' Ls' H'
  | .exc e σ' => ∀ F' Ls' H', St c F' Ls' H' σ' V → Tr F O H F' (Own Ls') H' → W (.ref (c.cA e)) none V H'
  | .stuck => False
def RWe (F O : AS) (H : Hp) (r : R (Slot × Env)) (Q : VK) : Prop :=
  match r with
  | .ok (s, σ') => ∀ x S F' Ls' H', St c F' Ls' H' σ' V → RpS c F' H' s x S → (∀ a, S a → ¬ Own Ls' a) → Tr F O H F' (fun a => Own Ls' a ∨ S a) H' → Q x H'
  | .exc e σ' => ∀ F' Ls' H', St c F' Ls' H' σ' V → Tr F O H F' (Own Ls') H' → W (.ref (c.cA e)) none V H'
  | .stuck => False
end
section
variable {c : Cfg} {W : WX} {V : VS}
theorem RW.from {α : Type} {F O F1 O1 : AS} {H H1 : Hp} {r : R (α × Env)} {k : α → Env → AS → (Nat → AS) → Hp → Prop} (h : RW c W V F O H r k) (t : Tr F O H F1 O1 H1) : RW c W V F1 O1 H1 r k := by
  cases r with
  | ok p => obtain ⟨a, σ'⟩ := p; exact fun F' Ls' H' s t' => h F' Ls' H' s (t.trans t')
  | exc e σ' => exact fun F' Ls' H' s t' => h F' Ls' H' s (t.trans t')
  | stuck => exact h
theorem RWe.from {F O F1 O1 : AS} {H H1 : Hp} {r : R (Slot × Env)} {Q : VK} (h : RWe c W V F O H r Q) (t : Tr F O H F1 O1 H1) : RWe c W V F1 O1 H1 r Q := by
  cases r with
  | ok p => obtain ⟨a, σ'⟩ := p; exact fun x S F' Ls' H' s r d t' => h x S F' Ls' H' s r d (t.trans t')
  | exc e σ' => exact fun F' Ls' H' s t' => h F' Ls' H' s (t.trans t')
  | stuck => exact h
/-- one result behind another -/
theorem RWe.bind {α : Type} {F O : AS} {H : Hp} {r : R (α × Env)} {f : α × Env → R (Slot × Env)} {Q : VK} (h : RWe c W V F O H (r.bind f) Q) :
    RW c W V F O H r fun a σ' F' Ls' H' => RWe c W V F' (Own Ls') H' (f (a, σ')) Q := by
  cases r with
  | ok p => obtain ⟨a, σ'⟩ := p; exact fun F' Ls' H' s t => RWe.from h t
  | exc e σ' => exact h
  | stuck => exact h
theorem RW.bind {α β : Type} {F O : AS} {H : Hp} {r : R (α × Env)} {f : α × Env → R (β × Env)} {k : β → Env → AS → (Nat → AS) → Hp → Prop} (h : RW c W V F O H (r.bind f) k) :
    RW c W V F O H r fun a σ' F' Ls' H' => RW c W V F' (Own Ls') H' (f (a, σ')) k := by
  cases r with
  | ok p => obtain ⟨a, σ'⟩ := p; exact fun F' Ls' H' s t => RW.from h t
  | exc e σ' => exact h
  | stuck => exact h
/-- a slot's result, then more: the slot is frozen between -/
theorem RWe.bindS {F O : AS} {H : Hp} {r : R (Slot × Env)} {f : Slot × Env → R (Slot × Env)} {Q Q' : VK} (h : RWe c W V F O H (r.bind f) Q)
    (k : ∀ s σ' x F' Ls' H', St c F' Ls' H' σ' V → Rp c F' H' s.fz x → RWe c W V F' (Own Ls') H' (f (s, σ')) Q → Q' x H') : RWe c W V F O H r Q' := by
  cases r with
  | ok p =>
    obtain ⟨a, σ'⟩ := p
    intro x S F' Ls' H' s r d t
    exact k a σ' x _ Ls' H' (s.frz d fun a z => let ⟨_, o, e, _⟩ := r.own a z; ⟨o, e⟩) r.frz (RWe.from h t.frz)
  | exc e σ' => exact h
  | stuck => exact h
theorem RW.bindS {β : Type} {F O : AS} {H : Hp} {r : R (Slot × Env)} {f : Slot × Env → R (β × Env)} {k' : β → Env → AS → (Nat → AS) → Hp → Prop} {Q' : VK} (h : RW c W V F O H (r.bind f) k')
    (k : ∀ s σ' x F' Ls' H', St c F' Ls' H' σ' V → Rp c F' H' s.fz x → RW c W V F' (Own Ls') H' (f (s, σ')) k' → Q' x H') : RWe c W V F O H r Q' := by
  cases r with
  | ok p =>
    obtain ⟨a, σ'⟩ := p
    intro x S F' Ls' H' s r d t
    exact k a σ' x _ Ls' H' (s.frz d fun a z => let ⟨_, o, e, _⟩ := r.own a z; ⟨o, e⟩) r.frz (RW.from h t.frz)
  | exc e σ' => exact h
  | stuck => exact h
section
variable {F : AS} {Ls : Nat → AS} {H : Hp} {σ : Env} {Q : VK}
/-- a value that stands -/
theorem RWe.fin {v : Val} {x : L2.V} (h : RWe c W V F (Own Ls) H (.ok (.v v, σ)) Q) (s : St c F Ls H σ V) (r : Rp c F H v x) : Q x H :=
  h x (fun _ => False) F Ls H s (RpS.v r) (fun _ z => z.elim) (Tr.refl.sub fun _ z => z.elim id False.elim)
/-- a new frozen object -/
theorem RWe.finF {v : Val} {p : Addr} {o : HO} (h : RWe c W V F (Own Ls) H (.ok (.v v, σ)) Q) (s : St c F Ls H σ V) (hp : H p = none) (r : Rp c (addF F p) (upd H p o) v (.ref p)) : Q (.ref p) (upd H p o) :=
  h _ (fun _ => False) _ Ls _ (s.newF hp) (RpS.v r) (fun _ z => z.elim) ((Tr.newF hp).sub fun _ z => z.elim id False.elim)
/-- a new tuple -/
theorem RWe.finT {vs : List Val} {xs : List L2.V} {p : Addr} (h : RWe c W V F (Own Ls) H (.ok (.v (.tup vs), σ)) Q) (s : St c F Ls H σ V) (hp : H p = none) (r : Rps c F H vs xs) : Q (.ref p) (upd H p (.tup xs)) :=
  h.finF s hp (by
    simp only [Rp]
    exact ⟨p, xs, rfl, .inl ⟨upd_same, .inr rfl⟩, r.mono (fun _ f => .inl f) (Sb.new hp)⟩)
/-- a new object that it alone holds -/
theorem RWe.finO {t : Slot} {p : Addr} {o : HO} (h : RWe c W V F (Own Ls) H (.ok (t, σ)) Q) (s : St c F Ls H σ V) (hp : H p = none) (r : RpS c F (upd H p o) t (.ref p) (fun a => a = p)) : Q (.ref p) (upd H p o) :=
  h _ _ F Ls _ (s.newO hp) r (fun a z q => by
    have z' : a = p := z
    subst z'; obtain ⟨_, o, e, _⟩ := s.own a q; rw [hp] at e; cases e) (Tr.newO hp)
theorem RWe.finL {vs : List Val} {xs : List L2.V} {p : Addr} (h : RWe c W V F (Own Ls) H (.ok (.ml vs, σ)) Q) (s : St c F Ls H σ V) (hp : H p = none) (r : Rps c F H vs xs) : Q (.ref p) (upd H p (.lst xs)) :=
  h.finO s hp ⟨p, xs, rfl, (fun f => by obtain ⟨o, e⟩ := s.fr p f; rw [hp] at e; cases e), upd_same, r.mono (fun _ f => f) (Sb.new hp), fun _ => Iff.rfl⟩
end

/-! ### operands -/
/-- what an operand that was made ready stands for -/
def RelPre (c : Cfg) (F : AS) (H : Hp) (V : VS) : Pre → L2.V → Prop
  | .val s, x => ∃ v, s = .v v ∧ Rp c F H v x
  | .at (.var i), x => V[i]? = some (some x)
  | .at (.fld _ _), _ => False
def RpO (c : Cfg) (F : AS) (H : Hp) (v : Val) (x : L2.V) : Prop := ∃ s S, Slot.fz s = v ∧ RpS c F H s x S
theorem RelPre.mono {F F' : AS} {H H' : Hp} {p : Pre} {x : L2.V} (h : RelPre c F H V p x) (hF : ∀ a, F a → F' a) (s : Sb F H H') : RelPre c F' H' V p x := by
  cases p with
  | val t => obtain ⟨v, e, r⟩ := h; exact ⟨v, e, r.mono hF s⟩
  | «at» q => cases q with
    | var i => exact h
    | fld i f => exact h
def RelPres (c : Cfg) (F : AS) (H : Hp) (V : VS) : List Pre → List L2.V → Prop
  | [], xs => xs = []
  | p :: ps, xs => ∃ x r, xs = x :: r ∧ RelPre c F H V p x ∧ RelPres c F H V ps r
def RpOs (c : Cfg) (F : AS) (H : Hp) : List Val → List L2.V → Prop
  | [], xs => xs = []
  | v :: vs, xs => ∃ x r, xs = x :: r ∧ RpO c F H v x ∧ RpOs c F H vs r
theorem St.at {F : AS} {Ls : Nat → AS} {H : Hp} {σ : Env} (s : St c F Ls H σ V) {i : Nat} {t : Slot} {x : L2.V} (e : (σ[i]?).join = some t) (r : V[i]? = some (some x)) : RpS c F H t x (Ls i) := by
  have e2 : σ[i]? = some (some t) := by
    cases q : σ[i]? with
    | none => rw [q] at e; cases e
    | some u => rw [q] at e; simp only [Option.join_some] at e; rw [e]
  obtain ⟨y, e3, r3⟩ := s.rel i t e2
  rw [r] at e3
  cases e3
  exact r3
theorem fill_ok {F : AS} {Ls : Nat → AS} {H : Hp} {σ : Env} (s : St c F Ls H σ V) : ∀ {ps : List Pre} {xs : List L2.V} {vs : List Val}, RelPres c F H V ps xs → fillP σ ps = some vs → RpOs c F H vs xs
  | [], _, vs, h, e => by
    simp only [fillP, Option.some.injEq] at e
    subst e
    exact h
  | .val t :: ps, _, vs, h, e => by
    obtain ⟨x, r, rfl, ⟨v, et, q1⟩, q2⟩ := h
    subst et
    simp only [fillP] at e
    cases e2 : fillP σ ps with
    | none => rw [e2] at e; cases e
    | some ws =>
      rw [e2] at e
      simp only [Option.map_some, Option.some.injEq] at e
      subst e
      exact ⟨x, r, rfl, ⟨_, _, rfl, RpS.v q1⟩, fill_ok s q2 e2⟩
  | .at (.var i) :: ps, _, vs, h, e => by
    obtain ⟨x, r, rfl, q1, q2⟩ := h
    simp only [fillP, rdP] at e
    cases e1 : (σ[i]?).join with
    | none => rw [e1] at e; cases e
    | some t =>
      rw [e1] at e
      simp only [Option.bind_some] at e
      cases e2 : fillP σ ps with
      | none => rw [e2] at e; cases e
      | some ws =>
        rw [e2] at e
        simp only [Option.map_some, Option.some.injEq] at e
        subst e
        exact ⟨x, r, rfl, ⟨t, _, rfl, s.at e1 q1⟩, fill_ok s q2 e2⟩
  | .at (.fld i f) :: ps, _, vs, h, e => by
    obtain ⟨x, r, rfl, q1, q2⟩ := h
    exact q1.elim
theorem fill1 {F : AS} {Ls : Nat → AS} {H : Hp} {σ : Env} {p : Pre} {x : L2.V} {v : Val} {vs : List Val} (s : St c F Ls H σ V) (h : RelPre c F H V p x) (e : fillP σ [p] = some (v :: vs)) : RpO c F H v x ∧ vs = [] := by
  obtain ⟨y, r, e1, q1, q2⟩ := fill_ok s (ps := [p]) (xs := [x]) ⟨x, [], rfl, h, rfl⟩ e
  cases e1
  cases vs with
  | nil => exact ⟨q1, rfl⟩
  | cons w ws => obtain ⟨_, _, e2, _⟩ := q2; cases e2
theorem fill2 {F : AS} {Ls : Nat → AS} {H : Hp} {σ : Env} {p q : Pre} {x y : L2.V} {v w : Val} {vs : List Val} (s : St c F Ls H σ V) (h : RelPre c F H V p x) (h' : RelPre c F H V q y) (e : fillP σ [p, q] = some (v :: w :: vs)) :
    RpO c F H v x ∧ RpO c F H w y ∧ vs = [] := by
  obtain ⟨x', r, e1, q1, q2⟩ := fill_ok s (ps := [p, q]) (xs := [x, y]) ⟨x, [y], rfl, h, y, [], rfl, h', rfl⟩ e
  cases e1
  obtain ⟨y', r', e2, q3, q4⟩ := q2
  cases e2
  cases vs with
  | nil => exact ⟨q1, q3, rfl⟩
  | cons w ws => obtain ⟨_, _, e2, _⟩ := q4; cases e2
theorem fill_len {σ : Env} : ∀ {ps : List Pre} {vs : List Val}, fillP σ ps = some vs → vs.length = ps.length
  | [], vs, e => by simp only [fillP, Option.some.injEq] at e; subst e; rfl
  | .val t :: ps, vs, e => by
    simp only [fillP] at e
    cases e2 : fillP σ ps with
    | none => rw [e2] at e; cases e
    | some ws => rw [e2] at e; simp only [Option.map_some, Option.some.injEq] at e; subst e; simp [fill_len e2]
  | .at q :: ps, vs, e => by
    simp only [fillP] at e
    cases e1 : rdP σ q with
    | none => rw [e1] at e; cases e
    | some t =>
      rw [e1] at e
      simp only [Option.bind_some] at e
      cases e2 : fillP σ ps with
      | none => rw [e2] at e; cases e
      | some ws => rw [e2] at e; simp only [Option.map_some, Option.some.injEq] at e; subst e; simp [fill_len e2]

/-! ### what an operand is -/
section
variable {F : AS} {H : Hp} {x : L2.V}
theorem RpO.of {v : Val} (h : Rp c F H v x) : RpO c F H v x := ⟨_, _, rfl, RpS.v h⟩
theorem RpO.flat {v : Val} (h : RpO c F H v x) (hl : ∀ vs, v ≠ .lst vs) (hd : ∀ vs, v ≠ .dct vs) (hi : ∀ k fs, v ≠ .ins k fs) : Rp c F H v x := by
  obtain ⟨s, S, e, r⟩ := h
  cases s with
  | cl d => cases d with
    | v u => simp only [Slot.fz, Cell.fz] at e; subst e; exact r.1
    | ml vs => exact absurd e.symm (hl vs)
    | md vs => exact absurd e.symm (hd vs)
  | mi k fs => exact absurd e.symm (hi k _)
theorem RpO.int {i : Int} (h : RpO c F H (.int i) x) : x = .int i := by
  have r := h.flat (fun _ => nofun) (fun _ => nofun) (fun _ _ => nofun)
  simpa only [Rp] using r
theorem RpO.bl {i : Bool} (h : RpO c F H (.bl i) x) : x = .bl i := by
  have r := h.flat (fun _ => nofun) (fun _ => nofun) (fun _ _ => nofun)
  simpa only [Rp] using r
theorem RpO.str {i : Str} (h : RpO c F H (.str i) x) : x = .str i := by
  have r := h.flat (fun _ => nofun) (fun _ => nofun) (fun _ _ => nofun)
  simpa only [Rp] using r
theorem RpO.non (h : RpO c F H .non x) : x = .non := by
  have r := h.flat (fun _ => nofun) (fun _ => nofun) (fun _ _ => nofun)
  simpa only [Rp] using r
theorem SqT.noH {K : PySem.W.Frag} {a : Addr} {xs : List L2.V} (h : SqT K noH a xs) : SqT K H a xs := by
  rcases h with h | h
  · rcases h with h | ⟨_, h⟩ <;> cases h
  · exact .inr h
theorem RpO.tup {vs : List Val} (h : RpO c F H (.tup vs) x) : ∃ a xs, x = .ref a ∧ SqT c.K H a xs ∧ Rps c F H vs xs := by
  have r := h.flat (fun _ => nofun) (fun _ => nofun) (fun _ _ => nofun)
  simp only [Rp] at r
  obtain ⟨a, xs, e, q, r⟩ := r
  refine ⟨a, xs, e, ?_, r⟩
  rcases q with ⟨q, _⟩ | q
  · exact .inl (.inl q)
  · exact SqT.noH q
theorem RpO.lst {vs : List Val} (h : RpO c F H (.lst vs) x) : ∃ a xs, x = .ref a ∧ Rd H a (.lst xs) ∧ Rps c F H vs xs := by
  obtain ⟨s, S, e, r⟩ := h
  cases s with
  | cl d => cases d with
    | v u =>
      simp only [Slot.fz, Cell.fz] at e; subst e
      have r1 := r.1
      simp only [Rp] at r1
      obtain ⟨a, xs, e, f, q, r⟩ := r1
      exact ⟨a, xs, e, q, r⟩
    | ml us =>
      simp only [Slot.fz, Cell.fz, Val.lst.injEq] at e; subst e
      obtain ⟨a, xs, e, n, q, r, hs⟩ := r
      exact ⟨a, xs, e, .inl q, r⟩
    | md us => simp only [Slot.fz, Cell.fz] at e; cases e
  | mi k fs => simp only [Slot.fz] at e; cases e
theorem RpO.dct {vs : List (Val × Val)} (h : RpO c F H (.dct vs) x) : ∃ a kx, x = .ref a ∧ Rd H a (.dK kx) ∧ RpK c F H vs kx := by
  obtain ⟨s, S, e, r⟩ := h
  cases s with
  | cl d => cases d with
    | v u =>
      simp only [Slot.fz, Cell.fz] at e; subst e
      have r1 := r.1
      simp only [Rp] at r1
      obtain ⟨a, kx, e, f, q, r⟩ := r1
      exact ⟨a, kx, e, q, r⟩
    | ml us => simp only [Slot.fz, Cell.fz] at e; cases e
    | md us =>
      simp only [Slot.fz, Cell.fz, Val.dct.injEq] at e; subst e
      obtain ⟨a, kx, e, n, q, r, hs⟩ := r
      exact ⟨a, kx, e, .inl q, r⟩
  | mi k fs => simp only [Slot.fz] at e; cases e
/-- the fields of an object -/
def RpOF (c : Cfg) (F : AS) (H : Hp) : List (String × Val) → List (Str × L2.V) → Prop
  | [], xs => xs = []
  | (f, v) :: vs, xs => ∃ x r, xs = (Str.ofString f, x) :: r ∧ RpO c F H v x ∧ RpOF c F H vs r
theorem RpOF.of : ∀ {fs : List (String × Val)} {fx : List (Str × L2.V)}, RpF c F H fs fx → RpOF c F H fs fx
  | [], _, h => by
    simp only [RpF] at h
    exact h
  | (f, v) :: r, _, h => by
    simp only [RpF] at h
    obtain ⟨x, r, e, q1, q2⟩ := h
    exact ⟨x, r, e, RpO.of q1, RpOF.of q2⟩
theorem RpOF.cs : ∀ {fs : List (String × Cell)} {fx : List (Str × L2.V)} {S : AS}, RpCs c F H fs fx S → RpOF c F H (fs.map fun p => (p.1, p.2.fz)) fx
  | [], _, _, h => h.1
  | (f, d) :: r, _, _, h => by
    obtain ⟨x, rx, S1, S2, e, q1, q2, dj, hs⟩ := h
    exact ⟨x, rx, e, ⟨.cl d, S1, rfl, q1⟩, RpOF.cs q2⟩
theorem RpO.ins {k : String} {fs : List (String × Val)} (h : RpO c F H (.ins k fs) x) : ∃ a dx fx, x = .ref a ∧ H a = some (.ins (c.cA k) dx fx) ∧ RpOF c F H fs fx := by
  obtain ⟨s, S, e, r⟩ := h
  cases s with
  | cl d => cases d with
    | v u =>
      simp only [Slot.fz, Cell.fz] at e; subst e
      have r1 := r.1
      simp only [Rp] at r1
      obtain ⟨a, dx, fx, e, f, q, r⟩ := r1
      exact ⟨a, dx, fx, e, q, RpOF.of r⟩
    | ml us => simp only [Slot.fz, Cell.fz] at e; cases e
    | md us => simp only [Slot.fz, Cell.fz] at e; cases e
  | mi k' fs' =>
    simp only [Slot.fz, Val.ins.injEq] at e
    obtain ⟨rfl, rfl⟩ := e
    obtain ⟨a, dx, fx, S', e, n, q, r, na, hs⟩ := r
    exact ⟨a, dx, fx, e, q, RpOF.cs r⟩
end
end

/-! ### readings -/
section
variable (c : Cfg) (g : Ctx) (W : WX)
def tEv (e : E) : TE := fun V H Q => ∃ σ F Ls, St c F Ls H σ V ∧ RWe c W V F (Own Ls) H (e.ev g σ) Q
def tPre (e : E) : TE := fun V H Q => ∃ σ F Ls, St c F Ls H σ V ∧ RW c W V F (Own Ls) H (e.pre g σ) fun p σ' F' Ls' H' => ∀ x, RelPre c F' H' V p x → Q x H'
def tTst (e : E) : TT := fun V H Q => ∃ σ F Ls, St c F Ls H σ V ∧ RW c W V F (Own Ls) H (e.test g σ) fun b σ' F' Ls' H' => Q b H'
end
theorem _root_.L2.PE.imp {X : Cx} {e : Expr} {t t' : TE} (h : PE X e t) (i : ∀ V H Q, t' V H Q → t V H Q) : PE X e t' := ⟨fun pins s σ H Q I q => h.run pins s σ H Q I (i σ H Q q)⟩
theorem _root_.L2.PT.imp {X : Cx} {e : Expr} {t t' : TT} (h : PT X e t) (i : ∀ V H Q, t' V H Q → t V H Q) : PT X e t' := ⟨fun pins s σ H Q I q => h.run pins s σ H Q I (i σ H Q q)⟩
section
variable {c : Cfg} {g : Ctx} {W : WX} {X : Cx}
/-- an operand that is no place: its value, frozen -/
theorem pre_of {e : E} {ex : Expr} (h : PE X ex (tEv c g W e)) (he : ∀ σ, e.pre g σ = (e.ev g σ).bind fun p => .ok (.val (.v p.1.fz), p.2)) : PE X ex (tPre c g W e) :=
  h.imp fun V H Q ⟨σ, F, Ls, s, r⟩ => by
    rw [he] at r
    refine ⟨σ, F, Ls, s, ?_⟩
    exact RW.bindS r fun t σ' x F' Ls' H' s' q r' => r' F' Ls' H' s' Tr.refl x ⟨_, rfl, q⟩
/-- two operands in a row -/
theorem two_pre {a b : E} {σ : Env} {F : AS} {Ls : Nat → AS} {V : VS} {H : Hp} {f : Pre × Env → Pre × Env → R (Slot × Env)} {Q : VK} {R' : L2.V → L2.V → Hp → Prop} (s : St c F Ls H σ V)
    (h : RWe c W V F (Own Ls) H ((a.pre g σ).bind fun p => (b.pre g p.2).bind fun q => f p q) Q)
    (k : ∀ p q σ1 σ2 x y F' Ls' H', St c F' Ls' H' σ2 V → RelPre c F' H' V p x → RelPre c F' H' V q y → RWe c W V F' (Own Ls') H' (f (p, σ1) (q, σ2)) Q → R' x y H') :
    tPre c g W a V H fun x H1 => tPre c g W b V H1 fun y H2 => R' x y H2 := by
  refine ⟨σ, F, Ls, s, ?_⟩
  have h1 := RWe.bind h
  cases e1 : a.pre g σ with
  | ok p =>
    obtain ⟨p, σ1⟩ := p
    rw [e1] at h1
    intro F1 Ls1 H1 s1 t1 x rx
    have h2 := RWe.bind (h1 F1 Ls1 H1 s1 t1)
    refine ⟨σ1, F1, Ls1, s1, ?_⟩
    cases e2 : b.pre g σ1 with
    | ok q =>
      obtain ⟨q, σ2⟩ := q
      simp only [e2] at h2
      intro F2 Ls2 H2 s2 t2 y ry
      exact k p q σ1 σ2 x y F2 Ls2 H2 s2 (rx.mono t2.mono (s1.tr_sb t2)) ry (h2 F2 Ls2 H2 s2 t2)
    | exc e σ' => simp only [e2] at h2; exact h2
    | stuck => simp only [e2] at h2; exact h2
  | exc e σ' => rw [e1] at h1; exact h1
  | stuck => rw [e1] at h1; exact h1
theorem one_pre {a : E} {σ : Env} {F : AS} {Ls : Nat → AS} {V : VS} {H : Hp} {f : Pre × Env → R (Slot × Env)} {Q : VK} {R' : L2.V → Hp → Prop} (s : St c F Ls H σ V)
    (h : RWe c W V F (Own Ls) H ((a.pre g σ).bind f) Q)
    (k : ∀ p σ1 x F' Ls' H', St c F' Ls' H' σ1 V → RelPre c F' H' V p x → RWe c W V F' (Own Ls') H' (f (p, σ1)) Q → R' x H') : tPre c g W a V H R' := by
  refine ⟨σ, F, Ls, s, ?_⟩
  have h1 := RWe.bind h
  cases e1 : a.pre g σ with
  | ok p =>
    obtain ⟨p, σ1⟩ := p
    rw [e1] at h1
    intro F1 Ls1 H1 s1 t1 x rx
    exact k p σ1 x F1 Ls1 H1 s1 rx (h1 F1 Ls1 H1 s1 t1)
  | exc e σ' => rw [e1] at h1; exact h1
  | stuck => rw [e1] at h1; exact h1
theorem one_preT {a : E} {σ : Env} {F : AS} {Ls : Nat → AS} {V : VS} {H : Hp} {f : Pre × Env → R (Slot × Env)} {Q : VK} {R' : L2.V → Hp → Prop} (s : St c F Ls H σ V)
    (h : RWe c W V F (Own Ls) H ((a.pre g σ).bind f) Q)
    (k : ∀ p σ1 x F' Ls' H', St c F' Ls' H' σ1 V → Tr F (Own Ls) H F' (Own Ls') H' → RelPre c F' H' V p x → RWe c W V F' (Own Ls') H' (f (p, σ1)) Q → R' x H') : tPre c g W a V H R' := by
  refine ⟨σ, F, Ls, s, ?_⟩
  have h1 := RWe.bind h
  cases e1 : a.pre g σ with
  | ok p =>
    obtain ⟨p, σ1⟩ := p
    rw [e1] at h1
    intro F1 Ls1 H1 s1 t1 x rx
    exact k p σ1 x F1 Ls1 H1 s1 t1 rx (h1 F1 Ls1 H1 s1 t1)
  | exc e σ' => rw [e1] at h1; exact h1
  | stuck => rw [e1] at h1; exact h1
theorem one_preW {α : Type} {a : E} {σ : Env} {F : AS} {Ls : Nat → AS} {V : VS} {H : Hp} {f : Pre × Env → R (α × Env)} {k' : α → Env → AS → (Nat → AS) → Hp → Prop} {R' : L2.V → Hp → Prop} (s : St c F Ls H σ V)
    (h : RW c W V F (Own Ls) H ((a.pre g σ).bind f) k')
    (k : ∀ p σ1 x F' Ls' H', St c F' Ls' H' σ1 V → RelPre c F' H' V p x → RW c W V F' (Own Ls') H' (f (p, σ1)) k' → R' x H') : tPre c g W a V H R' := by
  refine ⟨σ, F, Ls, s, ?_⟩
  have h1 := RW.bind h
  cases e1 : a.pre g σ with
  | ok p =>
    obtain ⟨p, σ1⟩ := p
    rw [e1] at h1
    intro F1 Ls1 H1 s1 t1 x rx
    exact k p σ1 x F1 Ls1 H1 s1 rx (h1 F1 Ls1 H1 s1 t1)
  | exc e σ' => rw [e1] at h1; exact h1
  | stuck => rw [e1] at h1; exact h1
end
end PL
/-! PC: expressions without calls. -/
namespace PL
open PySem PySem.Spec PyProof.Rows L2

/-- a readable test that is not one of the special forms -/
def isSpec : E → Bool
  | .no _ => true
  | .and _ _ => true
  | .or _ _ => true
  | .ite _ _ _ => true
  | _ => false
def isPlace : E → Bool
  | .var _ => true
  | .fld _ _ => true
  | _ => false
theorem pre_eq {g : Ctx} {e : E} (h : isPlace e = false) (σ : Env) : e.pre g σ = (e.ev g σ).bind fun p => .ok (.val (.v p.1.fz), p.2) := by
  cases e <;> first | (cases h; done) | (simp only [E.pre]; rfl) | simp only [E.pre]
theorem test_eq {g : Ctx} {e : E} (h : isSpec e = false) (σ : Env) : e.test g σ = (e.pre g σ).bind fun p => (match fillP p.2 [p.1] with
    | some [v] => (match truth v with
      | some k => .ok (k, p.2)
      | none => .stuck)
    | _ => .stuck) := by
  cases e <;> first | (cases h; done) | (simp only [E.test]; rfl) | simp only [E.test]
section
variable {c : Cfg} {g : Ctx} {W : WX} {X : Cx} {pos : Pos}

/-! ### constants, names -/
theorem ev_non {j} : PE X (.Constant .none j pos) (tEv c g W .non) := pe_non.imp fun V H Q ⟨σ, F, Ls, s, r⟩ => by
  simp only [E.ev] at r
  exact r.fin s (by simp only [Rp])
theorem ev_bl {b j} : PE X (.Constant (.bool b) j pos) (tEv c g W (.bl b)) := pe_bl.imp fun V H Q ⟨σ, F, Ls, s, r⟩ => by
  simp only [E.ev] at r
  exact r.fin s (by simp only [Rp])
theorem ev_int {i j} : PE X (.Constant (.int i) j pos) (tEv c g W (.int i)) := pe_int.imp fun V H Q ⟨σ, F, Ls, s, r⟩ => by
  simp only [E.ev] at r
  exact r.fin s (by simp only [Rp])
theorem ev_str {i j} : PE X (.Constant (.str i) j pos) (tEv c g W (.str i)) := pe_str.imp fun V H Q ⟨σ, F, Ls, s, r⟩ => by
  simp only [E.ev] at r
  exact r.fin s (by simp only [Rp])
theorem join_some {σ : Env} {i : Nat} {t : Slot} (e : (σ[i]?).join = some t) : σ[i]? = some (some t) := by
  cases q : σ[i]? with
  | none => rw [q] at e; cases e
  | some u => rw [q] at e; simp only [Option.join_some] at e; rw [e]
theorem lt_of_some {σ : Env} {i : Nat} {t : Slot} (e : σ[i]? = some (some t)) : i < σ.length := (List.getElem?_eq_some_iff.mp e).1
/-- a name's content is frozen where it stands -/
theorem St.frzAt {F : AS} {Ls : Nat → AS} {H : Hp} {σ : Env} {V : VS} {i : Nat} {t : Slot} {x : L2.V} (s : St c F Ls H σ V) (e : σ[i]? = some (some t)) (ex : V[i]? = some (some x)) :
    St c (fun a => F a ∨ Ls i a) (setL Ls i fun _ => False) H (σ.set i (some (.v t.fz))) V ∧ Rp c (fun a => F a ∨ Ls i a) H t.fz x ∧ Tr F (Own Ls) H (fun a => F a ∨ Ls i a) (Own (setL Ls i fun _ => False)) H := by
  obtain ⟨y, e1, r⟩ := s.rel i t e
  rw [ex] at e1
  cases e1
  have hi := lt_of_some e
  have own1 : ∀ a, Own (setL Ls i fun _ => False) a → Own Ls a ∧ ¬ Ls i a := fun a ⟨j, z⟩ => by
    unfold setL at z
    split at z
    · exact z.elim
    · rename_i hj; exact ⟨⟨j, z⟩, fun q => hj (s.dis j i a z q)⟩
  have s1 : St c F (setL Ls i fun _ => False) H (σ.set i none) V := s.drop
  have s2 : St c (fun a => F a ∨ Ls i a) (setL Ls i fun _ => False) H (σ.set i none) V :=
    s1.keep (fun a f => .inl f) (fun a z q => q.elim (s.own a (own1 a z).1).1 (own1 a z).2) (fun _ _ _ e => e)
      fun a f => f.elim (s.fr a) fun z => let ⟨_, o, e, _⟩ := r.own a z; ⟨o, e⟩
  have s3 := s2.put (i := i) (t := .v t.fz) (x := x) (S := fun _ => False) (by simpa using hi) (RpS.v r.frz) (fun a z => z.elim)
  have e3 : setL (setL Ls i fun _ => False) i (fun _ => False) = setL Ls i fun _ => False := by
    funext j
    unfold setL
    split <;> rfl
  have e4 : (V.set i (some x)) = V := by
    have hv : i < V.length := (List.getElem?_eq_some_iff.mp ex).1
    apply List.ext_getElem?
    intro j
    by_cases h : j = i
    · subst h; rw [List.getElem?_set_self hv, ex]
    · rw [List.getElem?_set_ne (Ne.symm h)]
  rw [e3, e4, List.set_set] at s3
  refine ⟨s3, r.frz, ⟨fun a o e _ => e, fun a f => .inl f, fun a f => f.elim .inl fun z => .inr (.inl ⟨i, z⟩), fun a z => .inl (own1 a z).1, fun a o e => ⟨o, e⟩, fun a xs e => e⟩⟩
theorem ev_var {i : Nat} {x : Str} (hN : X.N[i]? = some x) (hv : Vis X.env.scope x) (hd : (x == ("__debug__" : Str)) = false) (hcd : (x == ("__classdict__" : Str)) = false) : PE X (.Name x pos) (tEv c g W (.var i)) :=
  (pe_var hN hv hd hcd).imp fun V H Q ⟨σ, F, Ls, s, r⟩ => by
    simp only [E.ev, frzP, rdP] at r
    cases e1 : (σ[i]?).join with
    | none => rw [e1] at r; exact r.elim
    | some t =>
      have e := join_some e1
      obtain ⟨y, ex, rr⟩ := s.rel i t e
      refine ⟨y, ex, ?_⟩
      rw [e1] at r
      have gen : RWe c W V F (Own Ls) H (.ok (Slot.v t.fz, σ.set i (some (Slot.v t.fz)))) Q → Q y H := fun r => by
        obtain ⟨s2, r2, t2⟩ := s.frzAt e ex
        exact (r.from t2).fin s2 r2
      cases t with
      | cl d => cases d with
        | v u => exact r.fin s rr.1
        | ml us => exact gen r
        | md us => exact gen r
      | mi k fs => exact gen r
theorem pre_var {i : Nat} {x : Str} (hN : X.N[i]? = some x) (hv : Vis X.env.scope x) (hd : (x == ("__debug__" : Str)) = false) (hcd : (x == ("__classdict__" : Str)) = false) : PE X (.Name x pos) (tPre c g W (.var i)) :=
  (pe_var hN hv hd hcd).imp fun V H Q ⟨σ, F, Ls, s, r⟩ => by
    simp only [E.pre, rdP] at r
    cases e1 : (σ[i]?).join with
    | none => rw [e1] at r; exact r.elim
    | some t =>
      obtain ⟨y, ex, rr⟩ := s.rel i t (join_some e1)
      rw [e1] at r
      exact ⟨y, ex, r F Ls H s Tr.refl y ex⟩

/-! ### operators -/
/-- the end of an operator: the value, then what it gives -/
def OpEnd (c : Cfg) (H : Hp) (F : AS) (t : Slot) (r : VK → Prop) : Prop :=
  ∀ (W : WX) (V : VS) (Ls : Nat → AS) (σ : Env) (Q : VK), St c F Ls H σ V → RWe c W V F (Own Ls) H (.ok (t, σ)) Q → r Q
theorem ev_bin {a b : E} {ea eb : Expr} {op : BOp} {kop : Operator} {r : R2} (ho : OpR X (binaryOp kop) r) (ha : PE X ea (tPre c g W a)) (hb : PE X eb (tPre c g W b))
    (h : ∀ F H v w x y t, RpO c F H v x → RpO c F H w y → binV op v w = some t → OpEnd c H F t fun Q => r x y H Q) : PE X (.BinOp ea kop eb pos) (tEv c g W (.bin op a b)) :=
  (pe_op ho ha hb).imp fun V H Q ⟨σ, F, Ls, s, q⟩ => by
    simp only [E.ev] at q
    refine two_pre s q fun p q σ1 σ2 x y F' Ls' H' s' rx ry h' => ?_
    dsimp only at h'
    split at h'
    · rename_i v w e
      obtain ⟨ox, oy, _⟩ := fill2 s' rx ry e
      split at h'
      · rename_i t et
        exact h F' H' v w x y t ox oy et W V Ls' σ2 Q s' h'
      · exact h'.elim
    · exact h'.elim
/-- int operators -/
theorem opEnd_int {F : AS} {H : Hp} {i : Int} {r : VK → Prop} (h : ∀ Q : VK, Q (.int i) H → r Q) : OpEnd c H F (.v (.int i)) r :=
  fun W V Ls σ Q s q => h Q (q.fin s (by simp only [Rp]))
theorem opEnd_bl {F : AS} {H : Hp} {i : Bool} {r : VK → Prop} (h : ∀ Q : VK, Q (.bl i) H → r Q) : OpEnd c H F (.v (.bl i)) r :=
  fun W V Ls σ Q s q => h Q (q.fin s (by simp only [Rp]))
theorem opEnd_str {F : AS} {H : Hp} {i : Str} {r : VK → Prop} (h : ∀ Q : VK, Q (.str i) H → r Q) : OpEnd c H F (.v (.str i)) r :=
  fun W V Ls σ Q s q => h Q (q.fin s (by simp only [Rp]))
theorem opEnd_lst {F : AS} {H : Hp} {vs : List Val} {xs : List L2.V} {r : VK → Prop} (q : Rps c F H vs xs) (h : ∀ Q : VK, (∀ p, H p = none → Q (.ref p) (upd H p (.lst xs))) → r Q) : OpEnd c H F (.ml vs) r :=
  fun W V Ls σ Q s q' => h Q fun p hp => q'.finL s hp q
theorem opEnd_tup {F : AS} {H : Hp} {vs : List Val} {xs : List L2.V} {r : VK → Prop} (q : Rps c F H vs xs) (h : ∀ Q : VK, (∀ p, H p = none → Q (.ref p) (upd H p (.tup xs))) → r Q) : OpEnd c H F (.v (.tup vs)) r :=
  fun W V Ls σ Q s q' => h Q fun p hp => q'.finT s hp q
theorem OpEnd.imp {F : AS} {H : Hp} {t : Slot} {r r' : VK → Prop} (h : OpEnd c H F t r) (i : ∀ Q, r Q → r' Q) : OpEnd c H F t r' := fun W V Ls σ Q s q => i Q (h W V Ls σ Q s q)
/-- an operand's value again -/
theorem opEnd_same {F : AS} {H : Hp} {v : Val} {x : L2.V} {r : VK → Prop} (q : Rp c F H v x) (h : ∀ Q : VK, Q x H → r Q) : OpEnd c H F (.v v) r :=
  fun W V Ls σ Q s q' => h Q (q'.fin s q)
theorem lim_eq : LIM = sizeLine := by rw [sizeLine_eq]
theorem Rps.nil_iff {F : AS} {H : Hp} {vs : List Val} {xs : List L2.V} (h : Rps c F H vs xs) : vs = [] ↔ xs = [] := by
  have := h.length
  constructor
  · rintro rfl; exact List.length_eq_zero_iff.mp this.symm
  · rintro rfl; exact List.length_eq_zero_iff.mp this

/-- a list that stands, read or known -/
theorem _root_.L2.Inv.lstR {pins : List (Addr × Obj)} {σ : L2.St} {H : Hp} {s : Shared} {l : Addr} {xs : List L2.V} (I : Inv X pins σ H s) (hH : Rd H l (.lst xs)) :
    xs.length ≤ sizeLine ∧ ∃ (its : List Value) (n : Nat), Vals xs its ∧ xs.length = its.length ∧ s.heap.get? l = some { cls := .type "list", data := .seq its.toArray n } := by
  obtain ⟨z, its, n, r, e⟩ := hH.ok I.hok
  exact ⟨z, its, n, r, r.length, e⟩
/-- a + b of lists -/
def rCatR : R2 := fun x y H Q => ∃ l b xs zs, x = .ref l ∧ y = .ref b ∧ Rd H l (.lst xs) ∧ Rd H b (.lst zs) ∧ xs.length + zs.length ≤ sizeLine ∧ ∀ p, H p = none → Q (.ref p) (upd H p (.lst (xs ++ zs)))
theorem op_catR : OpR X (binaryOp .Add) rCatR := by
  intro pins s σ H x y v u Q I rx ry h
  obtain ⟨l, b, xs, zs, rfl, rfl, hH, hB, hz, q⟩ := h
  cases rx
  cases ry
  obtain ⟨z, its, n, r, hl, e⟩ := I.lstR hH
  obtain ⟨z2, its2, n2, r2, hl2, e2⟩ := I.lstR hB
  refine PySem.P.add_list e e2 ?_ (by rw [List.size_toArray, List.size_toArray]; omega)
  have ea : its.toArray ++ its2.toArray = (its ++ its2).toArray := by simp
  rw [ea]
  exact ⟨.ref _, _, I.lnew (t' := s.toks) (r.append r2) (by rw [List.length_append]; omega), rfl, q _ I.fresh⟩
/-- a list times an int -/
def rRepR : R2 := fun x y H Q => ∃ l k xs, x = .ref l ∧ y = .int k ∧ H l = some (.lst xs) ∧ -(2 ^ 63) ≤ k ∧ k < 2 ^ 63 ∧ xs.length * k.toNat ≤ sizeLine ∧
  ∀ p, H p = none → Q (.ref p) (upd H p (.lst (List.replicate k.toNat xs).flatten))
/-- ints -/
def CMulB (i j : Int) : Prop := i.natAbs.log2 + j.natAbs.log2 < 134000000
theorem CMulB.ok {i j : Int} (h : CMulB i j) : IntMulOk i j := by
  have b : ∀ x : Int, Builtin.Int.intBits x ≤ x.natAbs.log2 + 1 := fun x => by
    unfold Builtin.Int.intBits
    split <;> omega
  have h1 := b i
  have h2 := b j
  have h3 : i.natAbs.log2 + j.natAbs.log2 < 134000000 := h
  have e : bitsLine = 134217728 := by decide
  unfold IntMulOk
  intro z
  rw [Bool.and_eq_true] at z
  have z2 := z.2
  unfold Builtin.Int.intTooBig at z2
  have z3 := of_decide_eq_true z2
  rw [e] at z3
  omega
theorem op_mulB : OpR X (binaryOp .Mult) (rI CMulB fun i j => .int (i * j)) := opI fun _ _ _ _ _ _ _ hc q => mul_int q hc.ok
def CDivB (_ j : Int) : Prop := j ≠ 0 ∧ j.natAbs.log2 < 9000
theorem op_fdivB : OpR X (binaryOp .FloorDiv) (rI CDivB fun i j => .int (i.fdiv j)) := opI fun i j _ _ _ _ _ hc q => floordiv_int hc.1 q (.inl (PyProof.noPylong_of_log2 hc.2))

theorem lim_le {n : Nat} (h : n ≤ LIM) : n ≤ sizeLine := by rw [sizeLine_eq]; exact h
abbrev rAddB (K : PySem.W.Frag) : R2 := fun x y H Q => ((rI0 (fun i j => .int (i + j)) x y H Q ∨ (∃ i j, x = .str i ∧ y = .str j ∧ i.length + j.length ≤ sizeLine ∧ Q (.str (i ++ j)) H)) ∨ rCatA K x y H Q) ∨ rCatR x y H Q
theorem op_addB : OpR X (binaryOp .Add) (rAddB X.K) := ((op_add.or op_add_str).or op_catA).or op_catR
theorem ev_add {a b : E} {ea eb : Expr} (hK : X.K = c.K) (ha : PE X ea (tPre c g W a)) (hb : PE X eb (tPre c g W b)) : PE X (.BinOp ea .Add eb pos) (tEv c g W (.bin .add a b)) :=
  ev_bin op_addB ha hb fun F H v w x y t ox oy e => by
    cases v <;> cases w <;> simp only [binV] at e <;> first | (cases e; done) | skip
    · cases e; rw [ox.int, oy.int]
      exact opEnd_int fun Q q => .inl (.inl (.inl ⟨_, _, rfl, rfl, q⟩))
    · split at e
      · rename_i hz; cases e; rw [ox.str, oy.str]
        exact opEnd_str fun Q q => .inl (.inl (.inr ⟨_, _, rfl, rfl, lim_le hz, q⟩))
      · cases e
    · split at e
      · rename_i vs ws hz; cases e
        obtain ⟨p, xs, rfl, h1, r1⟩ := ox.tup
        obtain ⟨q, ys, rfl, h2, r2⟩ := oy.tup
        rw [r1.length, r2.length] at hz
        rw [hK]
        intro W V Ls σ Q s q'
        have qx : Rp c F H (.tup vs) (.ref p) := ox.flat (fun _ => nofun) (fun _ => nofun) (fun _ _ => nofun)
        have qy : Rp c F H (.tup ws) (.ref q) := oy.flat (fun _ => nofun) (fun _ => nofun) (fun _ _ => nofun)
        refine .inl (.inr ⟨p, q, xs, ys, rfl, rfl, h1, h2, lim_le hz, fun e => ?_, fun _ e => ?_, fun _ _ p hp => q'.finT s hp (r1.append r2)⟩)
        · have e1 := r1.nil_iff.mpr e
          rw [e1, List.nil_append] at q'
          exact q'.fin s qy
        · have e1 := r2.nil_iff.mpr e
          rw [e1, List.append_nil] at q'
          exact q'.fin s qx
      · cases e
    · split at e
      · rename_i vs ws hz; cases e
        obtain ⟨p, xs, rfl, h1, r1⟩ := ox.lst
        obtain ⟨q, ys, rfl, h2, r2⟩ := oy.lst
        rw [r1.length, r2.length] at hz
        exact opEnd_lst (r1.append r2) fun Q q' => .inr ⟨p, q, xs, ys, rfl, rfl, h1, h2, lim_le hz, q'⟩
      · cases e
theorem ev_sub {a b : E} {ea eb : Expr} (ha : PE X ea (tPre c g W a)) (hb : PE X eb (tPre c g W b)) : PE X (.BinOp ea .Sub eb pos) (tEv c g W (.bin .sub a b)) :=
  ev_bin op_sub ha hb fun F H v w x y t ox oy e => by
    cases v <;> cases w <;> simp only [binV] at e <;> first | (cases e; done) | skip
    cases e; rw [ox.int, oy.int]
    exact opEnd_int fun Q q => ⟨_, _, rfl, rfl, q⟩
theorem ev_fdiv {a b : E} {ea eb : Expr} (ha : PE X ea (tPre c g W a)) (hb : PE X eb (tPre c g W b)) : PE X (.BinOp ea .FloorDiv eb pos) (tEv c g W (.bin .fdiv a b)) :=
  ev_bin op_fdivB ha hb fun F H v w x y t ox oy e => by
    cases v <;> cases w <;> simp only [binV] at e <;> first | (cases e; done) | skip
    split at e
    · rename_i hz; cases e; rw [ox.int, oy.int]
      exact opEnd_int fun Q q => ⟨_, _, rfl, rfl, hz, q⟩
    · cases e
theorem ev_mod {a b : E} {ea eb : Expr} (ha : PE X ea (tPre c g W a)) (hb : PE X eb (tPre c g W b)) : PE X (.BinOp ea .Mod eb pos) (tEv c g W (.bin .mod a b)) :=
  ev_bin op_modN ha hb fun F H v w x y t ox oy e => by
    cases v <;> cases w <;> simp only [binV] at e <;> first | (cases e; done) | skip
    split at e
    · rename_i hz; cases e; rw [ox.int, oy.int]
      exact opEnd_int fun Q q => ⟨_, _, rfl, rfl, hz, q⟩
    · cases e
theorem ev_pow {a b : E} {ea eb : Expr} (ha : PE X ea (tPre c g W a)) (hb : PE X eb (tPre c g W b)) : PE X (.BinOp ea .Pow eb pos) (tEv c g W (.bin .pow a b)) :=
  ev_bin op_pow ha hb fun F H v w x y t ox oy e => by
    cases v <;> cases w <;> simp only [binV] at e <;> first | (cases e; done) | skip
    split at e
    · rename_i hz; cases e; rw [ox.int, oy.int]
      exact opEnd_int fun Q q => ⟨_, _, rfl, rfl, ⟨hz.1, by omega, by have := hz.2.2; omega⟩, q⟩
    · cases e
abbrev rMulB (K : PySem.W.Frag) : R2 := fun x y H Q => (rI CMulB (fun i j => .int (i * j)) x y H Q ∨ rRep x y H Q) ∨ rRepT K x y H Q
end
end PL
/-! PC2: more expressions without calls. -/
namespace PL
open PySem PySem.Spec PyProof.Rows L2
section
variable {c : Cfg} {g : Ctx} {W : WX} {X : Cx} {pos : Pos}
def rRepX : R2 := fun x y H Q => ∃ l k xs, x = .ref l ∧ y = .int k ∧ Rd H l (.lst xs) ∧ -(2 ^ 63) ≤ k ∧ k < 2 ^ 63 ∧ xs.length * k.toNat ≤ sizeLine ∧
  ∀ p, H p = none → Q (.ref p) (upd H p (.lst (List.replicate k.toNat xs).flatten))
theorem op_repX : OpR X (binaryOp .Mult) rRepX := by
  intro pins s σ H x y v u Q I rx ry h
  obtain ⟨l, k, xs, rfl, rfl, hH, h1, h2, hz, q⟩ := h
  cases rx
  obtain ⟨t, rfl⟩ := ry
  obtain ⟨z, its, n, r, hl, e⟩ := I.lstR hH
  have hlen : its.toArray.size * k.toNat ≤ sizeLine := by rw [List.size_toArray, ← hl]; exact hz
  have hcap : ¬ its.toArray.size * k.toNat > (2 ^ 63 - 1) / 8 := by
    have : (sizeLine : Nat) ≤ (2 ^ 63 - 1) / 8 := by decide
    omega
  have hfit : ¬ (!Builtin.List.listFitsIndex k) = true := by
    rw [fitsIndex_both h1 h2]
    exact Bool.false_ne_true
  have hlong : ¬ Builtin.List.listTooLong (its.toArray.size * k.toNat) = true := by
    rw [notLongL hlen]
    exact Bool.false_ne_true
  have hnew : List.foldl (fun x1 x2 => x1 ++ x2) #[] (List.replicate (if its.toArray.isEmpty = true then 0 else k.toNat) its.toArray) = (List.replicate k.toNat its).flatten.toArray := by
    have f0 : ∀ m : Nat, List.foldl (fun x1 x2 => x1 ++ x2) #[] (List.replicate m its.toArray) = (List.replicate m its).flatten.toArray := fun m => by
      have := foldl_rep its m []
      rw [List.nil_append] at this
      exact this
    rw [f0]
    cases its with
    | nil => simp
    | cons a r' => rw [if_neg (by simp)]
  refine wpAny_binaryOp_repeat_ref (T := "list") (U := "int") (by decide) ⟨_, e, rfl⟩ (fun s' => typeIs_int s' k t) noFill_list_mul F.fills_int_mul F.slot_int_rmul repeat_list F.slot_int_index.lookup
    (call_meets F.slot_int_rmul (typeIs_int s k t) F.entry_int_rmul (F.args_int_rmul_2 _ _) (int___rmul___int_list k t l its.toArray n)
      ⟨e, rfl, ⟨_, e, rfl⟩, call_meets F.slot_list_mul ⟨_, e, rfl⟩ F.entry_list_mul (F.args_list_mul_2 _ _) (AutoListH.list___mul___list_int_3 l its.toArray n k t hfit hcap hlong) ⟨e, ?_⟩⟩)
  rw [hnew]
  exact ⟨.ref _, _, I.lnew (t' := s.toks) (r.rep k.toNat) (by rw [PyProof.Rows.lm_len_rep_flat, Nat.mul_comm]; exact hz), rfl, q _ I.fresh⟩
abbrev rMulX (K : PySem.W.Frag) : R2 := fun x y H Q => (rI CMulB (fun i j => .int (i * j)) x y H Q ∨ rRepX x y H Q) ∨ rRepT K x y H Q
theorem op_mulX : OpR X (binaryOp .Mult) (rMulX X.K) := (op_mulB.or op_repX).or op_repT
end
end PL
/-! PC3: more expressions without calls. -/
namespace PL
open PySem PySem.Spec PyProof.Rows L2
section
variable {c : Cfg} {g : Ctx} {W : WX} {X : Cx} {pos : Pos}
theorem ev_mul {a b : E} {ea eb : Expr} (hK : X.K = c.K) (ha : PE X ea (tPre c g W a)) (hb : PE X eb (tPre c g W b)) : PE X (.BinOp ea .Mult eb pos) (tEv c g W (.bin .mul a b)) :=
  ev_bin op_mulX ha hb fun F H v w x y t ox oy e => by
    cases v <;> cases w <;> simp only [binV] at e <;> first | (cases e; done) | skip
    · split at e
      · rename_i hz; cases e; rw [ox.int, oy.int]
        exact opEnd_int fun Q q => .inl (.inl ⟨_, _, rfl, rfl, show CMulB _ _ from of_decide_eq_true (p := _ < 134000000) hz, q⟩)
      · cases e
    · split at e
      · rename_i vs k hz; cases e
        obtain ⟨p, xs, rfl, h1, r1⟩ := ox.tup
        rw [oy.int]
        rw [r1.length] at hz
        have hne : xs ≠ [] := fun e => hz.1 (r1.nil_iff.mpr e)
        refine opEnd_tup (r1.rep k.toNat) fun Q q' => .inr ⟨p, k, xs, rfl, rfl, by rw [hK]; exact h1, hne, hz.2.1, hz.2.2.1, hz.2.2.2, q'⟩
      · cases e
    · split at e
      · rename_i vs k hz; cases e
        obtain ⟨p, xs, rfl, h1, r1⟩ := ox.lst
        rw [oy.int]
        rw [r1.length] at hz
        exact opEnd_lst (r1.rep k.toNat) fun Q q' => .inl (.inr ⟨p, k, xs, rfl, rfl, h1, hz.1, hz.2.1, lim_le hz.2.2, q'⟩)
      · cases e
theorem ev_neg {a : E} {ea : Expr} (ha : PE X ea (tPre c g W a)) : PE X (.UnaryOp .USub ea pos) (tEv c g W (.neg a)) :=
  (pe_un un_neg ha).imp fun V H Q ⟨σ, F, Ls, s, q⟩ => by
    simp only [E.ev] at q
    refine one_pre s q fun p σ1 x F' Ls' H' s' rx h' => ?_
    dsimp only at h'
    split at h'
    · rename_i i e
      obtain ⟨ox, _⟩ := fill1 s' rx e
      exact ⟨i, ox.int, h'.fin s' (by simp only [Rp])⟩
    · exact h'.elim

/-! ### truth -/
theorem decNe0 (n : Nat) : decide (n ≠ 0) = ((n : Int) != 0) := by
  by_cases h : n = 0
  · subst h; rfl
  · rw [decide_eq_true h]
    exact (bne_iff_ne.mpr (by omega)).symm
theorem Rps.isEmpty {F : AS} {H : Hp} {vs : List Val} {xs : List L2.V} (h : Rps c F H vs xs) : vs.isEmpty = xs.isEmpty := by
  have := h.length
  cases vs <;> cases xs <;> simp at this <;> rfl
theorem truV {F : AS} {H : Hp} {v : Val} {x : L2.V} {k : Bool} (h : RpO c F H v x) (e : truth v = some k) : TruV c.K x H k := by
  cases v with
  | non => rw [h.non]; cases e; rfl
  | bl b => rw [h.bl]; cases e; rfl
  | int i => rw [h.int]; cases e; rfl
  | str y =>
    rw [h.str]
    simp only [truth] at e
    split at e
    · rename_i hz; cases e; exact ⟨lim_le hz, decNe0 _⟩
    · cases e
  | tup vs =>
    obtain ⟨a, xs, rfl, q, r⟩ := h.tup
    cases e
    exact .inr (.inl ⟨xs, q, by rw [r.isEmpty]⟩)
  | lst vs =>
    obtain ⟨a, xs, rfl, q, r⟩ := h.lst
    cases e
    exact .inl ⟨xs, .inl q, by rw [r.isEmpty]⟩
  | dct kvs => cases e
  | ins k fs => cases e
theorem ev_no {a : E} {ea : Expr} (hK : X.K = c.K) (ha : PE X ea (tPre c g W a)) : PE X (.UnaryOp .Not ea pos) (tEv c g W (.no a)) :=
  (pe_notT ha).imp fun V H Q ⟨σ, F, Ls, s, q⟩ => by
    simp only [E.ev] at q
    refine one_pre s q fun p σ1 x F' Ls' H' s' rx h' => ?_
    dsimp only at h'
    split at h'
    · rename_i v e
      obtain ⟨ox, _⟩ := fill1 s' rx e
      split at h'
      · rename_i k ek
        exact ⟨k, by rw [hK]; exact truV ox ek, h'.fin s' (by simp only [Rp])⟩
      · exact h'.elim
    · exact h'.elim
theorem ev_and {a b : E} {ea eb : Expr} {rest : List Expr} (hK : X.K = c.K) (ha : PE X ea (tEv c g W a)) (hb : PE X (.BoolOp .And (eb :: rest) pos) (tEv c g W b)) : PE X (.BoolOp .And (ea :: eb :: rest) pos) (tEv c g W (.and a b)) :=
  (pe_andT ha hb).imp fun V H Q ⟨σ, F, Ls, s, q⟩ => by
    simp only [E.ev] at q
    refine ⟨σ, F, Ls, s, q.bindS fun t σ' x F' Ls' H' s' r h' => ?_⟩
    dsimp only at h'
    split at h'
    · rename_i e
      exact ⟨true, by rw [hK]; exact truV (.of r) e, iteT <| ⟨σ', F', Ls', s', h'⟩⟩
    · rename_i e
      exact ⟨false, by rw [hK]; exact truV (.of r) e, iteF <| h'.fin s' r⟩
    · exact h'.elim
theorem ev_or {a b : E} {ea eb : Expr} {rest : List Expr} (hK : X.K = c.K) (ha : PE X ea (tEv c g W a)) (hb : PE X (.BoolOp .Or (eb :: rest) pos) (tEv c g W b)) : PE X (.BoolOp .Or (ea :: eb :: rest) pos) (tEv c g W (.or a b)) :=
  (pe_orT ha hb).imp fun V H Q ⟨σ, F, Ls, s, q⟩ => by
    simp only [E.ev] at q
    refine ⟨σ, F, Ls, s, q.bindS fun t σ' x F' Ls' H' s' r h' => ?_⟩
    dsimp only at h'
    split at h'
    · rename_i e
      exact ⟨true, by rw [hK]; exact truV (.of r) e, iteT <| h'.fin s' r⟩
    · rename_i e
      exact ⟨false, by rw [hK]; exact truV (.of r) e, iteF <| ⟨σ', F', Ls', s', h'⟩⟩
    · exact h'.elim

/-! ### tests -/
theorem tst_of {a : E} {ea : Expr} (hK : X.K = c.K) (ha : PE X ea (tPre c g W a)) (hs : isSpec a = false) (he : ∀ whole, PySem.isTrue ea X.env whole = (do let v ← whole; standAt ea.pos; holding [v] (truthy v))) : PT X ea (tTst c g W a) :=
  (pt_truth ha he).imp fun V H Q ⟨σ, F, Ls, s, q⟩ => by
    rw [test_eq hs] at q
    refine one_preW s q fun p σ1 x F' Ls' H' s' rx h' => ?_
    dsimp only at h'
    split at h'
    · rename_i v e
      obtain ⟨ox, _⟩ := fill1 s' rx e
      split at h'
      · rename_i k ek
        exact ⟨k, by rw [hK]; exact truV ox ek, h' F' Ls' H' s' Tr.refl⟩
      · exact h'.elim
    · exact h'.elim
/-- a comparison's test by its value -/
theorem tst_cmp {a : E} {ea : Expr} {t : TE} (h : PT X ea (tTest t)) (hs : isSpec a = false) (hp : isPlace a = false) (i : ∀ V H Q, tEv c g W a V H Q → t V H Q) (hb : ∀ σ s σ', a.ev g σ = .ok (s, σ') → ∃ k, s = .v (.bl k)) : PT X ea (tTst c g W a) :=
  h.imp fun V H Q ⟨σ, F, Ls, s, q⟩ => by
    rw [test_eq hs, pre_eq hp] at q
    refine i V H _ ⟨σ, F, Ls, s, ?_⟩
    cases e : a.ev g σ with
    | ok p =>
      obtain ⟨t, σ'⟩ := p
      rw [e] at q
      obtain ⟨k, rfl⟩ := hb σ t σ' e
      intro x S F' Ls' H' s' r d t'
      have r1 := r.1
      simp only [Rp] at r1
      subst r1
      have q' : RW c W V F (Own Ls) H (.ok (k, σ')) fun b σ' F' Ls' H' => Q b H' := q
      exact ⟨k, rfl, q' F' Ls' H' s' (t'.sub fun _ z => .inl z)⟩
    | exc e' σ' => rw [e] at q; exact q
    | stuck => rw [e] at q; exact q
theorem tst_no {a : E} {ea : Expr} (ha : PT X ea (tTst c g W a)) : PT X (.UnaryOp .Not ea pos) (tTst c g W (.no a)) :=
  (pt_not ha).imp fun V H Q ⟨σ, F, Ls, s, q⟩ => by
    simp only [E.test] at q
    refine ⟨σ, F, Ls, s, ?_⟩
    have h := q.bind
    cases e : a.test g σ with
    | ok p =>
      obtain ⟨k, σ'⟩ := p
      rw [e] at h
      intro F' Ls' H' s' t'
      exact h F' Ls' H' s' t' F' Ls' H' s' Tr.refl
    | exc e' σ' => rw [e] at h; exact h
    | stuck => rw [e] at h; exact h
theorem tst_andW {a b : E} {ea eb : Expr} {rest : List Expr} (ha : PT X ea (tTst c g W a)) (hb : PW X (.BoolOp .And (eb :: rest) pos) (tTst c g W b)) : PW X (.BoolOp .And (ea :: eb :: rest) pos) (tTst c g W (.and a b)) := by
  refine ⟨fun whole pins s V H Q I h => (pw_and ha hb).run whole pins s V H Q I ?_⟩
  obtain ⟨σ, F, Ls, s, q⟩ := h
  simp only [E.test] at q
  refine ⟨σ, F, Ls, s, ?_⟩
  have h := q.bind
  cases e : a.test g σ with
  | ok p =>
    obtain ⟨k, σ'⟩ := p
    rw [e] at h
    intro F' Ls' H' s' t'
    have h' := h F' Ls' H' s' t'
    cases k with
    | true => exact iteT <| ⟨σ', F', Ls', s', h'⟩
    | false => exact iteF <| h' F' Ls' H' s' Tr.refl
  | exc e' σ' => rw [e] at h; exact h
  | stuck => rw [e] at h; exact h
theorem tst_orW {a b : E} {ea eb : Expr} {rest : List Expr} (ha : PT X ea (tTst c g W a)) (hb : PW X (.BoolOp .Or (eb :: rest) pos) (tTst c g W b)) : PW X (.BoolOp .Or (ea :: eb :: rest) pos) (tTst c g W (.or a b)) := by
  refine ⟨fun whole pins s V H Q I h => (pw_or ha hb).run whole pins s V H Q I ?_⟩
  obtain ⟨σ, F, Ls, s, q⟩ := h
  simp only [E.test] at q
  refine ⟨σ, F, Ls, s, ?_⟩
  have h := q.bind
  cases e : a.test g σ with
  | ok p =>
    obtain ⟨k, σ'⟩ := p
    rw [e] at h
    intro F' Ls' H' s' t'
    have h' := h F' Ls' H' s' t'
    cases k with
    | true => exact iteT <| h' F' Ls' H' s' Tr.refl
    | false => exact iteF <| ⟨σ', F', Ls', s', h'⟩
  | exc e' σ' => rw [e] at h; exact h
  | stuck => rw [e] at h; exact h
theorem pt_if {ec ea eb : Expr} {tc ta tb : TT} (hc : PT X ec tc) (ha : PT X ea ta) (hb : PT X eb tb) : PT X (.IfExp ec ea eb pos) (fun V H Q => tc V H fun b H1 => if b = true then ta V H1 Q else tb V H1 Q) := by
  refine ⟨fun pins s σ H Q I h => ?_⟩
  have e : PySem.isTrue (.IfExp ec ea eb pos) X.env (eval (.IfExp ec ea eb pos) X.env) = (do
      if ← PySem.isTrue ec X.env (eval ec X.env) then PySem.isTrue ea X.env (eval ea X.env) else PySem.isTrue eb X.env (eval eb X.env)) := by rw [PySem.isTrue]
  rw [e]
  refine wpAny_bind (thn (hc.run pins s σ H _ I h) fun b s1 ⟨H1, I1, q⟩ => ?_)
  cases b with
  | true => rw [if_pos rfl]; rw [if_pos rfl] at q; exact ha.run pins s1 σ H1 Q I1 q
  | false => rw [if_neg Bool.false_ne_true]; rw [if_neg Bool.false_ne_true] at q; exact hb.run pins s1 σ H1 Q I1 q
theorem tst_ite {k a b : E} {ec ea eb : Expr} (hc : PT X ec (tTst c g W k)) (ha : PT X ea (tTst c g W a)) (hb : PT X eb (tTst c g W b)) : PT X (.IfExp ec ea eb pos) (tTst c g W (.ite k a b)) :=
  (pt_if hc ha hb).imp fun V H Q ⟨σ, F, Ls, s, q⟩ => by
    simp only [E.test] at q
    refine ⟨σ, F, Ls, s, ?_⟩
    have h := q.bind
    cases e : k.test g σ with
    | ok p =>
      obtain ⟨k, σ'⟩ := p
      rw [e] at h
      intro F' Ls' H' s' t'
      have h' := h F' Ls' H' s' t'
      cases k with
      | true => exact iteT <| ⟨σ', F', Ls', s', h'⟩
      | false => exact iteF <| ⟨σ', F', Ls', s', h'⟩
    | exc e' σ' => rw [e] at h; exact h
    | stuck => rw [e] at h; exact h
theorem ev_ite {k a b : E} {ec ea eb : Expr} (hc : PT X ec (tTst c g W k)) (ha : PE X ea (tEv c g W a)) (hb : PE X eb (tEv c g W b)) : PE X (.IfExp ec ea eb pos) (tEv c g W (.ite k a b)) :=
  (pe_ifExp hc ha hb).imp fun V H Q ⟨σ, F, Ls, s, q⟩ => by
    simp only [E.ev] at q
    refine ⟨σ, F, Ls, s, ?_⟩
    have h := q.bind
    cases e : k.test g σ with
    | ok p =>
      obtain ⟨k, σ'⟩ := p
      rw [e] at h
      intro F' Ls' H' s' t'
      have h' := h F' Ls' H' s' t'
      cases k with
      | true => exact iteT <| ⟨σ', F', Ls', s', h'⟩
      | false => exact iteF <| ⟨σ', F', Ls', s', h'⟩
    | exc e' σ' => rw [e] at h; exact h
    | stuck => rw [e] at h; exact h

/-! ### data -/
mutual
def toD : Val → PyData
  | .non => .none
  | .bl b => .bool b
  | .int i => .int i
  | .str s => .str s
  | .tup vs => .tuple (toDs vs)
  | .lst vs => .list (toDs vs)
  | .dct _ => .none
  | .ins _ _ => .none
def toDs : List Val → List PyData
  | [] => []
  | v :: vs => toD v :: toDs vs
end
mutual
theorem dp_of {F : AS} {H : Hp} : ∀ (n : Nat) (v : Val) (x : L2.V), v.isD n = true → Rp c F H v x → Dp c.K H x (toD v)
  | _, .non, x, _, r => by simp only [Rp] at r; subst r; exact .non
  | _, .bl b, x, _, r => by simp only [Rp] at r; subst r; exact .bl b
  | _, .int b, x, _, r => by simp only [Rp] at r; subst r; exact .int b
  | _, .str b, x, _, r => by simp only [Rp] at r; subst r; exact .str b
  | 0, .tup vs, x, h, _ => by simp [Val.isD] at h
  | n + 1, .tup vs, x, h, r => by
    simp only [Val.isD] at h
    simp only [Rp] at r
    obtain ⟨a, xs, rfl, q, r⟩ := r
    simp only [toD]
    refine .tup ?_ (dps_of n vs xs h r)
    rcases q with ⟨q, _⟩ | q
    · exact .inl (.inl q)
    · exact SqT.noH q
  | 0, .lst vs, x, h, _ => by simp [Val.isD] at h
  | n + 1, .lst vs, x, h, r => by
    simp only [Val.isD] at h
    simp only [Rp] at r
    obtain ⟨a, xs, rfl, f, q, r⟩ := r
    simp only [toD]
    exact .lst (.inl q) (dps_of n vs xs h r)
  | n, .dct kvs, x, h, _ => by cases n <;> simp [Val.isD] at h
  | n, .ins k fs, x, h, _ => by cases n <;> simp [Val.isD] at h
theorem dps_of {F : AS} {H : Hp} : ∀ (n : Nat) (vs : List Val) (xs : List L2.V), areD n vs = true → Rps c F H vs xs → DpAll c.K H xs (toDs vs)
  | _, [], xs, _, r => by simp only [Rps] at r; subst r; exact .nil
  | n, v :: vs, xs, h, r => by
    simp only [Rps] at r
    obtain ⟨x, r', rfl, q1, q2⟩ := r
    simp only [areD, Bool.and_eq_true] at h
    exact .cons (dp_of n v x h.1 q1) (dps_of n vs r' h.2 q2)
end
theorem dpo_of {F : AS} {H : Hp} {n : Nat} {v : Val} {x : L2.V} (h : v.isD n = true) (r : RpO c F H v x) : Dp c.K H x (toD v) := by
  cases v with
  | lst vs =>
    cases n with
    | zero => simp [Val.isD] at h
    | succ n =>
      simp only [Val.isD] at h
      obtain ⟨a, xs, rfl, q, r⟩ := r.lst
      simp only [toD]
      exact .lst (.inl q) (dps_of n vs xs h r)
  | dct kvs => cases n <;> simp [Val.isD] at h
  | ins k fs => cases n <;> simp [Val.isD] at h
  | non => exact dp_of n _ x h (r.flat (fun _ => nofun) (fun _ => nofun) (fun _ _ => nofun))
  | bl b => exact dp_of n _ x h (r.flat (fun _ => nofun) (fun _ => nofun) (fun _ _ => nofun))
  | int b => exact dp_of n _ x h (r.flat (fun _ => nofun) (fun _ => nofun) (fun _ _ => nofun))
  | str b => exact dp_of n _ x h (r.flat (fun _ => nofun) (fun _ => nofun) (fun _ _ => nofun))
  | tup b => exact dp_of n _ x h (r.flat (fun _ => nofun) (fun _ => nofun) (fun _ _ => nofun))
mutual
theorem eqv_toD : ∀ (n m : Nat) (v w : Val), v.isD n = true → w.isD m = true → PyData.eqv (toD v) (toD w) = v.eqv w
  | n, m, v, w, h, h' => by
    cases v <;> cases w <;> first
      | (simp only [toD, PyData.eqv, Val.eqv]; done)
      | (exfalso; cases n <;> simp [Val.isD] at h; done)
      | (exfalso; cases m <;> simp [Val.isD] at h'; done)
      | skip
    · rename_i vs ws
      cases n with
      | zero => simp [Val.isD] at h
      | succ n => cases m with
        | zero => simp [Val.isD] at h'
        | succ m =>
          simp only [Val.isD] at h h'
          simp only [toD, PyData.eqv, Val.eqv]
          exact eqvs_toD n m vs ws h h'
    · rename_i vs ws
      cases n with
      | zero => simp [Val.isD] at h
      | succ n => cases m with
        | zero => simp [Val.isD] at h'
        | succ m =>
          simp only [Val.isD] at h h'
          simp only [toD, PyData.eqv, Val.eqv]
          exact eqvs_toD n m vs ws h h'
theorem eqvs_toD : ∀ (n m : Nat) (vs ws : List Val), areD n vs = true → areD m ws = true → PyData.eqvAll (toDs vs) (toDs ws) = eqvs vs ws
  | _, _, [], [], _, _ => by simp only [toDs, PyData.eqvAll, eqvs]
  | _, _, [], _ :: _, _, _ => by simp only [toDs, PyData.eqvAll, eqvs]
  | _, _, _ :: _, [], _, _ => by simp only [toDs, PyData.eqvAll, eqvs]
  | n, m, v :: vs, w :: ws, h, h' => by
    simp only [areD, Bool.and_eq_true] at h h'
    simp only [toDs, PyData.eqvAll, eqvs]
    rw [eqv_toD n m v w h.1 h'.1, eqvs_toD n m vs ws h.2 h'.2]
end
mutual
theorem lay_toD : ∀ (n : Nat) (v : Val), v.isD n = true → (toD v).canLay0 = true ∧ (toD v).depth ≤ n
  | n, v, h => by
    cases v with
    | tup vs =>
      cases n with
      | zero => simp [Val.isD] at h
      | succ n =>
        simp only [Val.isD] at h
        have := lays_toD n vs h
        simp only [toD, PyData.canLay0, PyData.depth]
        exact ⟨this.1, by omega⟩
    | lst vs =>
      cases n with
      | zero => simp [Val.isD] at h
      | succ n =>
        simp only [Val.isD] at h
        have := lays_toD n vs h
        simp only [toD, PyData.canLay0, PyData.depth]
        exact ⟨this.1, by omega⟩
    | str s =>
      simp only [Val.isD] at h
      simp only [toD, PyData.canLay0, PyData.depth]
      exact ⟨h, by omega⟩
    | _ => simp [toD, PyData.canLay0, PyData.depth]
theorem lays_toD : ∀ (n : Nat) (vs : List Val), areD n vs = true → PyData.canLayAll0 (toDs vs) = true ∧ PyData.depthAll (toDs vs) ≤ n
  | n, [], _ => by simp [toDs, PyData.canLayAll0, PyData.depthAll]
  | n, v :: vs, h => by
    simp only [areD, Bool.and_eq_true] at h
    have h1 := lay_toD n v h.1
    have h2 := lays_toD n vs h.2
    simp only [toDs, PyData.canLayAll0, PyData.depthAll, Bool.and_eq_true]
    exact ⟨⟨h1.1, h2.1⟩, by omega⟩
end
theorem shaped_toD {v : Val} (h : v.isD DEP = true) : SeqAt.shaped (toD v) = true := by
  have := lay_toD DEP v h
  unfold SeqAt.shaped
  rw [this.1, Bool.true_and]
  exact decide_eq_true (by have := this.2; show _ ≤ 64; simp only [DEP] at this; omega)
end
end PL
/-! PC4: comparisons, displays, items. -/
namespace PL
open PySem PySem.Spec PyProof.Rows L2
section
variable {c : Cfg} {g : Ctx} {W : WX} {X : Cx} {pos : Pos}
/-- what a comparison's rule is asked -/
def CmpEnd (c : Cfg) (op : COp) (r : R2) : Prop := ∀ F H v w x y k, RpO c F H v x → RpO c F H w y → cmpV op v w = some k → ∀ Q : VK, Q (.bl k) H → r x y H Q
theorem cmp_imp {a b : E} {op : COp} {r : R2} (h : CmpEnd c op r) (V : VS) (H : Hp) (Q : VK) (q : tEv c g W (.cmp op a b) V H Q) : tOp r (tPre c g W a) (tPre c g W b) V H Q := by
  obtain ⟨σ, F, Ls, s, q⟩ := q
  simp only [E.ev] at q
  refine two_pre s q fun p q σ1 σ2 x y F' Ls' H' s' rx ry h' => ?_
  dsimp only at h'
  split at h'
  · rename_i v w e
    obtain ⟨ox, oy, _⟩ := fill2 s' rx ry e
    split at h'
    · rename_i k ek
      exact h F' H' v w x y k ox oy ek Q (h'.fin s' (by simp only [Rp]))
    · exact h'.elim
  · exact h'.elim
theorem ev_cmp {a b : E} {ea eb : Expr} {op : COp} {kop : CmpOp} {r : R2} (ho : OpR X (compareOp kop) r) (ha : PE X ea (tPre c g W a)) (hb : PE X eb (tPre c g W b)) (hm : behindInMarks kop eb = false) (h : CmpEnd c op r) :
    PE X (.Compare ea [kop] [eb] pos) (tEv c g W (.cmp op a b)) := (pe_cmpR ho ha hb hm).imp (cmp_imp h)
theorem cmp_bl {a b : E} {op : COp} : ∀ σ s σ', (E.cmp op a b).ev g σ = .ok (s, σ') → ∃ k, s = .v (.bl k) := by
  intro σ s σ' e
  simp only [E.ev] at e
  cases e1 : a.pre g σ with
  | ok p =>
    obtain ⟨p, σ1⟩ := p
    simp only [e1, R.bind] at e
    cases e2 : b.pre g σ1 with
    | ok q =>
      obtain ⟨q, σ2⟩ := q
      simp only [e2, R.bind] at e
      split at e
      · split at e
        · cases e; exact ⟨_, rfl⟩
        · cases e
      · cases e
    | exc _ _ => simp only [e2, R.bind] at e; cases e
    | stuck => simp only [e2, R.bind] at e; cases e
  | exc _ _ => simp only [e1, R.bind] at e; cases e
  | stuck => simp only [e1, R.bind] at e; cases e
theorem tst_cmpE {a b : E} {ea eb : Expr} {op : COp} {kop : CmpOp} {r : R2} (ho : OpR X (compareOp kop) r) (ha : PE X ea (tPre c g W a)) (hb : PE X eb (tPre c g W b)) (hm : behindInMarks kop eb = false) (h : CmpEnd c op r) :
    PT X (.Compare ea [kop] [eb] pos) (tTst c g W (.cmp op a b)) := tst_cmp (pt_cmpR ho ha hb hm) rfl rfl (cmp_imp h) cmp_bl

/-! ### the rules -/
abbrev kopOf : COp → CmpOp
  | .lt => .Lt
  | .le => .LtE
  | .gt => .Gt
  | .ge => .GtE
  | .eq => .Eq
  | .ne => .NotEq
  | .isIn => .In
  | .notIn => .NotIn
def rCmpX (K : PySem.W.Frag) (op : COp) : R2 := match op with
  | .lt => fun x y H Q => (rI0 (fun i j => .bl (decide (i < j))) x y H Q ∨ (∃ i j, x = .str i ∧ y = .str j ∧ Q (.bl (decide (i.cps.toList < j.cps.toList))) H)) ∨ rLtT K x y H Q
  | .le => rI0 (fun i j => .bl (decide (i ≤ j)))
  | .gt => rI0 (fun i j => .bl (decide (j < i)))
  | .ge => rI0 (fun i j => .bl (decide (j ≤ i)))
  | .eq => fun x y H Q => rEq x y H Q ∨ rEqD K x y H Q
  | .ne => fun x y H Q => rNe x y H Q ∨ rNeD K x y H Q
  | .isIn => fun x y H Q => ((rIn K false x y H Q ∨ rInD K x y H Q) ∨ (∃ i j, x = .str i ∧ y = .str j ∧ Q (.bl (!(Builtin.Str.occurrences j i 0 j.length 1).isEmpty)) H)) ∨ (∃ a o, y = .ref a ∧ DGet H a x o ∧ Q (.bl o.isSome) H)
  | .notIn => fun x y H Q => ((rIn K true x y H Q ∨ rNotInD K x y H Q) ∨ (∃ i j, x = .str i ∧ y = .str j ∧ Q (.bl (!(!(Builtin.Str.occurrences j i 0 j.length 1).isEmpty))) H)) ∨ (∃ a o, y = .ref a ∧ DGet H a x o ∧ Q (.bl (!o.isSome)) H)
theorem op_dIn (hu : X.A.units + 1 < cLine) : OpR X (compareOp .In) (fun x y H Q => ∃ a o, y = .ref a ∧ DGet H a x o ∧ Q (.bl o.isSome) H) := by
  intro pins s σ H x y v u Q I rx ry h
  obtain ⟨a, o, rfl, d, q⟩ := h
  cases ry
  exact d_in hu I d rx fun s' I' => ⟨.bl _, H, I', rfl, q⟩
theorem op_dNotIn (hu : X.A.units + 1 < cLine) : OpR X (compareOp .NotIn) (fun x y H Q => ∃ a o, y = .ref a ∧ DGet H a x o ∧ Q (.bl (!o.isSome)) H) := by
  intro pins s σ H x y v u Q I rx ry h
  obtain ⟨a, o, rfl, d, q⟩ := h
  cases ry
  exact d_notIn hu I d rx fun s' I' => ⟨.bl _, H, I', rfl, q⟩
theorem op_cmpX (hu : X.A.units + 65 < cLine) : ∀ op, OpR X (compareOp (kopOf op)) (rCmpX X.K op)
  | .lt => (op_lt.or op_lt_str).or (op_ltT (by omega))
  | .le => op_le
  | .gt => op_gt
  | .ge => op_ge
  | .eq => op_eq.or (op_eqD (by omega))
  | .ne => op_ne.or (op_neD (by omega))
  | .isIn => ((op_in_seq.or (op_inD hu)).or op_in_str).or (op_dIn (by omega))
  | .notIn => ((op_notIn_seq.or (op_notInD hu)).or op_notIn_str).or (op_dNotIn (by omega))
theorem intsV : ∀ {vs : List Val} {xs : List L2.V} {F : AS} {H : Hp}, allInts vs = true → Rps c F H vs xs → ∃ ns : List Int, xs = ns.map V.int ∧ vs = ns.map Val.int
  | [], xs, F, H, _, r => by simp only [Rps] at r; subst r; exact ⟨[], rfl, rfl⟩
  | v :: vs, xs, F, H, h, r => by
    simp only [Rps] at r
    obtain ⟨x, r', rfl, q1, q2⟩ := r
    cases v <;> simp only [allInts] at h <;> first | (cases h; done) | skip
    rename_i i
    obtain ⟨ns, e1, e2⟩ := intsV h q2
    simp only [Rp] at q1
    exact ⟨i :: ns, by rw [q1, e1]; rfl, by rw [e2]; rfl⟩
theorem lexInts_eq : ∀ (ns ms : List Int), lexInts (ns.map Val.int) (ms.map Val.int) = some (HT.lexLt ns ms)
  | [], [] => by rw [HT.lexLt_nil_nil]; rfl
  | [], _ :: _ => by rw [HT.lexLt_nil_cons]; rfl
  | _ :: _, [] => by rw [HT.lexLt_cons_nil]; rfl
  | a :: as, b :: bs => by
    rw [HT.lexLt_cons]
    show (if a = b then lexInts (as.map Val.int) (bs.map Val.int) else some (decide (a < b))) = _
    rw [lexInts_eq as bs]
    split <;> rfl
theorem scal_of {F : AS} {H : Hp} {v w : Val} {x y : L2.V} (ox : RpO c F H v x) (oy : RpO c F H w y) (h : scalP v w = true) : scal x y = true ∧ decide (x = y) = v.eqv w := by
  cases v <;> cases w <;> simp only [scalP] at h <;> first | (cases h; done) | skip
  · rw [ox.non, oy.non]; exact ⟨rfl, rfl⟩
  · rw [ox.non, oy.bl]; exact ⟨rfl, by simp [Val.eqv]⟩
  · rw [ox.non, oy.int]; exact ⟨rfl, by simp [Val.eqv]⟩
  · rw [ox.non, oy.str]; exact ⟨rfl, by simp [Val.eqv]⟩
  · rw [ox.bl, oy.non]; exact ⟨rfl, by simp [Val.eqv]⟩
  · rw [ox.bl, oy.bl]; exact ⟨rfl, by rw [dec_bl]; simp [Val.eqv]⟩
  · rw [ox.bl, oy.str]; exact ⟨rfl, by simp [Val.eqv]⟩
  · rw [ox.int, oy.non]; exact ⟨rfl, by simp [Val.eqv]⟩
  · rw [ox.int, oy.int]; exact ⟨rfl, by rw [dec_int]; simp [Val.eqv]⟩
  · rw [ox.int, oy.str]; exact ⟨rfl, by simp [Val.eqv]⟩
  · rw [ox.str, oy.non]; exact ⟨rfl, by simp [Val.eqv]⟩
  · rw [ox.str, oy.bl]; exact ⟨rfl, by simp [Val.eqv]⟩
  · rw [ox.str, oy.int]; exact ⟨rfl, by simp [Val.eqv]⟩
  · rw [ox.str, oy.str]; exact ⟨rfl, by rw [dec_str]; simp [Val.eqv]⟩
theorem flat_of {F : AS} {H : Hp} {v : Val} {x : L2.V} (r : RpO c F H v x) (h : flat0 v = true) : flatV x = true := by
  cases v <;> simp only [flat0] at h <;> first | (cases h; done) | skip
  · rw [r.non]; rfl
  · rw [r.bl]; rfl
  · rw [r.int]; rfl
  · rw [r.str]; rfl
theorem eqV_of {F : AS} {H : Hp} {v w : Val} {x y : L2.V} (r : RpO c F H v x) (r' : RpO c F H w y) (h : flat0 v = true) (h' : flat0 w = true) : eqV x y = v.eqv w := by
  cases v <;> simp only [flat0] at h <;> first | (cases h; done) | skip
  · rw [r.non]; cases w <;> simp only [flat0] at h' <;> first | (cases h'; done) | skip
    · rw [r'.non]; simp [eqV, Val.eqv]
    · rw [r'.bl]; simp [eqV, Val.eqv]
    · rw [r'.int]; simp [eqV, Val.eqv]
    · rw [r'.str]; simp [eqV, Val.eqv]
  · rw [r.bl]; cases w <;> simp only [flat0] at h' <;> first | (cases h'; done) | skip
    · rw [r'.non]; simp [eqV, Val.eqv]
    · rw [r'.bl]; simp [eqV, Val.eqv]
    · rw [r'.int]; simp [eqV, Val.eqv]
    · rw [r'.str]; simp [eqV, Val.eqv]
  · rw [r.int]; cases w <;> simp only [flat0] at h' <;> first | (cases h'; done) | skip
    · rw [r'.non]; simp [eqV, Val.eqv]
    · rw [r'.bl]; simp [eqV, Val.eqv]
    · rw [r'.int]; simp [eqV, Val.eqv]
    · rw [r'.str]; simp [eqV, Val.eqv]
  · rw [r.str]; cases w <;> simp only [flat0] at h' <;> first | (cases h'; done) | skip
    · rw [r'.non]; simp [eqV, Val.eqv]
    · rw [r'.bl]; simp [eqV, Val.eqv]
    · rw [r'.int]; simp [eqV, Val.eqv]
    · rw [r'.str]; simp [eqV, Val.eqv]
theorem flats_of {F : AS} {H : Hp} {v : Val} {x : L2.V} (rv : RpO c F H v x) (hv : flat0 v = true) : ∀ {vs : List Val} {xs : List L2.V}, Rps c F H vs xs → flats0 vs = true → xs.all flatV = true ∧ inV x xs = anyEq v vs
  | [], xs, r, _ => by simp only [Rps] at r; subst r; exact ⟨rfl, rfl⟩
  | w :: vs, xs, r, h => by
    simp only [Rps] at r
    obtain ⟨y, r', rfl, q1, q2⟩ := r
    simp only [flats0, Bool.and_eq_true] at h
    obtain ⟨i1, i2⟩ := flats_of rv hv q2 h.2
    refine ⟨by rw [List.all_cons, flat_of (.of q1) h.1, i1]; rfl, ?_⟩
    show (eqV y x || inV x r') = (w.eqv v || anyEq v vs)
    rw [i2, eqV_of (.of q1) rv h.1 hv]
theorem anyD {v : Val} (hv : v.isD DEP = true) : ∀ {vs : List Val}, areD DEP vs = true → ((toDs vs).any fun z => PyData.eqv z (toD v)) = anyEq v vs
  | [], _ => by simp only [toDs, anyEq, List.any_nil]
  | w :: vs, h => by
    simp only [areD, Bool.and_eq_true] at h
    simp only [toDs, anyEq, List.any_cons]
    rw [anyD hv h.2, eqv_toD DEP DEP w v h.1 hv]
theorem shaped_list {vs : List Val} (h : areD DEP vs = true) : SeqAt.shaped (.list (toDs vs)) = true := by
  have := lays_toD DEP vs h
  unfold SeqAt.shaped
  simp only [PyData.canLay0, PyData.depth]
  rw [this.1, Bool.true_and]
  exact decide_eq_true (by have := this.2; simp only [DEP] at this; omega)
theorem keyV_kV {F : AS} {H : Hp} {v : Val} {x : L2.V} {k : Key} (r : RpO c F H v x) (e : keyV v = some k) : x = kV k := by
  cases v <;> simp only [keyV] at e <;> first | (cases e; done) | skip
  · cases e; rw [r.int]; rfl
  · cases e; rw [r.str]; rfl
theorem keyV_eqv {v w : Val} {k j : Key} (e : keyV v = some k) (e' : keyV w = some j) : v.eqv w = decide (k = j) := by
  cases v <;> simp only [keyV] at e <;> first | (cases e; done) | skip
  · cases e
    cases w <;> simp only [keyV] at e' <;> first | (cases e'; done) | skip
    · cases e'; rw [key_ll]; simp [Val.eqv]
    · cases e'; rw [key_lr]; simp [Val.eqv]
  · cases e
    cases w <;> simp only [keyV] at e' <;> first | (cases e'; done) | skip
    · cases e'; rw [key_rl]; simp [Val.eqv]
    · rename_i s1 s2; cases e'; rw [key_rr]; simp only [Val.eqv]; by_cases h : s1 = s2 <;> simp [h]
/-- a look-up in both -/
theorem RpK.look {F : AS} {H : Hp} {k : Val} {kk : Key} (ek : keyV k = some kk) : ∀ {kvs : List (Val × Val)} {kx : List (Key × L2.V)}, RpK c F H kvs kx →
    (∀ v, lookD kvs k = some v → ∃ x, valV kx kk = some x ∧ Rp c F H v x) ∧ (lookD kvs k = none → valV kx kk = none)
  | [], kx, r => by simp only [RpK] at r; subst r; exact ⟨fun v e => by simp [lookD] at e, fun _ => valV_nil⟩
  | (j, u) :: kvs, kx, r => by
    simp only [RpK] at r
    obtain ⟨jj, x, r', rfl, ej, q1, q2⟩ := r
    have ih := RpK.look ek q2
    have e := keyV_eqv ej ek
    by_cases h : jj = kk
    · rw [decide_eq_true h] at e
      refine ⟨fun v e' => ?_, fun e' => ?_⟩
      · simp only [lookD, e, if_true, Option.some.injEq] at e'
        subst e'
        exact ⟨x, valV_pos h, q1⟩
      · simp only [lookD, e, if_true] at e'; cases e'
    · rw [decide_eq_false h] at e
      rw [valV_neg h]
      simp only [lookD, e, Bool.false_eq_true, if_false]
      exact ih
theorem isKey0_keyV {v : Val} (h : isKey0 v = true) : ∃ k, keyV v = some k := by
  cases v <;> simp only [isKey0] at h <;> first | (cases h; done) | exact ⟨_, rfl⟩
end
end PL
/-! PC5: comparisons' rules; is; type; items; slices. -/
namespace PL
open PySem PySem.Spec PyProof.Rows L2
section
variable {c : Cfg} {g : Ctx} {W : WX} {X : Cx} {pos : Pos}
theorem valEq_end {F : AS} {H : Hp} {v w : Val} {x y : L2.V} {k : Bool} (ox : RpO c F H v x) (oy : RpO c F H w y) (e : valEq v w = some k) :
    (scal x y = true ∧ decide (x = y) = k) ∨ (∃ d d', Dp c.K H x d ∧ Dp c.K H y d' ∧ SeqAt.shaped d = true ∧ SeqAt.shaped d' = true ∧ PyData.eqv d d' = k) := by
  unfold valEq at e
  split at e
  · rename_i h
    cases e
    exact .inl (scal_of ox oy h)
  · split at e
    · rename_i h
      cases e
      rw [Bool.and_eq_true] at h
      exact .inr ⟨toD v, toD w, dpo_of h.1 ox, dpo_of h.2 oy, shaped_toD h.1, shaped_toD h.2, eqv_toD DEP DEP v w h.1 h.2⟩
    · cases e
theorem inL_end {F : AS} {H : Hp} {v : Val} {vs : List Val} {x y : L2.V} {k : Bool} (ox : RpO c F H v x) (oy : RpO c F H (.lst vs) y) (e : inL v vs = some k) :
    (∃ p xs, y = .ref p ∧ (SqL c.K H p xs ∨ SqT c.K H p xs) ∧ flatV x = true ∧ xs.all flatV = true ∧ inV x xs = k) ∨ (∃ d ds, Dp c.K H x d ∧ Dp c.K H y (.list ds) ∧ SeqAt.shaped d = true ∧ SeqAt.shaped (.list ds) = true ∧ (ds.any fun z => PyData.eqv z d) = k) := by
  obtain ⟨a, xs, rfl, q, r⟩ := oy.lst
  unfold inL at e
  split at e
  · rename_i h
    cases e
    rw [Bool.and_eq_true] at h
    obtain ⟨e1, e2⟩ := flats_of ox h.1 r h.2
    exact .inl ⟨a, xs, rfl, .inl (.inl q), flat_of ox h.1, e1, e2⟩
  · split at e
    · rename_i h
      cases e
      rw [Bool.and_eq_true] at h
      exact .inr ⟨toD v, toDs vs, dpo_of h.1 ox, .lst (.inl q) (dps_of DEP vs xs h.2 r), shaped_toD h.1, shaped_list h.2, anyD h.1 h.2⟩
    · cases e
theorem inT_end {F : AS} {H : Hp} {v : Val} {vs : List Val} {x y : L2.V} {k : Bool} (ox : RpO c F H v x) (oy : RpO c F H (.tup vs) y) (e : inT v vs = some k) :
    ∃ p xs, y = .ref p ∧ (SqL c.K H p xs ∨ SqT c.K H p xs) ∧ flatV x = true ∧ xs.all flatV = true ∧ inV x xs = k := by
  obtain ⟨a, xs, rfl, q, r⟩ := oy.tup
  unfold inT at e
  split at e
  · rename_i h
    cases e
    rw [Bool.and_eq_true] at h
    obtain ⟨e1, e2⟩ := flats_of ox h.1 r h.2
    exact ⟨a, xs, rfl, .inr q, flat_of ox h.1, e1, e2⟩
  · cases e
theorem dget_of {F : AS} {H : Hp} {v : Val} {kvs : List (Val × Val)} {x y : L2.V} (ox : RpO c F H v x) (oy : RpO c F H (.dct kvs) y) (e : isKey0 v = true) :
    ∃ a o, y = .ref a ∧ DGet H a x o ∧ (∀ u, lookD kvs v = some u → ∃ z, o = some z ∧ Rp c F H u z) ∧ (lookD kvs v = none → o = none) := by
  obtain ⟨a, kx, rfl, q, r⟩ := oy.dct
  obtain ⟨k, ek⟩ := isKey0_keyV e
  obtain ⟨l1, l2⟩ := r.look ek
  exact ⟨a, _, rfl, .inl ⟨kx, k, q, keyV_kV ox ek, rfl⟩, l1, l2⟩
theorem dget_some {F : AS} {H : Hp} {v : Val} {kvs : List (Val × Val)} {x y : L2.V} (ox : RpO c F H v x) (oy : RpO c F H (.dct kvs) y) (e : isKey0 v = true) :
    ∃ a o, y = .ref a ∧ DGet H a x o ∧ o.isSome = (lookD kvs v).isSome := by
  obtain ⟨a, o, e1, d, h1, h2⟩ := dget_of ox oy e
  refine ⟨a, o, e1, d, ?_⟩
  cases l : lookD kvs v with
  | none => rw [h2 l]; rfl
  | some u => obtain ⟨z, ez, _⟩ := h1 u l; rw [ez]; rfl
theorem cmpEnd (op : COp) : CmpEnd c op (rCmpX c.K op) := by
  intro F H v w x y k ox oy e Q q
  cases op with
  | lt =>
    cases v <;> cases w <;> simp only [cmpV] at e <;> first | (cases e; done) | skip
    · cases e; exact .inl (.inl ⟨_, _, ox.int, oy.int, q⟩)
    · cases e; exact .inl (.inr ⟨_, _, ox.str, oy.str, q⟩)
    · split at e
      · rename_i h
        rw [Bool.and_eq_true] at h
        obtain ⟨a, xs, rfl, q1, r1⟩ := ox.tup
        obtain ⟨b, ys, rfl, q2, r2⟩ := oy.tup
        obtain ⟨ns, rfl, rfl⟩ := intsV h.1 r1
        obtain ⟨ms, rfl, rfl⟩ := intsV h.2 r2
        rw [lexInts_eq] at e
        cases e
        exact .inr ⟨a, b, ns, ms, rfl, rfl, q1, q2, q⟩
      · cases e
  | le =>
    cases v <;> cases w <;> simp only [cmpV] at e <;> first | (cases e; done) | skip
    cases e; exact ⟨_, _, ox.int, oy.int, q⟩
  | gt =>
    cases v <;> cases w <;> simp only [cmpV] at e <;> first | (cases e; done) | skip
    cases e; exact ⟨_, _, ox.int, oy.int, q⟩
  | ge =>
    cases v <;> cases w <;> simp only [cmpV] at e <;> first | (cases e; done) | skip
    cases e; exact ⟨_, _, ox.int, oy.int, q⟩
  | eq =>
    simp only [cmpV] at e
    rcases valEq_end ox oy e with ⟨h1, h2⟩ | ⟨d, d', h1, h2, h3, h4, h5⟩
    · exact .inl ⟨h1, by rw [h2]; exact q⟩
    · exact .inr ⟨d, d', h1, h2, h3, h4, by rw [h5]; exact q⟩
  | ne =>
    simp only [cmpV] at e
    cases e1 : valEq v w with
    | none => rw [e1] at e; cases e
    | some j =>
      rw [e1] at e
      simp only [Option.map_some, Option.some.injEq] at e
      subst e
      rcases valEq_end ox oy e1 with ⟨h1, h2⟩ | ⟨d, d', h1, h2, h3, h4, h5⟩
      · exact .inl ⟨h1, by rw [h2]; exact q⟩
      · exact .inr ⟨d, d', h1, h2, h3, h4, by rw [h5]; exact q⟩
  | isIn =>
    cases w <;> simp only [cmpV] at e <;> first | (cases e; done) | skip
    · cases v <;> simp only at e <;> first | (cases e; done) | skip
      cases e
      exact .inl (.inr ⟨_, _, ox.str, oy.str, q⟩)
    · obtain ⟨p, xs, e1, h1, h2, h3, h4⟩ := inT_end ox oy e
      exact .inl (.inl (.inl ⟨p, xs, e1, h1, h2, h3, by rw [h4]; exact q⟩))
    · rcases inL_end ox oy e with ⟨p, xs, e1, h1, h2, h3, h4⟩ | ⟨d, ds, h1, h2, h3, h4, h5⟩
      · exact .inl (.inl (.inl ⟨p, xs, e1, h1, h2, h3, by rw [h4]; exact q⟩))
      · exact .inl (.inl (.inr ⟨d, ds, h1, h2, h3, h4, by rw [h5]; exact q⟩))
    · split at e
      · rename_i h
        cases e
        obtain ⟨a, o, e1, d, h1⟩ := dget_some ox oy h
        exact .inr ⟨a, o, e1, d, by rw [h1]; exact q⟩
      · cases e
  | notIn =>
    cases w <;> simp only [cmpV] at e <;> first | (cases e; done) | skip
    · cases v <;> simp only at e <;> first | (cases e; done) | skip
      cases e
      exact .inl (.inr ⟨_, _, ox.str, oy.str, q⟩)
    · rename_i vs
      cases e1 : inT v vs with
      | none => rw [e1] at e; cases e
      | some j =>
        rw [e1] at e
        simp only [Option.map_some, Option.some.injEq] at e
        subst e
        obtain ⟨p, xs, e1, h1, h2, h3, h4⟩ := inT_end ox oy e1
        exact .inl (.inl (.inl ⟨p, xs, e1, h1, h2, h3, by rw [h4]; exact q⟩))
    · rename_i vs
      cases e1 : inL v vs with
      | none => rw [e1] at e; cases e
      | some j =>
        rw [e1] at e
        simp only [Option.map_some, Option.some.injEq] at e
        subst e
        rcases inL_end ox oy e1 with ⟨p, xs, e1, h1, h2, h3, h4⟩ | ⟨d, ds, h1, h2, h3, h4, h5⟩
        · exact .inl (.inl (.inl ⟨p, xs, e1, h1, h2, h3, by rw [h4]; exact q⟩))
        · exact .inl (.inl (.inr ⟨d, ds, h1, h2, h3, h4, by rw [h5]; exact q⟩))
    · split at e
      · rename_i h
        cases e
        obtain ⟨a, o, e1, d, h1⟩ := dget_some ox oy h
        exact .inr ⟨a, o, e1, d, by rw [h1]; exact q⟩
      · cases e
theorem ev_cmpX {a b : E} {ea eb : Expr} (op : COp) (hK : X.K = c.K) (hu : X.A.units + 65 < cLine) (ha : PE X ea (tPre c g W a)) (hb : PE X eb (tPre c g W b)) (hm : behindInMarks (kopOf op) eb = false) :
    PE X (.Compare ea [kopOf op] [eb] pos) (tEv c g W (.cmp op a b)) := ev_cmp (op_cmpX hu op) ha hb hm (by rw [hK]; exact cmpEnd op)
theorem tst_cmpX {a b : E} {ea eb : Expr} (op : COp) (hK : X.K = c.K) (hu : X.A.units + 65 < cLine) (ha : PE X ea (tPre c g W a)) (hb : PE X eb (tPre c g W b)) (hm : behindInMarks (kopOf op) eb = false) :
    PT X (.Compare ea [kopOf op] [eb] pos) (tTst c g W (.cmp op a b)) := tst_cmpE (op_cmpX hu op) ha hb hm (by rw [hK]; exact cmpEnd op)
/-! ### chains -/
theorem cmp2_imp {a b d : E} {op op' : COp} {r r' : R2} (h : CmpEnd c op r) (h2 : CmpEnd c op' r') (V : VS) (H : Hp) (Q : VK) (q : tEv c g W (.cmp2 op op' a b d) V H Q) : tChain r r' (tPre c g W a) (tPre c g W b) (tPre c g W d) V H Q := by
  obtain ⟨σ, F, Ls, s, q⟩ := q
  simp only [E.ev] at q
  refine two_pre s q fun p q σ1 σ2 x y F' Ls' H' s' rx ry h' => ?_
  dsimp only at h'
  split at h'
  · rename_i v w e
    obtain ⟨ox, oy, _⟩ := fill2 s' rx ry e
    split at h'
    · rename_i ek
      exact h F' H' v w x y false ox oy ek _ ⟨false, rfl, iteF (h'.fin s' (by simp only [Rp]))⟩
    · rename_i ek
      refine h F' H' v w x y true ox oy ek _ ⟨true, rfl, iteT (one_preT s' h' fun r σ3 z F3 Ls3 H3 s3 t3 rz h3 => ?_)⟩
      dsimp only at h3
      split at h3
      · rename_i v2 w2 e2
        obtain ⟨oy2, oz, _⟩ := fill2 s3 (RelPre.mono ry t3.mono (s'.tr_sb t3)) rz e2
        split at h3
        · rename_i k2 ek2
          exact h2 F3 H3 v2 w2 y z k2 oy2 oz ek2 _ (h3.fin s3 (by simp only [Rp]))
        · exact h3.elim
      · exact h3.elim
    · exact h'.elim
  · exact h'.elim
theorem ev_cmp2X {a b d : E} {ea eb ed : Expr} (op op' : COp) (hK : X.K = c.K) (hu : X.A.units + 65 < cLine) (ha : PE X ea (tPre c g W a)) (hb : PE X eb (tPre c g W b)) (hd : PE X ed (tPre c g W d)) (hm : lastMarks [kopOf op, kopOf op'] [eb, ed] = false) :
    PE X (.Compare ea [kopOf op, kopOf op'] [eb, ed] pos) (tEv c g W (.cmp2 op op' a b d)) := (pe_chain (op_cmpX hu op) (op_cmpX hu op') ha hb hd hm).imp (by rw [hK]; exact cmp2_imp (cmpEnd op) (cmpEnd op'))
theorem R.bind_ok {α β : Type} {r : R α} {f : α → R β} {b : β} (e : r.bind f = .ok b) : ∃ a, r = .ok a ∧ f a = .ok b := by
  cases r with
  | ok a => exact ⟨a, rfl, e⟩
  | exc _ _ => cases e
  | stuck => cases e
theorem cmp2_bl {a b d : E} {op op' : COp} : ∀ σ s σ', (E.cmp2 op op' a b d).ev g σ = .ok (s, σ') → ∃ k, s = .v (.bl k) := by
  intro σ s σ' e
  simp only [E.ev] at e
  obtain ⟨⟨p, σ1⟩, _, e⟩ := R.bind_ok e
  obtain ⟨⟨q, σ2⟩, _, e⟩ := R.bind_ok e
  dsimp only at e
  split at e
  · split at e
    · cases e; exact ⟨_, rfl⟩
    · obtain ⟨⟨r, σ3⟩, _, e⟩ := R.bind_ok e
      dsimp only at e
      split at e
      · split at e
        · cases e; exact ⟨_, rfl⟩
        · cases e
      · cases e
    · cases e
  · cases e
theorem tst_cmp2X {a b d : E} {ea eb ed : Expr} (op op' : COp) (hK : X.K = c.K) (hu : X.A.units + 65 < cLine) (ha : PE X ea (tPre c g W a)) (hb : PE X eb (tPre c g W b)) (hd : PE X ed (tPre c g W d)) (hm : lastMarks [kopOf op, kopOf op'] [eb, ed] = false) :
    PT X (.Compare ea [kopOf op, kopOf op'] [eb, ed] pos) (tTst c g W (.cmp2 op op' a b d)) :=
  tst_cmp (pt_chain (op_cmpX hu op) (op_cmpX hu op') ha hb hd hm) rfl rfl (by rw [hK]; exact cmp2_imp (cmpEnd op) (cmpEnd op')) cmp2_bl

/-! ### is -/
def isNonV : Val → Bool
  | .non => true
  | _ => false
theorem non_iff {F : AS} {H : Hp} {v : Val} {x : L2.V} (o : RpO c F H v x) : decide (x = .non) = isNonV v := by
  cases v with
  | non => rw [o.non]; rfl
  | bl b => rw [o.bl]; rfl
  | int b => rw [o.int]; rfl
  | str b => rw [o.str]; rfl
  | tup vs => obtain ⟨a, xs, rfl, _⟩ := o.tup; rfl
  | lst vs => obtain ⟨a, xs, rfl, _⟩ := o.lst; rfl
  | dct vs => obtain ⟨a, xs, rfl, _⟩ := o.dct; rfl
  | ins k fs => obtain ⟨a, xs, _, rfl, _⟩ := o.ins; rfl
theorem isN_imp {a : E} {n : Bool} (V : VS) (H : Hp) (Q : VK) (q : tEv c g W (.isN n a) V H Q) : tPre c g W a V H fun x H1 => Q (.bl ((decide (x = .non)) != n)) H1 := by
  obtain ⟨σ, F, Ls, s, q⟩ := q
  simp only [E.ev] at q
  refine one_pre s q fun p σ1 x F' Ls' H' s' rx h' => ?_
  dsimp only at h'
  split at h'
  · rename_i e
    obtain ⟨ox, _⟩ := fill1 s' rx e
    rw [non_iff ox]
    have e1 : (true != n) = !n := by cases n <;> rfl
    show Q (.bl (true != n)) H'
    rw [e1]
    exact h'.fin s' (by simp only [Rp])
  · rename_i v hn e
    obtain ⟨ox, _⟩ := fill1 s' rx e
    rw [non_iff ox]
    have e2 : isNonV v = false := by
      cases v <;> first | rfl | exact absurd rfl hn
    rw [e2]
    have e1 : (false != n) = n := by cases n <;> rfl
    rw [e1]
    exact h'.fin s' (by simp only [Rp])
  · exact h'.elim
theorem isN_bl {a : E} {n : Bool} : ∀ σ s σ', (E.isN n a).ev g σ = .ok (s, σ') → ∃ k, s = .v (.bl k) := by
  intro σ s σ' e
  simp only [E.ev] at e
  obtain ⟨⟨p, σ1⟩, _, e⟩ := R.bind_ok e
  dsimp only at e
  split at e
  · cases e; exact ⟨_, rfl⟩
  · cases e; exact ⟨_, rfl⟩
  · cases e
theorem ev_isN {a : E} {ea : Expr} {j : Nat} {p' : Pos} (n : Bool) (ha : PE X ea (tPre c g W a)) : PE X (.Compare ea [if n then .IsNot else .Is] [.Constant .none j p'] pos) (tEv c g W (.isN n a)) := by
  cases n with
  | true =>
    exact (pe_cmp (pc_notN ha)).imp fun V H Q q => by
      obtain ⟨σ, F, Ls, s, r⟩ := isN_imp V H Q q
      refine ⟨σ, F, Ls, s, ?_⟩
      have e : ∀ b : Bool, (b != true) = !b := fun b => by cases b <;> rfl
      simpa only [e] using r
  | false =>
    exact (pe_cmp (pc_isN ha)).imp fun V H Q q => by
      obtain ⟨σ, F, Ls, s, r⟩ := isN_imp V H Q q
      refine ⟨σ, F, Ls, s, ?_⟩
      have e : ∀ b : Bool, (b != false) = b := fun b => by cases b <;> rfl
      simpa only [e] using r
theorem tst_isN {a : E} {ea : Expr} {j : Nat} {p' : Pos} (n : Bool) (ha : PE X ea (tPre c g W a)) : PT X (.Compare ea [if n then .IsNot else .Is] [.Constant .none j p'] pos) (tTst c g W (.isN n a)) := by
  cases n with
  | true =>
    exact tst_cmp (t := tNotN (tPre c g W a)) (pt_cmp (pc_notN ha)) rfl rfl (fun V H Q q => by
      obtain ⟨σ, F, Ls, s, r⟩ := isN_imp V H Q q
      refine ⟨σ, F, Ls, s, ?_⟩
      have e : ∀ b : Bool, (b != true) = !b := fun b => by cases b <;> rfl
      simpa only [e] using r) isN_bl
  | false =>
    exact tst_cmp (t := tIsN (tPre c g W a)) (pt_cmp (pc_isN ha)) rfl rfl (fun V H Q q => by
      obtain ⟨σ, F, Ls, s, r⟩ := isN_imp V H Q q
      refine ⟨σ, F, Ls, s, ?_⟩
      have e : ∀ b : Bool, (b != false) = b := fun b => by cases b <;> rfl
      simpa only [e] using r) isN_bl
end
end PL
/-! PC6: types, displays, items, built-in functions. -/
namespace PL
open PySem PySem.Spec PyProof.Rows L2
section
variable {c : Cfg} {g : Ctx} {W : WX} {X : Cx} {pos : Pos}
/-! ### small facts of the text -/
def notStar : Expr → Bool
  | .Starred _ _ => false
  | _ => true
theorem star_cons {e : Expr} {es : List Expr} {env : PySem.Env} (h : notStar e = true) : starEach (e :: es) env = (false, eval e env) :: starEach es env := by
  cases e <;> first | (cases h; done) | (unfold starEach; rfl) | (simp only [starEach])
theorem star_plain {env : PySem.Env} {pos : Pos} : ∀ {es : List Expr}, es.all notStar = true → (backTo pos (starEach es env)).any (·.1) = false
  | [], _ => by simp [starEach, backTo]
  | e :: es, h => by
    simp only [List.all_cons, Bool.and_eq_true] at h
    have ih := star_plain (env := env) (pos := pos) h.2
    rw [star_cons h.1]
    simp only [backTo, List.map_cons, List.any_cons] at ih ⊢
    simpa using ih
/-- the names of the types that tests ask for -/
def tyNames : List String := ["int", "bool", "str", "list", "tuple", "dict"]
theorem ty_boot {t : String} (h : tyNames.contains t = true) : bootBuiltins (Str.ofString t) = some (.type t) ∧ Str.ofString t ≠ ("__name__" : Str) ∧ (Str.ofString t == ("__debug__" : Str)) = false := by
  have : ∀ t ∈ tyNames, bootBuiltins (Str.ofString t) = some (.type t) ∧ Str.ofString t ≠ ("__name__" : Str) ∧ (Str.ofString t == ("__debug__" : Str)) = false := by decide +kernel
  exact this t (by simpa using h)
theorem ty_kit {t : String} (h : tyNames.contains t = true) {n : String} (hn : (["NoneType", "bool", "int", "str", "tuple", "list", "dict"] : List String).contains n = true) : kitB n t = some (n == t || (t == "int" && n == "bool")) := by
  have : ∀ t ∈ tyNames, ∀ n ∈ (["NoneType", "bool", "int", "str", "tuple", "list", "dict"] : List String), kitB n t = some (n == t || (t == "int" && n == "bool")) := by decide +kernel
  exact this t (by simpa using h) n (by simpa using hn)
theorem tyName_in {v : Val} (h : isiKn v = true) : (["NoneType", "bool", "int", "str", "tuple", "list", "dict"] : List String).contains (tyName v) = true := by
  cases v <;> first | (cases h; done) | exact by decide +kernel | (simp only [tyName]; decide)
theorem tyX_of {F : AS} {H : Hp} {v : Val} {x : L2.V} (r : RpO c F H v x) (h : isiKn v = true) : TyX c.K H x (.type (tyName v)) := by
  cases v with
  | non => rw [r.non]; exact .base .non
  | bl b => rw [r.bl]; exact .base (.bl b)
  | int i => rw [r.int]; exact .base (.int i)
  | str s => rw [r.str]; exact .base (.str s)
  | tup vs =>
    obtain ⟨a, xs, rfl, q, _⟩ := r.tup
    rcases q with (q | ⟨o, q⟩) | ⟨o, its, n, l, e, _⟩
    · exact .base (.tup q)
    · exact .fTuple q
    · exact .kTuple l e
  | lst vs =>
    obtain ⟨a, xs, rfl, q, _⟩ := r.lst
    rcases q with q | ⟨o, q⟩
    · exact .base (.lst q)
    · exact .base (.frz q)
  | dct vs =>
    obtain ⟨a, xs, rfl, q, _⟩ := r.dct
    rcases q with q | ⟨o, q⟩
    · exact .base (.dK q)
    · exact .fDict q
  | ins k fs => cases h
theorem tyB_of {F : AS} {H : Hp} {v : Val} {x : L2.V} (r : RpO c F H v x) (h : tyKn v = true) : TyB c.K H x (tyName v) := by
  cases v with
  | non => rw [r.non]; exact .non
  | bl b => rw [r.bl]; exact .bl b
  | int i => rw [r.int]; exact .int i
  | str s => rw [r.str]; exact .str s
  | tup vs =>
    obtain ⟨a, xs, rfl, q, _⟩ := r.tup
    exact .tup q
  | lst vs =>
    obtain ⟨a, xs, rfl, q, _⟩ := r.lst
    exact .lst (.inl q)
  | dct vs => cases h
  | ins k fs => cases h
/-- one operand, a value -/
theorem one_val {a e : E} {f : Val → Env → R (Slot × Env)} {V : VS} {H : Hp} {Q : VK} {R' : L2.V → Hp → Prop} (h : tEv c g W e V H Q)
    (he : ∀ σ, e.ev g σ = (a.pre g σ).bind fun p => (match fillP p.2 [p.1] with
      | some [v] => f v p.2
      | _ => .stuck))
    (k : ∀ v σ1 x F' Ls' H', St c F' Ls' H' σ1 V → RpO c F' H' v x → RWe c W V F' (Own Ls') H' (f v σ1) Q → R' x H') : tPre c g W a V H R' := by
  obtain ⟨σ, F, Ls, s, q⟩ := h
  rw [he] at q
  refine one_pre s q fun p σ1 x F' Ls' H' s' rx h' => ?_
  try dsimp only at h'
  split at h'
  · rename_i v e
    obtain ⟨ox, _⟩ := fill1 s' rx e
    exact k v σ1 x F' Ls' H' s' ox h'
  · exact h'.elim
theorem two_val {a b e : E} {f : Val → Val → Env → R (Slot × Env)} {V : VS} {H : Hp} {Q : VK} {R' : L2.V → L2.V → Hp → Prop} (h : tEv c g W e V H Q)
    (he : ∀ σ, e.ev g σ = (a.pre g σ).bind fun p => (b.pre g p.2).bind fun q => (match fillP q.2 [p.1, q.1] with
      | some [v, w] => f v w q.2
      | _ => .stuck))
    (k : ∀ v w σ1 x y F' Ls' H', St c F' Ls' H' σ1 V → RpO c F' H' v x → RpO c F' H' w y → RWe c W V F' (Own Ls') H' (f v w σ1) Q → R' x y H') : tPre c g W a V H fun x H1 => tPre c g W b V H1 fun y H2 => R' x y H2 := by
  obtain ⟨σ, F, Ls, s, q⟩ := h
  rw [he] at q
  refine two_pre s q fun p q σ1 σ2 x y F' Ls' H' s' rx ry h' => ?_
  try dsimp only at h'
  split at h'
  · rename_i v w e
    obtain ⟨ox, oy, _⟩ := fill2 s' rx ry e
    exact k v w σ2 x y F' Ls' H' s' ox oy h'
  · exact h'.elim
/-! ### type(x) is T, isinstance -/
theorem ev_isi {a : E} {ea : Expr} {t : String} {p p2 : Pos} (hK : X.K = c.K) (ht : tyNames.contains t = true) (hg1 : Gl X ("isinstance" : Str)) (hm1 : X.mg ("isinstance" : Str) = none) (hg2 : Gl X (Str.ofString t)) (hm2 : X.mg (Str.ofString t) = none) (hs : notStar ea = true) (ha : PE X ea (tPre c g W a)) :
    PE X (.Call (.Name ("isinstance" : Str) p) [ea, .Name (Str.ofString t) p2] [] pos) (tEv c g W (.isi a t)) := by
  obtain ⟨b1, b2, b3⟩ := ty_boot ht
  refine (pe_callB call_isi hg1 hm1 (by decide +kernel) (pa_cons ha (pa_cons (pe_bltn hg2 hm2 b1 (v := .ty t) rfl b2 b3) pa_nil (star_cons rfl)) (star_cons hs)) (he := star_cons hs) (hpl := star_plain rfl)).imp fun V H Q h => ?_
  refine one_val (a := a) (f := fun v σ1 => if isiKn v then .ok (.v (.bl (isiV v t)), σ1) else .stuck) h (fun σ => by simp only [E.ev]; all_goals rfl) fun v σ1 x F' Ls' H' s' ox h' => ?_
  try dsimp only at h'
  split at h'
  · rename_i hk
    exact ⟨x, .ty t, _, _, _, rfl, .ty t, by rw [hK]; exact tyX_of ox hk, kit_ty (ty_kit ht (tyName_in hk)), h'.fin s' (by simp only [Rp]; rfl)⟩
  · exact h'.elim
theorem isi_bl {a : E} {t : String} : ∀ σ s σ', (E.isi a t).ev g σ = .ok (s, σ') → ∃ k, s = .v (.bl k) := by
  intro σ s σ' e
  simp only [E.ev] at e
  obtain ⟨⟨p, σ1⟩, _, e⟩ := R.bind_ok e
  dsimp only at e
  split at e
  · split at e
    · cases e; exact ⟨_, rfl⟩
    · cases e
  · cases e
theorem tyIs_imp {a : E} {t : String} {n : Bool} (hK : X.K = c.K) (V : VS) (H : Hp) (Q : VK) (h : tEv c g W (.tyIs n t a) V H Q) :
    tCB (rTyp X.K) (tCons (tPre c g W a) tNil) V H fun x H1 => tC (.ty t) V H1 fun y H2 => ∃ p q, x = .ty p ∧ y = .ty q ∧ Q (.bl (decide (p = q) != n)) H2 := by
  refine one_val (a := a) (f := fun v σ1 => if tyKn v then .ok (.v (.bl ((tyName v == t) != n)), σ1) else .stuck) h (fun σ => by simp only [E.ev]; all_goals rfl) fun v σ1 x F' Ls' H' s' ox h' => ?_
  try dsimp only at h'
  split at h'
  · rename_i hk
    refine ⟨x, _, rfl, by rw [hK]; exact tyB_of ox hk, _, _, rfl, rfl, h'.fin s' ?_⟩
    simp only [Rp]
    have : decide (tyName v = t) = (tyName v == t) := by
      by_cases z : tyName v = t
      · rw [decide_eq_true z, z]; simp
      · rw [decide_eq_false z]; simp [z]
    rw [this]
  · exact h'.elim
theorem pe_type {a : E} {ea : Expr} {p pos : Pos} (hg1 : Gl X ("type" : Str)) (hm1 : X.mg ("type" : Str) = none) (hs : notStar ea = true) (ha : PE X ea (tPre c g W a)) : PE X (.Call (.Name ("type" : Str) p) [ea] [] pos) (tCB (rTyp X.K) (tCons (tPre c g W a) tNil)) :=
  pe_callTy call_type1 hg1 hm1 (by decide +kernel) (pa_cons ha pa_nil (star_cons hs)) (he := star_cons hs) (hpl := star_plain rfl)
theorem op_isTyN (n : Bool) : OpR X (compareOp (if n then .IsNot else .Is)) (fun x y H Q => ∃ a b, x = .ty a ∧ y = .ty b ∧ Q (.bl (decide (a = b) != n)) H) := by
  cases n with
  | true =>
    intro pins s σ H x y v u Q I rx ry h
    refine op_notTyB pins s σ H x y v u Q I rx ry ?_
    obtain ⟨a, b, e1, e2, q⟩ := h
    refine ⟨a, b, e1, e2, ?_⟩
    have : (decide (a = b) != true) = !decide (a = b) := by cases decide (a = b) <;> rfl
    rwa [this] at q
  | false =>
    intro pins s σ H x y v u Q I rx ry h
    refine op_isTyB pins s σ H x y v u Q I rx ry ?_
    obtain ⟨a, b, e1, e2, q⟩ := h
    refine ⟨a, b, e1, e2, ?_⟩
    have : (decide (a = b) != false) = decide (a = b) := by cases decide (a = b) <;> rfl
    rwa [this] at q
theorem isOp_mark {n : Bool} {e : Expr} : behindInMarks (if n then .IsNot else .Is) e = false := by
  cases n
  · exact nomark _
  · exact nomark _
theorem ev_tyIs {a : E} {ea : Expr} {t : String} {n : Bool} {p p2 p3 : Pos} (hK : X.K = c.K) (ht : tyNames.contains t = true) (hg1 : Gl X ("type" : Str)) (hm1 : X.mg ("type" : Str) = none) (hg2 : Gl X (Str.ofString t)) (hm2 : X.mg (Str.ofString t) = none) (hs : notStar ea = true) (ha : PE X ea (tPre c g W a)) :
    PE X (.Compare (.Call (.Name ("type" : Str) p) [ea] [] p3) [if n then .IsNot else .Is] [.Name (Str.ofString t) p2] pos) (tEv c g W (.tyIs n t a)) := by
  obtain ⟨b1, b2, b3⟩ := ty_boot ht
  exact (pe_cmpR (op_isTyN n) (pe_type hg1 hm1 hs ha) (pe_bltn hg2 hm2 b1 (v := .ty t) rfl b2 b3) isOp_mark).imp fun V H Q h => tyIs_imp hK V H Q h
theorem tyIs_bl {a : E} {t : String} {n : Bool} : ∀ σ s σ', (E.tyIs n t a).ev g σ = .ok (s, σ') → ∃ k, s = .v (.bl k) := by
  intro σ s σ' e
  simp only [E.ev] at e
  obtain ⟨⟨p, σ1⟩, _, e⟩ := R.bind_ok e
  dsimp only at e
  split at e
  · split at e
    · cases e; exact ⟨_, rfl⟩
    · cases e
  · cases e
theorem tst_tyIs {a : E} {ea : Expr} {t : String} {n : Bool} {p p2 p3 : Pos} (hK : X.K = c.K) (ht : tyNames.contains t = true) (hg1 : Gl X ("type" : Str)) (hm1 : X.mg ("type" : Str) = none) (hg2 : Gl X (Str.ofString t)) (hm2 : X.mg (Str.ofString t) = none) (hs : notStar ea = true) (ha : PE X ea (tPre c g W a)) :
    PT X (.Compare (.Call (.Name ("type" : Str) p) [ea] [] p3) [if n then .IsNot else .Is] [.Name (Str.ofString t) p2] pos) (tTst c g W (.tyIs n t a)) := by
  obtain ⟨b1, b2, b3⟩ := ty_boot ht
  exact tst_cmp (pt_cmpR (op_isTyN n) (pe_type hg1 hm1 hs ha) (pe_bltn hg2 hm2 b1 (v := .ty t) rfl b2 b3) isOp_mark) rfl rfl (fun V H Q h => tyIs_imp hK V H Q h) tyIs_bl
/-! ### is True -/
theorem op_isBN (n : Bool) : OpR X (compareOp (if n then .IsNot else .Is)) (fun x y H Q => ∃ a b : Bool, x = .bl a ∧ y = .bl b ∧ Q (.bl (decide (a = b) != n)) H) := by
  cases n with
  | true =>
    intro pins s σ H x y v u Q I rx ry h
    refine op_notBl pins s σ H x y v u Q I rx ry ?_
    obtain ⟨a, b, e1, e2, q⟩ := h
    refine ⟨a, b, e1, e2, ?_⟩
    have : (decide (a = b) != true) = !decide (a = b) := by cases decide (a = b) <;> rfl
    rwa [this] at q
  | false =>
    intro pins s σ H x y v u Q I rx ry h
    refine op_isBl pins s σ H x y v u Q I rx ry ?_
    obtain ⟨a, b, e1, e2, q⟩ := h
    refine ⟨a, b, e1, e2, ?_⟩
    have : (decide (a = b) != false) = decide (a = b) := by cases decide (a = b) <;> rfl
    rwa [this] at q
theorem isB_imp {a : E} {n b : Bool} (V : VS) (H : Hp) (Q : VK) (h : tEv c g W (.isB n b a) V H Q) :
    tPre c g W a V H fun x H1 => tC (.bl b) V H1 fun y H2 => ∃ p q : Bool, x = .bl p ∧ y = .bl q ∧ Q (.bl (decide (p = q) != n)) H2 := by
  refine one_val (a := a) (f := fun v σ1 => (match v with
    | .bl k => .ok (.v (.bl ((k == b) != n)), σ1)
    | _ => .stuck)) h (fun σ => by
      simp only [E.ev]
      congr 1
      funext p
      cases e : fillP p.2 [p.1] with
      | none => rfl
      | some l => cases l with
        | nil => rfl
        | cons v r => cases r with
          | nil => cases v <;> rfl
          | cons _ _ => cases v <;> rfl) fun v σ1 x F' Ls' H' s' ox h' => ?_
  try dsimp only at h'
  split at h'
  · rename_i k
    refine ⟨k, b, ox.bl, rfl, h'.fin s' ?_⟩
    simp only [Rp]
    cases k <;> cases b <;> rfl
  · exact h'.elim
theorem isB_bl {a : E} {n b : Bool} : ∀ σ s σ', (E.isB n b a).ev g σ = .ok (s, σ') → ∃ k, s = .v (.bl k) := by
  intro σ s σ' e
  simp only [E.ev] at e
  obtain ⟨⟨p, σ1⟩, _, e⟩ := R.bind_ok e
  dsimp only at e
  split at e
  · cases e; exact ⟨_, rfl⟩
  · cases e
theorem ev_isB {a : E} {ea : Expr} {n b : Bool} {j : Nat} {p2 : Pos} (ha : PE X ea (tPre c g W a)) : PE X (.Compare ea [if n then .IsNot else .Is] [.Constant (.bool b) j p2] pos) (tEv c g W (.isB n b a)) :=
  (pe_cmpR (op_isBN n) ha pe_bl isOp_mark).imp isB_imp
theorem tst_isB {a : E} {ea : Expr} {n b : Bool} {j : Nat} {p2 : Pos} (ha : PE X ea (tPre c g W a)) : PT X (.Compare ea [if n then .IsNot else .Is] [.Constant (.bool b) j p2] pos) (tTst c g W (.isB n b a)) :=
  tst_cmp (pt_cmpR (op_isBN n) ha pe_bl isOp_mark) rfl rfl isB_imp isB_bl
/-! ### items -/
def notSlice : Expr → Bool
  | .Slice _ _ _ _ => false
  | _ => true
theorem plainIx {e : Expr} (h : notSlice e = true) : PlainIx e := by
  intro o i
  cases e <;> first | (cases h; done) | rfl
theorem ixOf_atI {α : Type} {xs : List α} {i : Int} {j : Nat} {v : α} (h : ixOf xs.length i = some j) (e : xs[j]? = some v) : atI xs i = some v := by
  have : ixN xs.length i = some j := by
    rw [← h]
    unfold ixOf ixN
    rfl
  unfold atI
  rw [this]
  exact e
def rIxD : R2 := fun x y H Q => ∃ a v, x = .ref a ∧ DGet H a y (some v) ∧ Q v H
theorem ix_dict (hu : X.A.units + 1 < cLine) : IxR X rIxD := by
  intro value slice pins s σ H x y v u Q I rx ry h hs
  obtain ⟨a, z, rfl, g, q⟩ := h
  cases rx
  exact tail_any (dict_typeIs I g) PySem.F.slot_dict_getitem.lookup (d_getItem hu I g ry fun w' s3 I3 rw' => ⟨z, H, I3, rw', q⟩) hs
theorem ix_all (hu : X.A.units + 1 < cLine) : IxR X (fun x y H Q => rIx X.K x y H Q ∨ rIxD x y H Q) := ix_seq.or (ix_dict hu)
theorem ev_ix {a b : E} {ea eb : Expr} (hK : X.K = c.K) (hu : X.A.units + 1 < cLine) (hs : notSlice eb = true) (ha : PE X ea (tPre c g W a)) (hb : PE X eb (tPre c g W b)) : PE X (.Subscript ea eb pos) (tEv c g W (.ix a b)) :=
  (pe_ix (ix_all hu) ha hb (plainIx hs)).imp fun V H Q h => by
    refine two_val (a := a) (b := b) (f := fun x y σ => (match ixV x y with
      | some v => .ok (.v v, σ)
      | none => .stuck)) h (fun σ => by simp only [E.ev]; all_goals rfl) fun v w σ1 x y F' Ls' H' s' ox oy h' => ?_
    try dsimp only at h'
    split at h'
    · rename_i u e
      cases v with
      | lst vs => cases w with
        | int k =>
          simp only [ixV] at e
          obtain ⟨p, xs, rfl, q, r⟩ := ox.lst
          obtain ⟨j, e1, e2⟩ := Option.bind_eq_some_iff.mp e
          obtain ⟨z, e3, rz⟩ := r.get e2
          rw [r.length] at e1
          exact .inl (.inl ⟨p, xs, k, z, rfl, oy.int, .inl q, ixOf_atI e1 e3, h'.fin s' rz⟩)
        | _ => cases e
      | tup vs => cases w with
        | int k =>
          simp only [ixV] at e
          obtain ⟨p, xs, rfl, q, r⟩ := ox.tup
          obtain ⟨j, e1, e2⟩ := Option.bind_eq_some_iff.mp e
          obtain ⟨z, e3, rz⟩ := r.get e2
          rw [r.length] at e1
          exact .inl (.inr (.inl ⟨p, xs, k, z, rfl, oy.int, by rw [hK]; exact q, ixOf_atI e1 e3, h'.fin s' rz⟩))
        | _ => cases e
      | str t => cases w with
        | int k =>
          simp only [ixV] at e
          split at e
          · rename_i hz
            obtain ⟨j, e1, e2⟩ := Option.bind_eq_some_iff.mp e
            obtain ⟨cp, e3, e4⟩ := Option.map_eq_some_iff.mp e2
            subst e4
            refine .inl (.inr (.inr ⟨t, k, cp, ox.str, oy.int, lim_le hz, ixOf_atI (j := j) ?_ ?_, h'.fin s' (by simp only [Rp])⟩))
            · have : t.cps.toList.length = t.length := by simp [Str.length]
              rw [this]; exact e1
            · simpa using e3
          · cases e
        | _ => cases e
      | dct kvs =>
        have e' : (if keyFor kvs w then lookD kvs w else none) = some u := by
          cases w <;> exact e
        split at e'
        · rename_i hk
          obtain ⟨p, o, rfl, d, h1, _⟩ := dget_of oy ox hk
          obtain ⟨z, rfl, rz⟩ := h1 u e'
          exact .inr ⟨p, z, rfl, d, h'.fin s' rz⟩
        · cases e'
      | non => cases w <;> cases e
      | bl _ => cases w <;> cases e
      | int _ => cases w <;> cases e
      | ins _ _ => cases w <;> cases e
    · exact h'.elim
end
end PL
/-! PC7: lists of arguments, displays, built-in functions. -/
namespace PL
open PySem PySem.Spec PyProof.Rows L2
section
variable {c : Cfg} {W : WX} {V : VS}
theorem RW.imp {α : Type} {F O : AS} {H : Hp} {r : R (α × Env)} {k k' : α → Env → AS → (Nat → AS) → Hp → Prop} (h : RW c W V F O H r k)
    (i : ∀ a σ' F' Ls' H', St c F' Ls' H' σ' V → Tr F O H F' (Own Ls') H' → k a σ' F' Ls' H' → k' a σ' F' Ls' H') : RW c W V F O H r k' := by
  cases r with
  | ok p => obtain ⟨a, σ'⟩ := p; exact fun F' Ls' H' s t => i a σ' F' Ls' H' s t (h F' Ls' H' s t)
  | exc e σ' => exact h
  | stuck => exact h
theorem RW.fin {α : Type} {F : AS} {Ls : Nat → AS} {H : Hp} {σ : Env} {a : α} {k : α → Env → AS → (Nat → AS) → Hp → Prop} (h : RW c W V F (Own Ls) H (.ok (a, σ)) k) (s : St c F Ls H σ V) : k a σ F Ls H := h F Ls H s Tr.refl
/-- what stands behind an expression's reading, for a result that goes on -/
theorem RWe.toRW {α : Type} {F O : AS} {H : Hp} {r : R (α × Env)} {f : α × Env → R (Slot × Env)} {Q : VK} (h : RWe c W V F O H (r.bind f) Q) :
    RW c W V F O H r fun a σ' F' Ls' H' => RWe c W V F' (Own Ls') H' (f (a, σ')) Q := h.bind
end
section
variable (c : Cfg) (g : Ctx) (W : WX)
def tEvs (es : Es) : TA := fun V H Q => ∃ σ F Ls, St c F Ls H σ V ∧ RW c W V F (Own Ls) H (es.evs g σ) fun vs σ' F' Ls' H' => ∀ xs, Rps c F' H' vs xs → Q xs H'
def tPrs (es : Es) : TA := fun V H Q => ∃ σ F Ls, St c F Ls H σ V ∧ RW c W V F (Own Ls) H (es.prs g σ) fun ps σ' F' Ls' H' => ∀ xs, RelPres c F' H' V ps xs → Q xs H'
def tAs (as : As) : TA := fun V H Q => ∃ σ F Ls, St c F Ls H σ V ∧ RW c W V F (Own Ls) H (as.pres g σ) fun ps σ' F' Ls' H' => ∀ xs, RelPres c F' H' V (ps.map (·.2)) xs → Q xs H'
end
section
variable {c : Cfg} {g : Ctx} {W : WX} {X : Cx} {pos : Pos}
theorem _root_.L2.PA.imp {X : Cx} {es : List Expr} {t t' : TA} (h : PA X es t) (i : ∀ V H Q, t' V H Q → t V H Q) : PA X es t' := ⟨fun pos pins s σ H Q I q => h.run pos pins s σ H Q I (i σ H Q q)⟩
theorem RelPres.mono {F F' : AS} {H H' : Hp} {V : VS} (hF : ∀ a, F a → F' a) (s : Sb F H H') : ∀ {ps : List Pre} {xs : List L2.V}, RelPres c F H V ps xs → RelPres c F' H' V ps xs
  | [], _, h => h
  | p :: ps, _, h => by
    obtain ⟨x, r, e, q1, q2⟩ := h
    exact ⟨x, r, e, q1.mono hF s, RelPres.mono hF s q2⟩
theorem evs_nil : PA X [] (tEvs c g W .nil) := pa_nil.imp fun V H Q ⟨σ, F, Ls, s, r⟩ => by
  simp only [Es.evs] at r
  exact r.fin s [] Rps.nil
theorem evs_cons {e : E} {es : Es} {ee : Expr} {ees : List Expr} (hs : notStar ee = true) (he : PE X ee (tEv c g W e)) (hes : PA X ees (tEvs c g W es)) : PA X (ee :: ees) (tEvs c g W (.cons e es)) :=
  (pa_cons he hes (star_cons hs)).imp fun V H Q ⟨σ, F, Ls, s, r⟩ => by
    simp only [Es.evs] at r
    refine ⟨σ, F, Ls, s, r.bindS fun t σ' x F1 Ls1 H1 s1 rx h1 => ?_⟩
    refine ⟨σ', F1, Ls1, s1, (RW.bind h1).imp fun vs σ2 F2 Ls2 H2 s2 t2 h2 xs rs => ?_⟩
    exact h2.fin s2 _ (Rps.cons (rx.mono t2.mono (s1.tr_sb t2)) rs)
theorem prs_nil : PA X [] (tPrs c g W .nil) := pa_nil.imp fun V H Q ⟨σ, F, Ls, s, r⟩ => by
  simp only [Es.prs] at r
  exact r.fin s [] rfl
theorem prs_cons {e : E} {es : Es} {ee : Expr} {ees : List Expr} (hs : notStar ee = true) (he : PE X ee (tPre c g W e)) (hes : PA X ees (tPrs c g W es)) : PA X (ee :: ees) (tPrs c g W (.cons e es)) :=
  (pa_cons he hes (star_cons hs)).imp fun V H Q ⟨σ, F, Ls, s, r⟩ => by
    simp only [Es.prs] at r
    refine ⟨σ, F, Ls, s, (RW.bind r).imp fun p σ1 F1 Ls1 H1 s1 t1 h1 x rx => ?_⟩
    refine ⟨σ1, F1, Ls1, s1, (RW.bind h1).imp fun ps σ2 F2 Ls2 H2 s2 t2 h2 xs rs => ?_⟩
    exact h2.fin s2 _ ⟨x, xs, rfl, rx.mono t2.mono (s1.tr_sb t2), rs⟩
theorem as_nil : PA X [] (tAs c g W .nil) := pa_nil.imp fun V H Q ⟨σ, F, Ls, s, r⟩ => by
  simp only [As.pres] at r
  exact r.fin s [] rfl
theorem as_own {e : E} {es : As} {ee : Expr} {ees : List Expr} (hs : notStar ee = true) (he : PE X ee (tEv c g W e)) (hes : PA X ees (tAs c g W es)) : PA X (ee :: ees) (tAs c g W (.cons .own e es)) :=
  (pa_cons he hes (star_cons hs)).imp fun V H Q ⟨σ, F, Ls, s, r⟩ => by
    simp only [As.pres] at r
    refine ⟨σ, F, Ls, s, r.bindS fun t σ' x F1 Ls1 H1 s1 rx h1 => ?_⟩
    refine ⟨σ', F1, Ls1, s1, (RW.bind h1).imp fun ps σ2 F2 Ls2 H2 s2 t2 h2 xs rs => ?_⟩
    exact h2.fin s2 _ ⟨x, xs, rfl, ⟨_, rfl, rx.mono t2.mono (s1.tr_sb t2)⟩, rs⟩
theorem as_lend {e : E} {es : As} {ee : Expr} {ees : List Expr} (hs : notStar ee = true) (he : PE X ee (tPre c g W e)) (hes : PA X ees (tAs c g W es)) : PA X (ee :: ees) (tAs c g W (.cons .lend e es)) :=
  (pa_cons he hes (star_cons hs)).imp fun V H Q ⟨σ, F, Ls, s, r⟩ => by
    simp only [As.pres] at r
    refine ⟨σ, F, Ls, s, (RW.bind r).imp fun p σ1 F1 Ls1 H1 s1 t1 h1 x rx => ?_⟩
    refine ⟨σ1, F1, Ls1, s1, (RW.bind h1).imp fun ps σ2 F2 Ls2 H2 s2 t2 h2 xs rs => ?_⟩
    exact h2.fin s2 _ ⟨x, xs, rfl, rx.mono t2.mono (s1.tr_sb t2), rs⟩
/-- .. lent to be changed: a name -/
theorem as_io {i : Nat} {es : As} {ee : Expr} {ees : List Expr} (hs : notStar ee = true) (he : PE X ee (fun V H Q => ∃ x, V[i]? = some (some x) ∧ Q x H)) (hes : PA X ees (tAs c g W es)) (hx : ∀ V H Q, tAs c g W (.cons .io (.var i) es) V H Q → ∃ x, V[i]? = some (some x)) :
    PA X (ee :: ees) (tAs c g W (.cons .io (.var i) es)) :=
  (pa_cons he hes (star_cons hs)).imp fun V H Q h => by
    obtain ⟨x, ex⟩ := hx V H Q h
    obtain ⟨σ, F, Ls, s, r⟩ := h
    simp only [As.pres] at r
    refine ⟨x, ex, σ, F, Ls, s, (RW.bind r).imp fun ps σ2 F2 Ls2 H2 s2 t2 h2 xs rs => ?_⟩
    exact h2.fin s2 _ ⟨x, xs, rfl, ex, rs⟩

/-! ### displays -/
theorem ev_tup {es : Es} {ees : List Expr} {k : Nat} (h : PA X ees (tEvs c g W es)) : PE X (.Tuple ees k pos) (tEv c g W (.tup es)) :=
  (pe_tup h).imp fun V H Q ⟨σ, F, Ls, s, r⟩ => by
    simp only [E.ev] at r
    refine ⟨σ, F, Ls, s, (RWe.bind r).imp fun vs σ1 F1 Ls1 H1 s1 t1 h1 xs rs => ?_⟩
    dsimp only at h1
    split at h1
    · rename_i hz
      rw [rs.length] at hz
      exact ⟨lim_le hz, fun p hp => h1.finT s1 hp rs⟩
    · exact h1.elim
theorem ev_lst {es : Es} {ees : List Expr} (h : PA X ees (tEvs c g W es)) : PE X (.List ees pos) (tEv c g W (.lst es)) :=
  (pe_lst h).imp fun V H Q ⟨σ, F, Ls, s, r⟩ => by
    simp only [E.ev] at r
    refine ⟨σ, F, Ls, s, (RWe.bind r).imp fun vs σ1 F1 Ls1 H1 s1 t1 h1 xs rs => ?_⟩
    dsimp only at h1
    split at h1
    · rename_i hz
      rw [rs.length] at hz
      exact ⟨lim_le hz, fun p hp => h1.finL s1 hp rs⟩
    · exact h1.elim

/-! ### built-in functions -/
theorem call_lenR : CallR X (.builtin "len") (fun xs H Q => ∃ a kvs, xs = [V.ref a] ∧ Rd H a (.dK kvs) ∧ Q (.int kvs.length) H) := by
  intro pins s σ H xs us Q I r h
  obtain ⟨a, kvs, rfl, ha, q⟩ := h
  obtain ⟨u, rfl, ru⟩ := vals1 r
  cases ru
  exact d_len I ha fun t s' I' => ⟨.int kvs.length, H, I', ⟨t, rfl⟩, q⟩
/-- the rules by the function's name -/
def rBi (K : PySem.W.Frag) (f : String) : List L2.V → Hp → VK → Prop := fun xs H Q => match f with
  | "len" => (∃ x n, xs = [x] ∧ LenV K x H n ∧ Q (.int n) H) ∨ (∃ a kvs, xs = [V.ref a] ∧ Rd H a (.dK kvs) ∧ Q (.int kvs.length) H)
  | "abs" => ∃ i, xs = [.int i] ∧ Q (.int (if i < 0 then -i else i)) H
  | "int" => ((∃ i, xs = [.int i] ∧ Q (.int i) H) ∨ ∃ k, xs = [.bl k] ∧ Q (.int (if k then 1 else 0)) H) ∨ (∃ a n, xs = [.str a] ∧ PySem.intText? a = some n ∧ a.length ≤ 640 ∧ Q (.int n) H)
  | "str" => ∃ i, xs = [.int i] ∧ i.natAbs.log2 < 1920 ∧ Q (.str (toString i)) H
  | "gcd" => rGcd xs H Q
  | "max" => (∃ i j, xs = [.int i, .int j] ∧ Q (.int (if j > i then j else i)) H) ∨ rMax K xs H Q
  | "min" => (∃ i j, xs = [.int i, .int j] ∧ Q (.int (if j < i then j else i)) H) ∨ rMin K xs H Q
  | "sum" => rSum K xs H Q
  | "any" => rAny K xs H Q
  | "all" => rAll K xs H Q
  | "list" => (∃ p ys, xs = [.ref p] ∧ (SqL K H p ys ∨ SqT K H p ys) ∧ ∀ l, H l = none → Q (.ref l) (upd H l (.lst ys))) ∨
      (∃ (a : Addr) (kvs : List (Key × L2.V)), xs = [.ref a] ∧ Rd H a (.dK kvs) ∧ ∀ p, H p = none → Q (.ref p) (upd H p (.lst (kvs.map fun kv => kV kv.1))))
  | "tuple" => ∃ p ys, xs = [.ref p] ∧ ((SqL K H p ys ∧ ∀ l, H l = none → Q (.ref l) (upd H l (.tup ys))) ∨ (SqT K H p ys ∧ Q (.ref p) H))
  | "dict" => ∃ (a : Addr) (kvs : List (Key × L2.V)), xs = [.ref a] ∧ Rd H a (.dK kvs) ∧ ∀ p, H p = none → Q (.ref p) (upd H p (.dK kvs))
  | "sorted" => rSortedI K xs H Q
  | _ => False
def biNames : List String := ["len", "abs", "int", "str", "max", "min", "sum", "any", "all", "list", "tuple", "dict", "sorted"]
def biV_ (f : String) : PySem.Value := if (["int", "str", "list", "tuple", "dict"] : List String).contains f then .type f else .builtin f
theorem bi_boot {f : String} (h : biNames.contains f = true) : bootBuiltins (Str.ofString f) = some (biV_ f) ∧ Str.ofString f ≠ ("__name__" : Str) ∧ (Str.ofString f == ("__debug__" : Str)) = false := by
  have : ∀ t ∈ biNames, bootBuiltins (Str.ofString t) = some (biV_ t) ∧ Str.ofString t ≠ ("__name__" : Str) ∧ (Str.ofString t == ("__debug__" : Str)) = false := by decide +kernel
  exact this f (by simpa using h)
theorem bi_call (hc : X.calm = true) {f : String} (h : biNames.contains f = true) : CallR X (biV_ f) (rBi X.K f) := by
  have : f ∈ biNames := by simpa using h
  unfold biNames at this
  simp only [List.mem_cons, List.mem_nil_iff, or_false] at this
  rcases this with h | h | h | h | h | h | h | h | h | h | h | h | h <;> subst h
  · exact call_len.or call_lenR
  · exact call_abs
  · exact call_int1.or call_int_str
  · exact call_str_int
  · exact (call_max2 hc).or (cr_max hc)
  · exact (call_min2 hc).or (cr_min hc)
  · exact cr_sum hc
  · exact cr_any hc
  · exact cr_all hc
  · exact call_list_of.or (call_listD hc)
  · exact call_tuple_of
  · exact call_dictD
  · exact cr_sortedI
theorem pe_callV {x : Str} {v : PySem.Value} {r : List L2.V → Hp → VK → Prop} {e : Expr} {es : List Expr} {t : TA} {p : Pos} (hv2 : (∃ id, v = .builtin id) ∨ ∃ T, v = .type T) (hc : CallR X v r) (hg : Gl X x) (hm : X.mg x = none) (hv : bootBuiltins x = some v) (ha : PA X (e :: es) t) (hn : x ≠ "__name__") (hdb : (x == ("__debug__" : Str)) = false)
    (he : notStar e = true) (hes : es.all notStar = true) : PE X (.Call (.Name x p) (e :: es) [] pos) (tCB r t) := by
  rcases hv2 with ⟨id, rfl⟩ | ⟨T, rfl⟩
  · exact pe_callB hc hg hm hv ha hn hdb (star_cons he) (star_plain hes)
  · exact pe_callTy hc hg hm hv ha hn hdb (star_cons he) (star_plain hes)
theorem Rps.ints : ∀ {vs : List Val} {xs : List L2.V} {F : AS} {H : Hp} {ns : List Int}, intsOf vs = some ns → Rps c F H vs xs → xs = ns.map V.int
  | [], xs, F, H, ns, e, r => by simp only [intsOf, Option.some.injEq] at e; subst e; simp only [Rps] at r; subst r; rfl
  | v :: vs, xs, F, H, ns, e, r => by
    simp only [Rps] at r
    obtain ⟨x, r', rfl, q1, q2⟩ := r
    cases v <;> simp only [intsOf] at e <;> first | (cases e; done) | skip
    obtain ⟨ms, e1, rfl⟩ := Option.map_eq_some_iff.mp e
    simp only [Rp] at q1
    rw [q1, Rps.ints e1 q2]
    rfl
theorem Rps.bools : ∀ {vs : List Val} {xs : List L2.V} {F : AS} {H : Hp} {ns : List Bool}, boolsOf vs = some ns → Rps c F H vs xs → xs = ns.map V.bl
  | [], xs, F, H, ns, e, r => by simp only [boolsOf, Option.some.injEq] at e; subst e; simp only [Rps] at r; subst r; rfl
  | v :: vs, xs, F, H, ns, e, r => by
    simp only [Rps] at r
    obtain ⟨x, r', rfl, q1, q2⟩ := r
    cases v <;> simp only [boolsOf] at e <;> first | (cases e; done) | skip
    obtain ⟨ms, e1, rfl⟩ := Option.map_eq_some_iff.mp e
    simp only [Rp] at q1
    rw [q1, Rps.bools e1 q2]
    rfl
theorem Rps.ofInts {F : AS} {H : Hp} : ∀ ns : List Int, Rps c F H (ns.map Val.int) (ns.map V.int)
  | [] => Rps.nil
  | n :: ns => Rps.cons (by simp only [Rp]) (Rps.ofInts ns)
theorem RpK.keys {F : AS} {H : Hp} : ∀ {kvs : List (Val × Val)} {kx : List (Key × L2.V)}, RpK c F H kvs kx → Rps c F H (kvs.map (·.1)) (kx.map fun kv => kV kv.1)
  | [], kx, r => by simp only [RpK] at r; subst r; exact Rps.nil
  | (k, v) :: kvs, kx, r => by
    simp only [RpK] at r
    obtain ⟨kk, x, r', rfl, ek, q1, q2⟩ := r
    refine Rps.cons ?_ (RpK.keys q2)
    cases k <;> simp only [keyV] at ek <;> first | (cases ek; done) | skip
    · cases ek; simp only [Rp]; rfl
    · cases ek; simp only [Rp]; rfl
theorem RpK.length {F : AS} {H : Hp} : ∀ {kvs : List (Val × Val)} {kx : List (Key × L2.V)}, RpK c F H kvs kx → kvs.length = kx.length
  | [], kx, r => by simp only [RpK] at r; subst r; rfl
  | (k, v) :: kvs, kx, r => by
    simp only [RpK] at r
    obtain ⟨kk, x, r', rfl, ek, q1, q2⟩ := r
    simp [RpK.length q2]
theorem foldmax : ∀ (r : List Int) (n m : Int), m ∈ n :: r → (∀ y, y ∈ n :: r → y ≤ m) → m = r.foldl max n
  | [], n, m, h, _ => by simpa using h
  | a :: r, n, m, h, h' => by
    rw [List.foldl_cons]
    apply foldmax r (max n a) m
    · simp only [List.mem_cons] at h ⊢
      have h1 := h' n (by simp)
      have h2 := h' a (by simp)
      rcases h with h | h | h
      · left; omega
      · left; omega
      · right; exact h
    · intro y hy
      simp only [List.mem_cons] at hy
      rcases hy with hy | hy
      · have h1 := h' n (by simp)
        have h2 := h' a (by simp)
        omega
      · exact h' y (by simp [hy])
theorem foldmin : ∀ (r : List Int) (n m : Int), m ∈ n :: r → (∀ y, y ∈ n :: r → m ≤ y) → m = r.foldl min n
  | [], n, m, h, _ => by simpa using h
  | a :: r, n, m, h, h' => by
    rw [List.foldl_cons]
    apply foldmin r (min n a) m
    · simp only [List.mem_cons] at h ⊢
      have h1 := h' n (by simp)
      have h2 := h' a (by simp)
      rcases h with h | h | h
      · left; omega
      · left; omega
      · right; exact h
    · intro y hy
      simp only [List.mem_cons] at hy
      rcases hy with hy | hy
      · have h1 := h' n (by simp)
        have h2 := h' a (by simp)
        omega
      · exact h' y (by simp [hy])
theorem sorted_eq {ns ms : List Int} (h : ms.Perm ns) (h2 : ms.Pairwise (· ≤ ·)) : ms = ns.mergeSort := by
  have p1 : ns.mergeSort.Perm ns := List.mergeSort_perm _ _
  have p2 : (ns.mergeSort).Pairwise (fun a b => (decide (a ≤ b)) = true) := List.pairwise_mergeSort (by intro a b c; simp; omega) (by intro a b; simp; omega) ns
  refine List.Perm.eq_of_pairwise ?_ h2 (p2.imp fun {a b} h => by simpa using h) (h.trans p1.symm)
  intro a b _ _ h1 h2
  omega
theorem rpos1 {F : AS} {H : Hp} {v : Val} {xs : List L2.V} (r : RpOs c F H [v] xs) : ∃ x, xs = [x] ∧ RpO c F H v x := by
  obtain ⟨x, r, rfl, q, rfl⟩ := r
  exact ⟨x, rfl, q⟩
theorem rpos2 {F : AS} {H : Hp} {v w : Val} {xs : List L2.V} (r : RpOs c F H [v, w] xs) : ∃ x y, xs = [x, y] ∧ RpO c F H v x ∧ RpO c F H w y := by
  obtain ⟨x, r, rfl, q, y, r', rfl, q', rfl⟩ := r
  exact ⟨x, y, rfl, q, q'⟩
end
end PL
/-! PC8: built-in functions, the end. -/
namespace PL
open PySem PySem.Spec PyProof.Rows L2
section
variable {c : Cfg} {g : Ctx} {W : WX} {X : Cx} {pos : Pos}
theorem RpO.dctv {F : AS} {H : Hp} {kvs : List (Val × Val)} {x : L2.V} (h : RpO c F H (.dct kvs) x) : ∃ a kx, x = .ref a ∧ Rd H a (.dK kx) ∧ RpK c F H kvs kx := h.dct
theorem opEnd_dct {F : AS} {H : Hp} {kvs : List (Val × Val)} {kx : List (Key × L2.V)} {r : VK → Prop} (q : RpK c F H kvs kx) (h : ∀ Q : VK, (∀ p, H p = none → Q (.ref p) (upd H p (.dK kx))) → r Q) : OpEnd c H F (.md kvs) r :=
  fun W V Ls σ Q s q' => h Q fun p hp => q'.finO s hp ⟨p, kx, rfl, (fun f => by obtain ⟨o, e⟩ := s.fr p f; rw [hp] at e; cases e), upd_same, q.mono (fun _ f => f) (Sb.new hp), fun _ => Iff.rfl⟩
theorem biEnd {f : String} {F : AS} {H : Hp} {vs : List Val} {xs : List L2.V} {t : Slot} (hf : biNames.contains f = true) (r : RpOs c F H vs xs) (e : biV f vs = some t) : OpEnd c H F t fun Q => rBi c.K f xs H Q := by
  have hf : f ∈ biNames := by simpa using hf
  unfold biNames at hf
  simp only [List.mem_cons, List.mem_nil_iff, or_false] at hf
  rcases hf with h | h | h | h | h | h | h | h | h | h | h | h | h <;> subst h <;> simp only [biV] at e
  · unfold biLen at e
    split at e
    · cases e
      obtain ⟨x, rfl, ox⟩ := rpos1 r
      obtain ⟨a, zs, rfl, q, rr⟩ := ox.lst
      rw [rr.length]
      exact opEnd_int fun Q q' => .inl ⟨_, _, rfl, .inl ⟨zs, .inl q, rfl⟩, q'⟩
    · cases e
      obtain ⟨x, rfl, ox⟩ := rpos1 r
      obtain ⟨a, zs, rfl, q, rr⟩ := ox.tup
      rw [rr.length]
      exact opEnd_int fun Q q' => .inl ⟨_, _, rfl, .inr ⟨zs, q, rfl⟩, q'⟩
    · cases e
      obtain ⟨x, rfl, ox⟩ := rpos1 r
      obtain ⟨a, zs, rfl, q, rr⟩ := ox.dct
      rw [rr.length]
      exact opEnd_int fun Q q' => .inr ⟨_, _, rfl, q, q'⟩
    · split at e
      · rename_i hz; cases e
        obtain ⟨x, rfl, ox⟩ := rpos1 r
        rw [ox.str]
        exact opEnd_int fun Q q' => .inl ⟨_, _, rfl, ⟨lim_le hz, rfl⟩, q'⟩
      · cases e
    · cases e
  · unfold biAbs at e
    split at e
    · cases e
      obtain ⟨x, rfl, ox⟩ := rpos1 r
      rw [ox.int]
      exact opEnd_int fun Q q' => ⟨_, rfl, q'⟩
    · cases e
  · unfold biInt at e
    split at e
    · cases e
      obtain ⟨x, rfl, ox⟩ := rpos1 r
      rw [ox.int]
      exact opEnd_int fun Q q' => .inl (.inl ⟨_, rfl, q'⟩)
    · cases e
      obtain ⟨x, rfl, ox⟩ := rpos1 r
      rw [ox.bl]
      exact opEnd_int fun Q q' => .inl (.inr ⟨_, rfl, q'⟩)
    · obtain ⟨x, rfl, ox⟩ := rpos1 r
      rw [ox.str]
      split at e
      · rename_i n hn
        split at e
        · rename_i hz; cases e
          exact opEnd_int fun Q q' => .inr ⟨_, _, rfl, hn, hz, q'⟩
        · cases e
      · cases e
    · cases e
  · unfold biStr at e
    split at e
    · split at e
      · rename_i hz; cases e
        obtain ⟨x, rfl, ox⟩ := rpos1 r
        rw [ox.int]
        exact opEnd_str fun Q q' => ⟨_, rfl, hz, q'⟩
      · cases e
    · cases e
  · unfold biMax at e
    split at e
    · cases e
      obtain ⟨x, y, rfl, ox, oy⟩ := rpos2 r
      rw [ox.int, oy.int]
      exact opEnd_int fun Q q' => .inl ⟨_, _, rfl, q'⟩
    · split at e
      · rename_i n m hn; cases e
        obtain ⟨x, rfl, ox⟩ := rpos1 r
        obtain ⟨a, zs, rfl, q, rr⟩ := ox.lst
        have ez := Rps.ints hn rr
        subst ez
        exact opEnd_int fun Q q' => .inr ⟨a, n :: m, rfl, .inl q, by simp, fun k h1 h2 => by rw [foldmax m n k h1 h2]; exact q'⟩
      · cases e
    · cases e
  · unfold biMin at e
    split at e
    · cases e
      obtain ⟨x, y, rfl, ox, oy⟩ := rpos2 r
      rw [ox.int, oy.int]
      exact opEnd_int fun Q q' => .inl ⟨_, _, rfl, q'⟩
    · split at e
      · rename_i n m hn; cases e
        obtain ⟨x, rfl, ox⟩ := rpos1 r
        obtain ⟨a, zs, rfl, q, rr⟩ := ox.lst
        have ez := Rps.ints hn rr
        subst ez
        exact opEnd_int fun Q q' => .inr ⟨a, n :: m, rfl, .inl q, by simp, fun k h1 h2 => by rw [foldmin m n k h1 h2]; exact q'⟩
      · cases e
    · cases e
  · unfold biSum at e
    split at e
    · obtain ⟨ns, hn, et⟩ := Option.map_eq_some_iff.mp e
      subst et
      obtain ⟨x, rfl, ox⟩ := rpos1 r
      obtain ⟨a, zs, rfl, q, rr⟩ := ox.lst
      have ez := Rps.ints hn rr
      subst ez
      exact opEnd_int fun Q q' => ⟨a, ns, rfl, .inl q, q'⟩
    · cases e
  · unfold biAny at e
    split at e
    · obtain ⟨ns, hn, et⟩ := Option.map_eq_some_iff.mp e
      subst et
      obtain ⟨x, rfl, ox⟩ := rpos1 r
      obtain ⟨a, zs, rfl, q, rr⟩ := ox.lst
      have ez := Rps.bools hn rr
      subst ez
      exact opEnd_bl fun Q q' => ⟨a, ns, rfl, .inl q, q'⟩
    · cases e
  · unfold biAll at e
    split at e
    · obtain ⟨ns, hn, et⟩ := Option.map_eq_some_iff.mp e
      subst et
      obtain ⟨x, rfl, ox⟩ := rpos1 r
      obtain ⟨a, zs, rfl, q, rr⟩ := ox.lst
      have ez := Rps.bools hn rr
      subst ez
      exact opEnd_bl fun Q q' => ⟨a, ns, rfl, .inl q, q'⟩
    · cases e
  · unfold biList at e
    split at e
    · cases e
      obtain ⟨x, rfl, ox⟩ := rpos1 r
      obtain ⟨a, zs, rfl, q, rr⟩ := ox.lst
      exact opEnd_lst rr fun Q q' => .inl ⟨a, zs, rfl, .inl (.inl q), q'⟩
    · cases e
      obtain ⟨x, rfl, ox⟩ := rpos1 r
      obtain ⟨a, zs, rfl, q, rr⟩ := ox.tup
      exact opEnd_lst rr fun Q q' => .inl ⟨a, zs, rfl, .inr q, q'⟩
    · cases e
      obtain ⟨x, rfl, ox⟩ := rpos1 r
      obtain ⟨a, zs, rfl, q, rr⟩ := ox.dct
      exact opEnd_lst rr.keys fun Q q' => .inr ⟨a, zs, rfl, q, q'⟩
    · cases e
  · unfold biTuple at e
    split at e
    · cases e
      obtain ⟨x, rfl, ox⟩ := rpos1 r
      obtain ⟨a, zs, rfl, q, rr⟩ := ox.lst
      exact opEnd_tup rr fun Q q' => ⟨a, zs, rfl, .inl ⟨.inl q, q'⟩⟩
    · rename_i vs; cases e
      obtain ⟨x, rfl, ox⟩ := rpos1 r
      obtain ⟨a, zs, rfl, q, rr⟩ := ox.tup
      exact opEnd_same (ox.flat (fun _ => nofun) (fun _ => nofun) (fun _ _ => nofun)) fun Q q' => ⟨a, zs, rfl, .inr ⟨q, q'⟩⟩
    · cases e
  · unfold biDict at e
    split at e
    · cases e
      obtain ⟨x, rfl, ox⟩ := rpos1 r
      obtain ⟨a, zs, rfl, q, rr⟩ := ox.dct
      exact opEnd_dct rr fun Q q' => ⟨a, zs, rfl, q, q'⟩
    · cases e
  · unfold biSorted at e
    split at e
    · obtain ⟨ns, hn, et⟩ := Option.map_eq_some_iff.mp e
      subst et
      obtain ⟨x, rfl, ox⟩ := rpos1 r
      obtain ⟨a, zs, rfl, q, rr⟩ := ox.lst
      have ez := Rps.ints hn rr
      subst ez
      exact opEnd_lst (Rps.ofInts _) fun Q q' => ⟨a, ns, rfl, .inl q, fun ms p h1 h2 hp => by rw [sorted_eq h1 h2]; exact q' p hp⟩
    · cases e
theorem ev_bi {f : String} {e : E} {es : Es} {ee : Expr} {ees : List Expr} {p : Pos} (hK : X.K = c.K) (hc : X.calm = true) (hf : biNames.contains f = true) (hg : Gl X (Str.ofString f)) (hm : X.mg (Str.ofString f) = none) (hs : notStar ee = true) (hss : ees.all notStar = true)
    (ha : PA X (ee :: ees) (tPrs c g W (.cons e es))) : PE X (.Call (.Name (Str.ofString f) p) (ee :: ees) [] pos) (tEv c g W (.bi f (.cons e es))) := by
  obtain ⟨b1, b2, b3⟩ := bi_boot hf
  refine (pe_callV (r := rBi X.K f) (v := biV_ f) (by unfold biV_; split; exact .inr ⟨_, rfl⟩; exact .inl ⟨_, rfl⟩) (bi_call hc hf) hg hm b1 ha b2 b3 hs hss).imp fun V H Q ⟨σ, F, Ls, s, r⟩ => ?_
  simp only [E.ev] at r
  refine ⟨σ, F, Ls, s, (RWe.bind r).imp fun ps σ1 F1 Ls1 H1 s1 t1 h1 xs rs => ?_⟩
  dsimp only at h1
  split at h1
  · rename_i vs ev
    split at h1
    · rename_i t et
      rw [hK]
      exact biEnd hf (fill_ok s1 rs ev) et W V Ls1 σ1 Q s1 h1
    · exact h1.elim
  · exact h1.elim
theorem ev_gcd {e : E} {es : Es} {ee : Expr} {ees : List Expr} {p : Pos} {x : Str} (hg : Gl X x) (hm : X.mg x = some (.builtin "math.gcd")) (hdb : (x == ("__debug__" : Str)) = false) (hs : notStar ee = true) (hss : ees.all notStar = true)
    (ha : PA X (ee :: ees) (tPrs c g W (.cons e es))) : PE X (.Call (.Name x p) (ee :: ees) [] pos) (tEv c g W (.bi "gcd" (.cons e es))) := by
  refine (pe_callBfun cr_gcd hg hm ha hdb (star_cons hs) (star_plain hss)).imp fun V H Q ⟨σ, F, Ls, s, r⟩ => ?_
  simp only [E.ev] at r
  refine ⟨σ, F, Ls, s, (RWe.bind r).imp fun ps σ1 F1 Ls1 H1 s1 t1 h1 xs rs => ?_⟩
  dsimp only at h1
  split at h1
  · rename_i vs ev
    split at h1
    · rename_i t et
      simp only [biV] at et
      unfold biGcd at et
      split at et
      · cases et
        obtain ⟨x, y, rfl, ox, oy⟩ := rpos2 (fill_ok s1 rs ev)
        rw [ox.int, oy.int]
        exact ⟨_, _, rfl, h1.fin s1 (by simp only [Rp])⟩
      · cases et
    · exact h1.elim
  · exact h1.elim
end
end PL
/-! PD: what a def promises; calls. -/
namespace PL
open PySem PySem.Spec PyProof.Rows L2
/-- the lent parameters behind a call; nothing is said of the others -/
def ioEnv (io : List Nat) (n : Nat) (ios : List Slot) : Env := (List.range n).map fun j => (io.idxOf? j).bind fun k => ios[k]?
/-- what the def f promises at the level k -/
def spC (c : Cfg) (P : Prog) (k : Nat) (f : String) (d : Def) : Sp := fun vs H Q E =>
  vs.length = d.ps ∧ ∃ ss F Ls, St c F Ls H (ss.map some) (vs.map some) ∧ (match callF P k f ss with
    | .ok r ios => ∀ x S F' Ls' H', St c F' Ls' H' (ioEnv d.io d.ps ios) (vs.map some) → RpS c F' H' r x S → (∀ a, S a → ¬ Own Ls' a) → Tr F (Own Ls) H F' (fun a => Own Ls' a ∨ S a) H' → Q x H'
    | .exc e ios => ∀ F' Ls' H', St c F' Ls' H' (ioEnv d.io d.ps ios) (vs.map some) → Tr F (Own Ls) H F' (Own Ls') H' → E (.ref (c.cA e)) none H'
    | .stuck => False)
/-- the function object at a holds fd -/
def FdAt (K : PySem.W.Frag) (a : Addr) (fd : FuncData) : Prop := ∃ oc od osl, K.lookup a = some ⟨oc, od, .func fd, osl⟩
theorem FdAt.uniq {K : PySem.W.Frag} {a : Addr} {fd fd' : FuncData} (h : FdAt K a fd) (h' : FdAt K a fd') : fd = fd' := by
  obtain ⟨oc, od, osl, e⟩ := h
  obtain ⟨oc', od', osl', e'⟩ := h'
  rw [e] at e'
  cases e'
  rfl
/-- the defs of the text, at the level k -/
structure Fns (c : Cfg) (P : Prog) (pr : Program) (w : World) (mg : Str → Option Value) (base : Heap) (k : Nat) : Prop where
  fn : ∀ f d, P.fn f = some d → ∃ fd, FdAt c.K (c.fA f) fd ∧ FnOk pr w c.K mg base (L2.CX pr w) k (c.fA f) fd (c.pN f) (spC c P k f d) ∧ Binds c.K fd (c.pN f) [] ∧ PySem.W.keepIn c.K (.ref (c.fA f)) = true ∧
    ∀ (s : Shared) (us : List Value), us.length = (c.pN f).length → BindsTo s fd ⟨us, []⟩ ((c.pN f).zip us)
section
variable {c : Cfg} {W : WX} {X : Cx} {pos : Pos}
/-- no argument is lent to be changed -/
def ownAll : As → Bool
  | .nil => true
  | .cons .own _ as => ownAll as
  | .cons .lend _ as => ownAll as
  | _ => false
/-- .. as they come -/
def ownPs : List (AM × Pre) → Bool
  | [] => true
  | (.own, .val (.cl (.v _))) :: r => ownPs r
  | (.lend, .val (.cl (.v _))) :: r => ownPs r
  | (.lend, .at (.var _)) :: r => ownPs r
  | _ => false
inductive OkP : AM → Pre → Prop
  | own (v : Val) : OkP .own (.val (.v v))
  | lend (v : Val) : OkP .lend (.val (.v v))
  | var (i : Nat) : OkP .lend (.at (.var i))
theorem ownPs_cons {m : AM} {p : Pre} {r : List (AM × Pre)} (h : ownPs ((m, p) :: r) = true) : OkP m p ∧ ownPs r = true := by
  unfold ownPs at h
  split at h <;> first | (rename_i e; cases e; done) | (cases h; done) | skip
  · rename_i e; cases e; exact ⟨.own _, h⟩
  · rename_i e; cases e; exact ⟨.lend _, h⟩
  · rename_i e; cases e; exact ⟨.var _, h⟩
/-- a place is a name, if it is lent -/
def lendVar : As → Bool
  | .nil => true
  | .cons .lend (.fld _ _) _ => false
  | .cons _ _ as => lendVar as
theorem pre_shape {g : Ctx} {e : E} {σ σ' : Env} {p : Pre} (hp : ∀ i f, e ≠ .fld i f) (h : e.pre g σ = .ok (p, σ')) : (∃ v, p = .val (.v v)) ∨ ∃ i, p = .at (.var i) := by
  by_cases hpl : isPlace e = true
  · cases e <;> first | (cases hpl; done) | skip
    · simp only [E.pre] at h
      split at h
      · cases h; exact .inr ⟨_, rfl⟩
      · cases h
    · exact absurd rfl (hp _ _)
  · rw [pre_eq (by simpa using hpl)] at h
    obtain ⟨⟨s, σ1⟩, _, e2⟩ := R.bind_ok h
    cases e2
    exact .inl ⟨_, rfl⟩
theorem own_ps {g : Ctx} : ∀ {as : As} {σ σ' : Env} {ps : List (AM × Pre)}, ownAll as = true → lendVar as = true → as.pres g σ = .ok (ps, σ') → ownPs ps = true
  | .nil, σ, σ', ps, _, _, e => by simp only [As.pres] at e; cases e; rfl
  | .cons .own x as, σ, σ', ps, h, hl, e => by
    simp only [As.pres] at e
    obtain ⟨⟨s, σ1⟩, _, e⟩ := R.bind_ok e
    obtain ⟨⟨qs, σ2⟩, e1, e⟩ := R.bind_ok e
    cases e
    show ownPs qs = true
    exact own_ps (as := as) h (by simpa only [lendVar] using hl) e1
  | .cons .lend x as, σ, σ', ps, h, hl, e => by
    have hx : ∀ i f, x ≠ .fld i f := fun i f z => by subst z; simp [lendVar] at hl
    have hl' : lendVar as = true := by
      cases x <;> first | (simpa only [lendVar] using hl) | exact absurd rfl (hx _ _)
    simp only [As.pres] at e
    obtain ⟨⟨p, σ1⟩, e0, e⟩ := R.bind_ok e
    obtain ⟨⟨qs, σ2⟩, e1, e⟩ := R.bind_ok e
    cases e
    have ih := own_ps (as := as) h hl' e1
    rcases pre_shape hx e0 with ⟨v, rfl⟩ | ⟨i, rfl⟩
    · exact ih
    · exact ih
  | .cons .io x as, σ, σ', ps, h, _, e => by cases h
/-- what is lent -/
def Lent (Ls : Nat → AS) : List (AM × Pre) → AS
  | [], _ => False
  | (.lend, .at (.var i)) :: r, a => Ls i a ∨ Lent Ls r a
  | _ :: r, a => Lent Ls r a
theorem Lent.own {Ls : Nat → AS} : ∀ {ps : List (AM × Pre)} {a : Addr}, ownPs ps = true → Lent Ls ps a → Own Ls a
  | [], _, _, h => h.elim
  | (m, p) :: r, a, ho, h => by
    obtain ⟨o, ho⟩ := ownPs_cons ho
    cases o with
    | own v => exact Lent.own (ps := r) ho h
    | lend v => exact Lent.own (ps := r) ho h
    | var i => exact h.elim (fun z => ⟨i, z⟩) (Lent.own (ps := r) ho)
theorem Lent.none {Ls : Nat → AS} : ∀ {ps : List (AM × Pre)} {a : Addr}, ownPs ps = true → hasLend ps = false → ¬ Lent Ls ps a
  | [], _, _, _, h => h
  | (m, p) :: r, a, ho, hl, h => by
    obtain ⟨o, ho⟩ := ownPs_cons ho
    cases o with
    | own v => exact Lent.none (ps := r) ho (by simpa only [hasLend] using hl) h
    | lend v => exact Lent.none (ps := r) ho (by simpa only [hasLend] using hl) h
    | var i => simp [hasLend] at hl
theorem own_arg {F : AS} {Ls : Nat → AS} {H : Hp} {V : VS} {σ : Env} (s : St c F Ls H σ V) : ∀ {ps : List (AM × Pre)} {xs : List L2.V} {ss : List Slot}, ownPs ps = true → RelPres c F H V (ps.map (·.2)) xs → argS σ ps = some ss →
    ∃ vs : List Val, ss = vs.map Slot.v ∧ Rps c (fun a => F a ∨ Lent Ls ps a) H vs xs
  | [], xs, ss, _, r, e => by
    have r : xs = [] := r
    subst r
    simp only [argS, Option.some.injEq] at e
    subst e
    exact ⟨[], rfl, Rps.nil⟩
  | (m, p) :: ps, xs, ss, h, r, e => by
    obtain ⟨o, h⟩ := ownPs_cons h
    obtain ⟨x, r', rfl, q, q2⟩ := r
    cases o with
    | own v =>
      simp only [argS] at e
      obtain ⟨ss', e1, rfl⟩ := Option.map_eq_some_iff.mp e
      obtain ⟨vs, rfl, q3⟩ := own_arg s (ps := ps) h q2 e1
      obtain ⟨u, eu, q⟩ := q
      cases eu
      exact ⟨v :: vs, rfl, Rps.cons (q.mono (fun _ f => .inl f) Sb.refl) q3⟩
    | lend v =>
      simp only [argS] at e
      obtain ⟨ss', e1, rfl⟩ := Option.map_eq_some_iff.mp e
      obtain ⟨vs, rfl, q3⟩ := own_arg s (ps := ps) h q2 e1
      obtain ⟨u, eu, q⟩ := q
      cases eu
      exact ⟨v :: vs, rfl, Rps.cons (q.mono (fun _ f => .inl f) Sb.refl) q3⟩
    | var i =>
      simp only [argS, rdP] at e
      obtain ⟨t, et, e⟩ := Option.bind_eq_some_iff.mp e
      obtain ⟨ss', e1, rfl⟩ := Option.map_eq_some_iff.mp e
      obtain ⟨vs, rfl, q3⟩ := own_arg s (ps := ps) h q2 e1
      refine ⟨t.fz :: vs, rfl, Rps.cons ((s.at et q).frz.mono (fun a f => f.imp id fun z => .inl z) Sb.refl) (q3.mono (fun a f => f.imp id fun z => .inr z) Sb.refl)⟩
theorem own_back {σ : Env} : ∀ {ps : List (AM × Pre)} {ios : List Slot} {σ' : Env}, ownPs ps = true → backS σ ps ios = some σ' → σ' = σ ∧ ios = []
  | [], [], _, _, e => by simp only [backS, Option.some.injEq] at e; exact ⟨e.symm, rfl⟩
  | [], _ :: _, _, _, e => by simp [backS] at e
  | (m, p) :: ps, ios, σ', h, e => by
    obtain ⟨o, h⟩ := ownPs_cons h
    cases o with
    | own v =>
      have e' : backS σ ps ios = some σ' := by cases ios <;> simpa only [backS] using e
      exact own_back (ps := ps) h e'
    | lend v =>
      have e' : backS σ ps ios = some σ' := by cases ios <;> simpa only [backS] using e
      exact own_back (ps := ps) h e'
    | var i =>
      have e' : backS σ ps ios = some σ' := by cases ios <;> simpa only [backS] using e
      exact own_back (ps := ps) h e'
/-- the callee's names: frozen values alone -/
theorem st_frozen {F : AS} {H : Hp} (fr : ∀ a, F a → ∃ o, H a = some o) : ∀ {vs : List Val} {xs : List L2.V}, Rps c F H vs xs → St c F (fun _ _ => False) H ((vs.map Slot.v).map some) (xs.map some) := fun {vs xs} r => by
  refine ⟨fun i s e => ?_, fun _ _ _ z => z, fun _ _ _ z => z.elim, by simp [r.length], fr⟩
  rw [List.map_map, List.getElem?_map] at e
  obtain ⟨v, ev, es⟩ := Option.map_eq_some_iff.mp e
  obtain ⟨x, ex, rx⟩ := r.get ev
  refine ⟨x, by rw [List.getElem?_map, ex]; rfl, ?_⟩
  cases es
  exact RpS.v rx
/-- flat values lean on no list -/
theorem flat_less {F F3 : AS} {H : Hp} (h : ∀ a xs, F a → H a = some (.tup xs) → F3 a) : ∀ {v : Val} {x : L2.V}, v.flat = true → Rp c F H v x → Rp c F3 H v x
  | .non, _, _, r => by simpa only [Rp] using r
  | .bl _, _, _, r => by simpa only [Rp] using r
  | .int _, _, _, r => by simpa only [Rp] using r
  | .str _, _, _, r => by simpa only [Rp] using r
  | .lst _, _, f, _ => by simp [Val.flat] at f
  | .dct _, _, f, _ => by simp [Val.flat] at f
  | .ins _ _, _, f, _ => by simp [Val.flat] at f
  | .tup vs, x, f, r => by
    simp only [Val.flat] at f
    simp only [Rp] at r ⊢
    obtain ⟨a, xs, e, q, rr⟩ := r
    refine ⟨a, xs, e, q.imp (fun z => ⟨z.1, h a xs z.2 z.1⟩) id, ?_⟩
    clear q e
    have go : ∀ (vs : List Val) (xs : List L2.V), flats vs = true → Rps c F H vs xs → (∀ v ∈ vs, ∀ x, v.flat = true → Rp c F H v x → Rp c F3 H v x) → Rps c F3 H vs xs := by
      intro vs
      induction vs with
      | nil => intro xs _ r _; simpa only [Rps] using r
      | cons v vs ih =>
        intro xs f r k
        simp only [flats, Bool.and_eq_true] at f
        simp only [Rps] at r ⊢
        obtain ⟨y, r', e, q1, q2⟩ := r
        exact ⟨y, r', e, k v (List.mem_cons_self ..) y f.1 q1, ih r' f.2 q2 fun u hu => k u (List.mem_cons_of_mem _ hu)⟩
    exact go vs xs f rr fun v hv x fv rv => flat_less h fv rv
termination_by v => sizeOf v
decreasing_by
  simp_wf
  have := List.sizeOf_lt_of_mem hv
  omega
theorem flats_less {F F3 : AS} {H : Hp} (h : ∀ a xs, F a → H a = some (.tup xs) → F3 a) : ∀ {vs : List Val} {xs : List L2.V}, flats vs = true → Rps c F H vs xs → Rps c F3 H vs xs
  | [], _, _, r => by simpa only [Rps] using r
  | v :: vs, _, f, r => by
    simp only [flats, Bool.and_eq_true] at f
    simp only [Rps] at r ⊢
    obtain ⟨y, r', e, q1, q2⟩ := r
    exact ⟨y, r', e, flat_less h f.1 q1, flats_less h f.2 q2⟩
theorem flatK_less {F F3 : AS} {H : Hp} (h : ∀ a xs, F a → H a = some (.tup xs) → F3 a) : ∀ {vs : List (Val × Val)} {xs : List (Key × L2.V)}, flats (vs.map (·.2)) = true → RpK c F H vs xs → RpK c F3 H vs xs
  | [], _, _, r => by simpa only [RpK] using r
  | (k, v) :: vs, _, f, r => by
    simp only [List.map_cons, flats, Bool.and_eq_true] at f
    simp only [RpK] at r ⊢
    obtain ⟨kk, y, r', e, ek, q1, q2⟩ := r
    exact ⟨kk, y, r', e, ek, flat_less h f.1 q1, flatK_less h f.2 q2⟩
theorem flatS_less {F F3 : AS} {H : Hp} (h : ∀ a xs, F a → H a = some (.tup xs) → F3 a) (hs : ∀ a, F3 a → F a) {s : Slot} {x : L2.V} {S : AS} (f : s.flat = true) (r : RpS c F H s x S) : RpS c F3 H s x S := by
  cases s with
  | mi k fs => cases f
  | cl d => cases d with
    | v v => exact ⟨flat_less h f r.1, r.2⟩
    | ml vs =>
      obtain ⟨a, xs, e, n, q, rr, hS⟩ := r
      exact ⟨a, xs, e, fun z => n (hs a z), q, flats_less h f rr, hS⟩
    | md kvs =>
      obtain ⟨a, xs, e, n, q, rr, hS⟩ := r
      simp only [Slot.flat, Bool.and_eq_true] at f
      exact ⟨a, xs, e, fun z => n (hs a z), q, flatK_less h f.2 rr, hS⟩
/-- the caller's names behind a call that lends L and changes nothing of theirs -/
theorem St.after {F F' L : AS} {Ls : Nat → AS} {H H' : Hp} {σ : Env} {V : VS} {O' : AS} (s : St c F Ls H σ V) (hL : ∀ a, L a → Own Ls a) (t : Tr (fun a => F a ∨ L a) (Own fun _ _ => False) H F' O' H') (fr : ∀ a, F' a → ∃ o, H' a = some o) : St c (fun a => F' a ∧ ¬ L a) Ls H' σ V :=
  have no : ∀ a, ¬ Own (fun _ _ => False) a := fun a ⟨_, z⟩ => z
  s.keep (fun a f => ⟨t.mono a (.inl f), fun z => (s.own a (hL a z)).1 f⟩) (fun a z ⟨f, nl⟩ => by
    obtain ⟨n, o, e, _⟩ := s.own a z
    rcases t.new a f with (q | q) | q | q
    · exact n q
    · exact nl q
    · exact no a q
    · rw [e] at q; cases q) (fun a o _ e => t.keep a o e (no a)) fun a f => fr a f.1
theorem Tr.after {F F' L O : AS} {H H' : Hp} {S : AS} (hL : ∀ a, F a → ¬ L a) (t : Tr (fun a => F a ∨ L a) (Own fun _ _ => False) H F' S H') : Tr F O H (fun a => F' a ∧ ¬ L a) (fun a => O a ∨ S a) H' :=
  have no : ∀ a, ¬ Own (fun _ _ => False) a := fun a ⟨_, z⟩ => z
  ⟨fun a o e _ => t.keep a o e (no a), fun a f => ⟨t.mono a (.inl f), hL a f⟩, fun a f => (t.new a f.1).elim (fun q => q.elim .inl fun z => (f.2 z).elim) fun q => q.elim (fun z => (no a z).elim) fun z => .inr (.inr z), fun a z => z.elim .inl fun z => (t.own a z).elim (fun q => (no a q).elim) .inr, t.there, t.tups⟩
/-- the rule of a call whose arguments are not lent to be changed -/
theorem call_end {P : Prog} {k : Nat} {f : String} {d : Def} {ps : List (AM × Pre)} {xs : List L2.V} {σ : Env} {F : AS} {Ls : Nat → AS} {H : Hp} {V : VS} {Q : VK} (s : St c F Ls H σ V) (ho : ownPs ps = true) (r : RelPres c F H V (ps.map (·.2)) xs)
    (hl : xs.length = d.ps)
    (h : RWe c W V F (Own Ls) H (match argS σ ps with
      | some ss => afterC σ ps (callF P k f ss)
      | none => .stuck) Q) : spC c P k f d xs H Q (WE W V) := by
  cases e1 : argS σ ps with
  | none => rw [e1] at h; exact h.elim
  | some ss =>
    rw [e1] at h
    dsimp only at h
    obtain ⟨vs, rfl, q⟩ := own_arg s ho r e1
    have hL : ∀ a, Lent Ls ps a → Own Ls a := fun a z => Lent.own ho z
    have hFL : ∀ a, F a → ¬ Lent Ls ps a := fun a f z => (s.own a (hL a z)).1 f
    have fr0 : ∀ a, (F a ∨ Lent Ls ps a) → ∃ o, H a = some o := fun a f => f.elim (s.fr a) fun z => let ⟨_, o, e, _⟩ := s.own a (hL a z); ⟨o, e⟩
    refine ⟨hl, vs.map Slot.v, _, fun _ _ => False, st_frozen fr0 q, ?_⟩
    cases e : callF P k f (vs.map Slot.v) with
    | ok res ios =>
      rw [e] at h
      simp only [afterC] at h
      cases e2 : backS σ ps ios with
      | none => rw [e2] at h; exact h.elim
      | some σ' =>
        rw [e2] at h
        dsimp only at h
        obtain ⟨rfl, rfl⟩ := own_back ho e2
        split at h
        · exact h.elim
        · rename_i hfl
          intro x S F' Ls' H' s' rx hd t
          have t' : Tr _ (Own fun _ _ => False) H F' S H' := t.sub fun a z => .inr z
          refine h x S _ Ls H' (s.after hL t' s'.fr) ?_ (fun a sa z => ?_) (t'.after hFL)
          · by_cases hh : hasLend ps = true
            · have hr : res.flat = true := by
                cases hrf : res.flat with
                | true => rfl
                | false => rw [hh, hrf] at hfl; simp at hfl
              refine flatS_less (fun a xs f et => ⟨f, fun z => ?_⟩) (fun a z => z.1) hr rx
              obtain ⟨_, o, eo, mo⟩ := s.own a (hL a z)
              have := t'.keep a o eo fun ⟨_, z⟩ => z
              rw [et] at this
              cases this
              exact mo
            · have : F' = fun a => F' a ∧ ¬ Lent Ls ps a := funext fun a => propext ⟨fun f => ⟨f, Lent.none ho (by simpa using hh)⟩, fun f => f.1⟩
              rw [← this]
              exact rx
          · obtain ⟨_, o, eo, _⟩ := s.own a z
            rcases t'.own a sa with ⟨_, q⟩ | q
            · exact q
            · rw [eo] at q; cases q
    | exc ex ios =>
      rw [e] at h
      simp only [afterC] at h
      cases e2 : backS σ ps ios with
      | none => rw [e2] at h; exact h.elim
      | some σ' =>
        rw [e2] at h
        dsimp only at h
        obtain ⟨rfl, rfl⟩ := own_back ho e2
        intro F' Ls' H' s' t
        exact h _ Ls H' (s.after hL t s'.fr) ((t.after hFL).sub fun a z => .inl z)
    | stuck => rw [e] at h; exact h.elim
theorem RelPres.len {F : AS} {H : Hp} {V : VS} : ∀ {ps : List Pre} {xs : List L2.V}, RelPres c F H V ps xs → xs.length = ps.length
  | [], xs, h => by have h : xs = [] := h; subst h; rfl
  | p :: ps, xs, h => by
    obtain ⟨x, r, rfl, _, q⟩ := h
    simp [RelPres.len q]
def As.len : As → Nat
  | .nil => 0
  | .cons _ _ as => as.len + 1
theorem As.pres_len {g : Ctx} : ∀ {as : As} {σ σ' : Env} {ps : List (AM × Pre)}, as.pres g σ = .ok (ps, σ') → ownAll as = true → ps.length = as.len
  | .nil, σ, σ', ps, e, _ => by simp only [As.pres] at e; cases e; rfl
  | .cons .own x as, σ, σ', ps, e, h => by
    simp only [As.pres] at e
    obtain ⟨⟨s, σ1⟩, _, e⟩ := R.bind_ok e
    obtain ⟨⟨qs, σ2⟩, e1, e⟩ := R.bind_ok e
    cases e
    simp [As.len, As.pres_len (as := as) e1 h]
  | .cons .lend x as, σ, σ', ps, e, h => by
    simp only [As.pres] at e
    obtain ⟨⟨s, σ1⟩, _, e⟩ := R.bind_ok e
    obtain ⟨⟨qs, σ2⟩, e1, e⟩ := R.bind_ok e
    cases e
    simp [As.len, As.pres_len (as := as) e1 h]
  | .cons .io x as, σ, σ', ps, e, h => by cases h
theorem ev_call {P : Prog} {k : Nat} {io : List Nat} {f : String} {d : Def} {as : As} {e : Expr} {es : List Expr} {p : Pos} (hK : X.K = c.K) (N : Fns c P X.prog X.w X.mg X.base k) (tk : Takes X W) (hr : Room k X.A) (hg : Gl X (Str.ofString f)) (hm : X.mg (Str.ofString f) = some (.ref (c.fA f)))
    (hdb : (Str.ofString f == ("__debug__" : Str)) = false) (hf : P.fn f = some d) (ho : ownAll as = true) (hv : lendVar as = true) (hl : as.len = d.ps) (hs : notStar e = true) (hss : es.all notStar = true) (ha : PA X (e :: es) (tAs c (ctxF P k io) W as)) : PE X (.Call (.Name (Str.ofString f) p) (e :: es) [] pos) (tEv c (ctxF P k io) W (.call f as)) := by
  obtain ⟨fd, _, FO, B, kp, _⟩ := N.fn f d hf
  rw [← hK] at FO B kp
  refine (pe_callS (E := WE W) FO hr hg hm kp B (fun σ => passAt tk σ) ha hdb (star_cons hs) (star_plain hss)).imp fun V H Q ⟨σ, F, Ls, s, r⟩ => ?_
  simp only [E.ev] at r
  refine ⟨σ, F, Ls, s, ?_⟩
  have r := RWe.bind r
  cases e1 : as.pres (ctxF P k io) σ with
  | ok q =>
    obtain ⟨ps, σ1⟩ := q
    rw [e1] at r
    intro F1 Ls1 H1 s1 t1 xs rs
    have h1 := r F1 Ls1 H1 s1 t1
    dsimp only [ctxF, mkC] at h1
    refine call_end s1 (own_ps ho hv e1) rs ?_ h1
    rw [rs.len, List.length_map, As.pres_len e1 ho, hl]
  | exc x σ' => rw [e1] at r; exact r
  | stuck => rw [e1] at r; exact r
end
end PL
/-! PF: statements. -/
namespace PL
open PySem PySem.Spec PyProof.Rows L2
theorem _root_.L2.PS.imp {X : Cx} {s : Stmt} {t t' : TS} (h : PS X s t) (i : ∀ D V H, t' D V H → t D V H) : PS X s t' := ⟨fun pins s σ H D I q => h.run pins s σ H D I (i D σ H q)⟩
theorem _root_.L2.PSs.imp {X : Cx} {s : List Stmt} {t t' : TS} (h : PSs X s t) (i : ∀ D V H, t' D V H → t D V H) : PSs X s t' := ⟨fun pins s σ H D I q => h.run pins s σ H D I (i D σ H q)⟩
/-- the lent parameters' names keep their content -/
def KV (g : Ctx) (V V' : VS) : Prop := ∀ i, i ∈ g.mine → V'[i]? = V[i]?
theorem KV.refl {g : Ctx} {V : VS} : KV g V V := fun _ _ => rfl
theorem KV.trans {g : Ctx} {V V' V'' : VS} (a : KV g V V') (b : KV g V' V'') : KV g V V'' := fun i h => (b i h).trans (a i h)
theorem KV.set {g : Ctx} {V : VS} {i : Nat} {x : Option L2.V} (h : g.mine.contains i = false) : KV g V (V.set i x) := fun j hj => by
  have : i ≠ j := fun e => by
    subst e
    have : g.mine.contains i = true := by simpa using hj
    rw [h] at this; cases this
  rw [List.getElem?_set_ne this]
def FlW (c : Cfg) (W : WX) (g : Ctx) (D : Ends) (V : VS) (F O : AS) (H : Hp) (fl : Fl) : Prop :=
  match fl with
  | .next σ' => ∀ V' F' Ls' H', St c F' Ls' H' σ' V' → KV g V V' → Tr F O H F' (Own Ls') H' → D.nx V' H'
  | .ret s σ' => ∀ x S V' F' Ls' H', St c F' Ls' H' σ' V' → KV g V V' → RpS c F' H' s x S → (∀ a, S a → ¬ Own Ls' a) → Tr F O H F' (fun a => Own Ls' a ∨ S a) H' → D.rt x H'
  | .brk σ' => ∀ V' F' Ls' H', St c F' Ls' H' σ' V' → KV g V V' → Tr F O H F' (Own Ls') H' → D.bk V' H'
  | .cnt σ' => ∀ V' F' Ls' H', St c F' Ls' H' σ' V' → KV g V V' → Tr F O H F' (Own Ls') H' → D.ct V' H'
  | .exc e σ' => ∀ V' F' Ls' H', St c F' Ls' H' σ' V' → KV g V V' → Tr F O H F' (Own Ls') H' → W (.ref (c.cA e)) none V' H'
  | .stuck => False
section
variable {c : Cfg} {W : WX} {g : Ctx} {D : Ends}
theorem FlW.from {V V1 : VS} {F F1 O O1 : AS} {H H1 : Hp} {fl : Fl} (h : FlW c W g D V F O H fl) (k : KV g V V1) (t : Tr F O H F1 O1 H1) : FlW c W g D V1 F1 O1 H1 fl := by
  cases fl with
  | next σ' => exact fun V' F' Ls' H' s k' t' => h V' F' Ls' H' s (k.trans k') (t.trans t')
  | ret s σ' => exact fun x S V' F' Ls' H' s k' r d t' => h x S V' F' Ls' H' s (k.trans k') r d (t.trans t')
  | brk σ' => exact fun V' F' Ls' H' s k' t' => h V' F' Ls' H' s (k.trans k') (t.trans t')
  | cnt σ' => exact fun V' F' Ls' H' s k' t' => h V' F' Ls' H' s (k.trans k') (t.trans t')
  | exc e σ' => exact fun V' F' Ls' H' s k' t' => h V' F' Ls' H' s (k.trans k') (t.trans t')
  | stuck => exact h
/-- an expression, then more -/
theorem FlW.ev {V : VS} {F O : AS} {H : Hp} {r : R (Slot × Env)} {f : Slot × Env → Fl} {Q' : VK} (h : FlW c W g D V F O H (r.fl f))
    (k : ∀ s σ' x S F' Ls' H', St c F' Ls' H' σ' V → RpS c F' H' s x S → (∀ a, S a → ¬ Own Ls' a) → Tr F O H F' (fun a => Own Ls' a ∨ S a) H' → FlW c W g D V F' (fun a => Own Ls' a ∨ S a) H' (f (s, σ')) → Q' x H') : RWe c W V F O H r Q' := by
  cases r with
  | ok p => obtain ⟨s, σ'⟩ := p; exact fun x S F' Ls' H' s r d t => k _ σ' x S F' Ls' H' s r d t (FlW.from h KV.refl t)
  | exc e σ' => exact fun F' Ls' H' s t => h V F' Ls' H' s KV.refl t
  | stuck => exact h
theorem FlW.rw {α : Type} {V : VS} {F O : AS} {H : Hp} {r : R (α × Env)} {f : α × Env → Fl} (h : FlW c W g D V F O H (r.fl f)) :
    RW c W V F O H r fun a σ' F' Ls' H' => FlW c W g D V F' (Own Ls') H' (f (a, σ')) := by
  cases r with
  | ok p => obtain ⟨s, σ'⟩ := p; exact fun F' Ls' H' s t => FlW.from h KV.refl t
  | exc e σ' => exact fun F' Ls' H' s t => h V F' Ls' H' s KV.refl t
  | stuck => exact h
/-- .. the slot is frozen -/
theorem FlW.evF {V : VS} {F O : AS} {H : Hp} {r : R (Slot × Env)} {f : Slot × Env → Fl} {Q' : VK} (h : FlW c W g D V F O H (r.fl f))
    (k : ∀ s σ' x F' Ls' H', St c F' Ls' H' σ' V → Rp c F' H' s.fz x → Tr F O H F' (Own Ls') H' → FlW c W g D V F' (Own Ls') H' (f (s, σ')) → Q' x H') : RWe c W V F O H r Q' :=
  h.ev fun s σ' x S F' Ls' H' st r d t h' => by
    have tf : Tr F' (fun a => Own Ls' a ∨ S a) H' (fun a => F' a ∨ S a) (Own Ls') H' := Tr.frz Tr.refl
    exact k s σ' x _ Ls' H' (st.frz d fun a z => let ⟨_, o, e, _⟩ := r.own a z; ⟨o, e⟩) r.frz (t.trans tf) (h'.from KV.refl tf)
/-- other wishes at the next statement -/
theorem FlW.nx {V : VS} {F O : AS} {H : Hp} {fl : Fl} {D' : Ends} (h : FlW c W g D V F O H fl) (hn : ∀ σ, fl = .next σ → ∀ V' F' Ls' H', St c F' Ls' H' σ V' → KV g V V' → Tr F O H F' (Own Ls') H' → D'.nx V' H')
    (h1 : D'.rt = D.rt) (h2 : D'.bk = D.bk) (h3 : D'.ct = D.ct) : FlW c W g D' V F O H fl := by
  cases fl with
  | next σ' => exact hn σ' rfl
  | ret s σ' => simp only [FlW, h1] at h ⊢; exact h
  | brk σ' => simp only [FlW, h2] at h ⊢; exact h
  | cnt σ' => simp only [FlW, h3] at h ⊢; exact h
  | exc e σ' => exact h
  | stuck => exact h
end
section
variable (c : Cfg) (g : Ctx) (W : WX)
def tS (s : S) : TS := fun D V H => ∃ σ F Ls, St c F Ls H σ V ∧ FlW c W g D V F (Own Ls) H (s.run g σ)
def tSs (s : Ss) : TS := fun D V H => ∃ σ F Ls, St c F Ls H σ V ∧ FlW c W g D V F (Own Ls) H (s.runs g σ)
end
section
variable {c : Cfg} {g : Ctx} {W : WX} {X : Cx} {pos : Pos}
theorem ss_nil : PSs X [] (tSs c g W .nil) := pss_nil.imp fun D V H ⟨σ, F, Ls, s, h⟩ => by
  simp only [Ss.runs] at h
  exact h V F Ls H s KV.refl Tr.refl
theorem ss_cons {s : S} {ss : Ss} {st : Stmt} {rest : List Stmt} (h1 : PS X st (tS c g W s)) (h2 : PSs X rest (tSs c g W ss)) : PSs X (st :: rest) (tSs c g W (.cons s ss)) :=
  (pss_cons h1 h2).imp fun D V H ⟨σ, F, Ls, s0, h⟩ => by
    simp only [Ss.runs] at h
    refine ⟨σ, F, Ls, s0, ?_⟩
    cases e : s.run g σ with
    | next σ' =>
      rw [e] at h
      exact fun V' F' Ls' H' s' k t => ⟨σ', F', Ls', s', FlW.from h k t⟩
    | ret r σ' => rw [e] at h; exact h
    | brk σ' => rw [e] at h; exact h
    | cnt σ' => rw [e] at h; exact h
    | exc x σ' => rw [e] at h; exact h
    | stuck => rw [e] at h; exact h
/-- a docstring -/
theorem ss_doc {x j p p'} {rest : List Stmt} {ss : Ss} (h2 : PSs X rest (tSs c g W ss)) : PSs X (.Expr (.Constant (.str x) j p) p' :: rest) (tSs c g W ss) :=
  (pss_cons ps_doc h2).imp fun D V H h => h
theorem s_pass : PS X (.Pass pos) (tS c g W .pass) := ps_pass.imp fun D V H ⟨σ, F, Ls, s, h⟩ => by
  simp only [S.run] at h
  exact h V F Ls H s KV.refl Tr.refl
theorem s_brk : PS X (.Break pos) (tS c g W .brk) := ps_break.imp fun D V H ⟨σ, F, Ls, s, h⟩ => by
  simp only [S.run] at h
  exact h V F Ls H s KV.refl Tr.refl
theorem s_cnt : PS X (.Continue pos) (tS c g W .cnt) := ps_continue.imp fun D V H ⟨σ, F, Ls, s, h⟩ => by
  simp only [S.run] at h
  exact h V F Ls H s KV.refl Tr.refl
theorem s_if {k : E} {a b : Ss} {ek : Expr} {ea eb : List Stmt} (hk : PT X ek (tTst c g W k)) (ha : PSs X ea (tSs c g W a)) (hb : PSs X eb (tSs c g W b)) : PS X (.If ek ea eb pos) (tS c g W (.iff k a b)) :=
  (ps_if hk ha hb).imp fun D V H ⟨σ, F, Ls, s, h⟩ => by
    simp only [S.run] at h
    refine ⟨σ, F, Ls, s, h.rw.imp fun b σ' F' Ls' H' s' t h' => ?_⟩
    dsimp only at h'
    cases b with
    | true => exact iteT ⟨σ', F', Ls', s', h'⟩
    | false => exact iteF ⟨σ', F', Ls', s', h'⟩
/-- the stores -/
theorem St.putAny {F : AS} {Ls : Nat → AS} {H : Hp} {σ : Env} {V : VS} {i : Nat} {t : Slot} {x : L2.V} {S : AS} (s : St c F Ls H σ V) (r : RpS c F H t x S) (hd : ∀ a, S a → ¬ Own Ls a) :
    ∃ Ls', St c F Ls' H (σ.set i (some t)) (V.set i (some x)) ∧ ∀ a, Own Ls' a → Own Ls a ∨ S a := by
  by_cases hi : i < σ.length
  · exact ⟨_, s.put hi r fun a sa ⟨j, _, z⟩ => hd a sa ⟨j, z⟩, fun a z => setL_own z⟩
  · have h1 : σ.set i (some t) = σ := List.set_eq_of_length_le (by omega)
    have h2 : V.set i (some x) = V := List.set_eq_of_length_le (by rw [← s.len]; omega)
    rw [h1, h2]
    exact ⟨Ls, s, fun a z => .inl z⟩
theorem okPut_one {i : Nat} (h : okPut g [i] = true) : g.mine.contains i = false := by
  simpa [okPut] using h
theorem s_set {i : Nat} {x : Str} {e : E} {ee : Expr} {p : Pos} (hN : X.N.Nodup) (hi : X.N[i]? = some x) (hx : Loc X.env.scope x) (he : PE X ee (tEv c g W e)) (hs : swapsWith ee (some (.Name x p)) pos.line X.env = pure false) (hf : X.fn x = true ∨ X.env.scope.names.lookup x = some .local) :
    PS X (.Assign [.Name x p] ee pos) (tS c g W (.asg (.var i) e)) :=
  (ps_set hN hi hx he hs hf).imp fun D V H ⟨σ, F, Ls, s, h⟩ => by
    simp only [S.run] at h
    split at h
    · rename_i ok
      refine ⟨σ, F, Ls, s, h.ev fun t σ' y S F' Ls' H' s' r d tr h' => ?_⟩
      simp only [T.put] at h'
      obtain ⟨L2, s2, o2⟩ := s'.putAny (i := i) r d
      exact h' _ F' L2 H' s2 (KV.set (okPut_one (by simpa [T.ixs] using ok))) (Tr.refl.sub o2)
    · exact h.elim
/-! ### targets -/
/-- what stands outside is kept -/
def Out_ (is : List Nat) (V V' : VS) : Prop := ∀ i, is.contains i = false → V'[i]? = V[i]?
def tG (c : Cfg) (t : T) : TG := fun x V H Q => ∃ σ F Ls s S σ', St c F Ls H σ V ∧ RpS c F H s x S ∧ (∀ a, S a → ¬ Own Ls a) ∧ t.put s σ = some σ' ∧
  ∀ V' Ls', St c F Ls' H σ' V' → Out_ t.ixs V V' → (∀ a, Own Ls' a → Own Ls a ∨ S a) → Q V' H
def tGs (c : Cfg) (ts : Ts) : TGs := fun xs V H Q => ∃ σ F Ls vs σ', St c F Ls H σ V ∧ Rps c F H vs xs ∧ ts.puts vs σ = some σ' ∧
  ∀ V' Ls', St c F Ls' H σ' V' → Out_ ts.ixs V V' → (∀ a, Own Ls' a → Own Ls a) → Q V' H
theorem _root_.L2.PG.imp {X : Cx} {e : Expr} {t t' : TG} (h : PG X e t) (i : ∀ x V H Q, t' x V H Q → t x V H Q) : PG X e t' := ⟨fun pins s σ H v u Q I r q => h.run pins s σ H v u Q I r (i v σ H Q q)⟩
theorem _root_.L2.PGs.imp {X : Cx} {e : List Expr} {t t' : TGs} (h : PGs X e t) (i : ∀ x V H Q, t' x V H Q → t x V H Q) : PGs X e t' := ⟨fun pins s σ H v u Q I r q => h.run pins s σ H v u Q I r (i v σ H Q q)⟩
theorem g_var {i : Nat} {x : Str} {p : Pos} (hN : X.N.Nodup) (hi : X.N[i]? = some x) (hx : Loc X.env.scope x) (hf : X.fn x = true ∨ X.env.scope.names.lookup x = some .local) : PG X (.Name x p) (tG c (.var i)) :=
  (pg_name hN hi hx hf).imp fun y V H Q ⟨σ, F, Ls, s, S, σ', st, r, d, e, q⟩ => by
    simp only [T.put, Option.some.injEq] at e
    subst e
    obtain ⟨L2, s2, o2⟩ := st.putAny (i := i) r d
    refine q _ L2 s2 (fun j hj => ?_) o2
    simp only [T.ixs, List.contains_cons, List.contains_nil, Bool.or_false, beq_eq_false_iff_ne] at hj
    rw [List.getElem?_set_ne (Ne.symm hj)]
theorem gs_nil : PGs X [] (tGs c .nil) := pgs_nil.imp fun xs V H Q ⟨σ, F, Ls, vs, σ', st, r, e, q⟩ => by
  cases vs with
  | nil =>
    simp only [Ts.puts, Option.some.injEq] at e
    subst e
    simp only [Rps] at r
    exact ⟨r, q V Ls st (fun _ _ => rfl) fun _ z => z⟩
  | cons v vs => simp [Ts.puts] at e
theorem asg_star {e : Expr} {es : List Expr} {env : PySem.Env} (h : notStar e = true) : assignEach (e :: es) env = (false, assign e env) :: assignEach es env := by
  cases e <;> first | (cases h; done) | (unfold assignEach; rfl) | (simp only [assignEach])
theorem gs_cons {t : T} {ts : Ts} {e : Expr} {es : List Expr} (hs : notStar e = true) (h1 : PG X e (tG c t)) (h2 : PGs X es (tGs c ts)) : PGs X (e :: es) (tGs c (.cons t ts)) :=
  (pgs_cons h1 h2 (by rw [asg_star hs]; rfl)).imp fun xs V H Q ⟨σ, F, Ls, vs, σ', st, r, e, q⟩ => by
    cases vs with
    | nil => simp [Ts.puts] at e
    | cons v vs =>
      simp only [Rps] at r
      obtain ⟨x, r', rfl, rx, rr⟩ := r
      simp only [Ts.puts] at e
      obtain ⟨σ1, e1, e2⟩ := Option.bind_eq_some_iff.mp e
      refine ⟨x, r', rfl, σ, F, Ls, _, _, σ1, st, RpS.v rx, fun _ z => z.elim, e1, fun V1 L1 s1 o1 w1 => ?_⟩
      refine ⟨σ1, F, L1, vs, σ', s1, rr, e2, fun V2 L2 s2 o2 w2 => ?_⟩
      refine q V2 L2 s2 (fun j hj => ?_) fun a z => (w1 a (w2 a z)).elim id False.elim
      simp only [Ts.ixs, List.contains_eq_mem, List.mem_append, decide_eq_false_iff_not, not_or] at hj
      exact (o2 j (by simpa using hj.2)).trans (o1 j (by simpa using hj.1))
def Ts.len : Ts → Nat
  | .nil => 0
  | .cons _ ts => ts.len + 1
theorem puts_len : ∀ {ts : Ts} {vs : List Val} {σ σ' : Env}, ts.puts vs σ = some σ' → vs.length = ts.len
  | .nil, [], _, _, _ => rfl
  | .nil, _ :: _, _, _, e => by simp [Ts.puts] at e
  | .cons t ts, [], _, _, e => by simp [Ts.puts] at e
  | .cons t ts, v :: vs, σ, σ', e => by
    simp only [Ts.puts] at e
    obtain ⟨σ1, e1, e2⟩ := Option.bind_eq_some_iff.mp e
    simp [Ts.len, puts_len (ts := ts) e2]
theorem asg_len {env : PySem.Env} : ∀ {es : List Expr}, es.all notStar = true → (assignEach es env).length = es.length ∧ (assignEach es env).findIdx? (·.1) = none
  | [], _ => by simp [assignEach]
  | e :: es, h => by
    simp only [List.all_cons, Bool.and_eq_true] at h
    obtain ⟨i1, i2⟩ := asg_len (env := env) h.2
    rw [asg_star h.1]
    refine ⟨by simp [i1], ?_⟩
    rw [List.findIdx?_cons]
    simp [i2]
theorem g_tup {ts : Ts} {es : List Expr} {k : Nat} (hc : X.calm = true) (hK : X.K = c.K) (hs : es.all notStar = true) (hl : es.length = ts.len) (h : PGs X es (tGs c ts)) : PG X (.Tuple es k pos) (tG c (.tup ts)) :=
  (pg_tup (n := es.length) hc h (asg_len hs).1 (asg_len hs).2).imp fun x V H Q ⟨σ, F, Ls, s, S, σ', st, r, d, e, q⟩ => by
    simp only [T.put] at e
    split at e
    · rename_i vs ev
      have o : RpO c F H (.tup vs) x := ⟨s, S, ev, r⟩
      obtain ⟨a, xs, rfl, qt, rr⟩ := o.tup
      refine ⟨a, xs, rfl, by rw [hK]; exact qt, by rw [← rr.length, puts_len e, hl], σ, F, Ls, vs, σ', st, rr, e, fun V' L' s' o' w' => ?_⟩
      exact q V' L' s' (by simpa only [T.ixs] using o') fun a z => .inl (w' a z)
    · cases e
theorem out_kv {is : List Nat} {V V' : VS} (h : okPut g is = true) (o : Out_ is V V') : KV g V V' := fun i hi => o i (by
  by_cases hc : is.contains i = true
  · simp only [okPut, List.all_eq_true] at h
    have := h i (by simpa using hc)
    simp only [Bool.not_eq_true'] at this
    have h2 : g.mine.contains i = true := by simpa using hi
    rw [h2] at this; cases this
  · simpa using hc)
/-- target = value, the stores in the text's order -/
theorem s_asg {t : T} {e : E} {tg ee : Expr} (hs : notStar tg = true) (he : PE X ee (tEv c g W e)) (hg : PG X tg (tG c t)) (h1 : swapsWithSole [tg] ee pos.line X.env = pure false) (h2 : swappedStores [tg] ee X.env = pure none) :
    PS X (.Assign [tg] ee pos) (tS c g W (.asg t e)) :=
  (ps_asg he hg h1 h2 (by rw [asg_star hs]; rfl)).imp fun D V H ⟨σ, F, Ls, s, h⟩ => by
    simp only [S.run] at h
    split at h
    · rename_i ok
      refine ⟨σ, F, Ls, s, h.ev fun u σ' y S F' Ls' H' s' r d tr h' => ?_⟩
      dsimp only at h'
      split at h'
      · rename_i σ2 e2
        exact ⟨σ', F', Ls', u, S, σ2, s', r, d, e2, fun V' L' s2 o2 w2 => h' V' F' L' H' s2 (out_kv ok o2) (Tr.refl.sub w2)⟩
      · exact h'.elim
    · exact h.elim
/-! ### return, raise, an expression alone -/
theorem s_ret {e : E} {ee : Expr} (hv : ∀ i, e = .var i → g.mine.contains i = true) (he : PE X ee (tEv c g W e)) : PS X (.Return (some ee) pos) (tS c g W (.ret e)) :=
  (ps_ret he).imp fun D V H ⟨σ, F, Ls, s, h⟩ => by
    have h' : FlW c W g D V F (Own Ls) H ((e.ev g σ).fl fun p => .ret p.1 p.2) := by
      cases e with
      | var i =>
        simp only [S.run] at h
        rw [hv i rfl] at h
        exact h
      | _ => simp only [S.run] at h; exact h
    exact ⟨σ, F, Ls, s, h'.ev fun u σ' y S F' Ls' H' s' r d tr h2 => h2 y S V F' Ls' H' s' KV.refl r d Tr.refl⟩
theorem s_retN : PS X (.Return none pos) (tS c g W (.ret .non)) := ps_retN.imp fun D V H ⟨σ, F, Ls, s, h⟩ => by
  simp only [S.run, E.ev, R.fl] at h
  exact h .non (fun _ => False) V F Ls H s KV.refl (RpS.v (by simp only [Rp])) (fun _ z => z.elim) (Tr.refl.sub fun _ z => z.elim id False.elim)
theorem s_retV {i : Nat} {x : Str} {p : Pos} (hm : g.mine.contains i = false) (hN : X.N[i]? = some x) (hv : Vis X.env.scope x) (hd : (x == ("__debug__" : Str)) = false) (hcd : (x == ("__classdict__" : Str)) = false) : PS X (.Return (some (.Name x p)) pos) (tS c g W (.ret (.var i))) :=
  (ps_ret (pe_var hN hv hd hcd)).imp fun D V H ⟨σ, F, Ls, s, h⟩ => by
    simp only [S.run, hm, Bool.false_eq_true, if_false, rdP] at h
    cases e1 : (σ[i]?).join with
    | none => rw [e1] at h; exact h.elim
    | some t =>
      rw [e1] at h
      obtain ⟨y, ex, r⟩ := s.rel i t (join_some e1)
      refine ⟨y, ex, h y (Ls i) V F _ H s.drop KV.refl r (fun a z ⟨j, q⟩ => ?_) (Tr.refl.sub fun a z => ?_)⟩
      · unfold setL at q
        split at q
        · exact q
        · rename_i hj; exact hj (s.dis j i a q z)
      · rcases z with z | z
        · exact (setL_own z).elim id False.elim
        · exact ⟨i, z⟩
theorem s_ex {e : E} {ee : Expr} (he : PE X ee (tEv c g W e)) (hs : swapsWith ee none pos.line X.env = pure false) : PS X (.Expr ee pos) (tS c g W (.ex e)) :=
  (ps_expr he hs).imp fun D V H ⟨σ, F, Ls, s, h⟩ => by
    simp only [S.run] at h
    refine ⟨σ, F, Ls, s, h.evF fun u σ' y F' Ls' H' s' r tr h2 => ?_⟩
    exact h2 V F' Ls' H' s' KV.refl Tr.refl
/-- what a class that is raised must say -/
def RaiseOk (c : Cfg) (mg : Str → Option Value) (e : String) : Prop :=
  mg (Str.ofString e) = some (.ref (c.cA e)) ∧ (Str.ofString e == ("__debug__" : Str)) = false ∧ (∃ bmB B newId initId, ExcBaseFacts B newId initId bmB ∧ PySem.W.excIn c.K (c.cA e) bmB newId = true) ∧ PySem.W.keepIn c.K (.ref (c.cA e)) = true ∧
    PySem.W.subIn c.K (.ref (c.cA e)) (.type "BaseException") = some true ∧ PySem.W.typeIn c.K (.ref (c.cA e)) = some (.type "type")
theorem s_raise {e : String} {m : Str} {j : Nat} {p p2 p3 : Pos} (hK : X.K = c.K) (hc : X.calm = true) (tk : Takes X W) (hg : Gl X (Str.ofString e)) (h : RaiseOk c X.mg e) : PS X (.Raise (some (.Call (.Name (Str.ofString e) p) [.Constant (.str m) j p2] [] p3)) none pos) (tS c g W (.raise e)) := by
  obtain ⟨h1, h2, ⟨bmB, B, nI, iI, F, h3⟩, h4, h5, h6⟩ := h
  rw [← hK] at h3 h4 h5 h6
  exact (ps_raise hc tk (pmk_own F h3 h1 h4 (raises_own h5 h6) hg h2)).imp fun D V H ⟨σ, F, Ls, s, h⟩ => by
    simp only [S.run] at h
    exact h V F Ls H s KV.refl Tr.refl
end
end PL
/-! PH: loops, append, try. -/
namespace PL
open PySem PySem.Spec PyProof.Rows L2
theorem Sb.trans {F : AS} {H1 H2 H3 : Hp} (a : Sb F H1 H2) (b : Sb F H2 H3) : Sb F H1 H3 := ⟨fun p u f r => b.rd p u f (a.rd p u f r), fun p xs f r => b.tup p xs f (a.tup p xs f r), fun p C dx fs f r => b.ins p C dx fs f (a.ins p C dx fs f r)⟩
theorem Sb.anti {F G : AS} {H1 H2 : Hp} (a : Sb F H1 H2) (h : ∀ p, G p → F p) : Sb G H1 H2 := ⟨fun p u f r => a.rd p u (h p f) r, fun p xs f r => a.tup p xs (h p f) r, fun p C dx fs f r => a.ins p C dx fs (h p f) r⟩
/-- what an iterator gives -/
def Gen (c : Cfg) (F : AS) (H : Hp) (J : It) (vs : List Val) : Prop := ∀ F' H', (∀ a, F a → F' a) → Sb F H H' → ∀ i, (vs.length ≤ i → J.stop i H') ∧ ∀ v, vs[i]? = some v → J.go i H' ∧
  ∀ x H2, J.yld i H' x H2 → (H2 = H' ∧ Rp c F' H' v x) ∨ (∃ p us xs, H' p = none ∧ H2 = upd H' p (.tup xs) ∧ x = .ref p ∧ v = .tup us ∧ Rps c F' H' us xs)
def tI (c : Cfg) (g : Ctx) (W : WX) (s : Src) : TI := fun V H R => ∃ σ F Ls, St c F Ls H σ V ∧ RW c W V F (Own Ls) H (s.evs g σ) fun xs σ' F' Ls' H' => ∀ J, Gen c F' H' J xs → R J H'
theorem _root_.L2.PI.imp {X : Cx} {tg e : Expr} {t t' : TI} (h : PI X tg e t) (i : ∀ V H R, t' V H R → t V H R) : PI X tg e t' := ⟨fun pins s σ H R I q => h.run pins s σ H R I (i σ H R q)⟩
section
variable {c : Cfg} {g : Ctx} {W : WX} {X : Cx} {pos : Pos} {tg : Expr}
theorem gen_list {F : AS} {H : Hp} {a : Addr} {vs : List Val} {xs : List L2.V} (f : F a) (r : Rd H a (.lst xs)) (q : Rps c F H vs xs) : Gen c F H (Itl c.K a) vs := fun F' H' hF sb i => by
  have h : SqL c.K H' a xs := .inl (sb.rd a _ f r)
  have q' := q.mono hF sb
  refine ⟨fun hi => ⟨xs, h, by rw [← q.length]; exact hi⟩, fun v ev => ?_⟩
  obtain ⟨x, ex, rx⟩ := q'.get ev
  refine ⟨⟨xs, x, h, ex⟩, fun y H2 ⟨e1, e2⟩ => .inl ⟨e1, ?_⟩⟩
  have e3 := e2 xs h
  rw [ex] at e3
  cases e3
  exact rx
theorem gen_tup {F : AS} {H : Hp} {a : Addr} {vs : List Val} {xs : List L2.V} (r : (H a = some (.tup xs) ∧ F a) ∨ SqT c.K noH a xs) (q : Rps c F H vs xs) : Gen c F H (Itt c.K a) vs := fun F' H' hF sb i => by
  have h : SqT c.K H' a xs := by
    rcases r with ⟨r, f⟩ | r
    · exact .inl (.inl (sb.tup a xs f r))
    · exact SqT.noH r
  have q' := q.mono hF sb
  refine ⟨fun hi => ⟨xs, h, by rw [← q.length]; exact hi⟩, fun v ev => ?_⟩
  obtain ⟨x, ex, rx⟩ := q'.get ev
  refine ⟨⟨xs, x, h, ex⟩, fun y H2 ⟨e1, e2⟩ => .inl ⟨e1, ?_⟩⟩
  have e3 := e2 xs h
  rw [ex] at e3
  cases e3
  exact rx
theorem gen_range {F : AS} {H : Hp} (a b : Int) : Gen c F H (Itr a (b - a).toNat) (rangeL a b) := fun F' H' hF sb i => by
  refine ⟨fun hi => ?_, fun v ev => ?_⟩
  · have : (rangeL a b).length = (b - a).toNat := by simp [rangeL]
    rw [this] at hi
    exact hi
  · unfold rangeL at ev
    rw [List.getElem?_map] at ev
    obtain ⟨k, ek, ev⟩ := Option.map_eq_some_iff.mp ev
    have hk := List.getElem?_range (n := (b - a).toNat) (i := i)
    by_cases hi : i < (b - a).toNat
    · rw [hk hi] at ek
      cases ek
      refine ⟨hi, fun x H2 ⟨e1, e2⟩ => .inl ⟨e1, ?_⟩⟩
      rw [← ev]
      simp only [Rp]
      exact e2
    · rw [List.getElem?_eq_none (by simpa using hi)] at ek
      cases ek
/-- a list or a tuple, walked -/
def iSeq (K : PySem.W.Frag) (te : TE) : TI := fun V H R => te V H fun x H1 => (∃ a xs, x = .ref a ∧ SqL K H1 a xs ∧ R (Itl K a) H1) ∨ (∃ a xs, x = .ref a ∧ SqT K H1 a xs ∧ R (Itt K a) H1)
theorem pi_seq {l : Expr} {tl : TE} (hl : PE X l tl) : PI X tg l (iSeq X.K tl) := by
  refine ⟨fun pins s σ H R I h => ?_⟩
  refine thn (hl.run pins s σ H _ I h) fun v s1 ⟨x, H1, I1, r1, q1⟩ => ?_
  rcases q1 with ⟨a, xs, e, hq, q⟩ | ⟨a, xs, e, hq, q⟩
  · subst e
    cases r1
    obtain ⟨its, rv, p, hz⟩ := I1.list hq
    refine wpAny_pyIter_list p.isList ?_
    refine ⟨s1.heap.objs.size, [s1.heap.objs.size], _, _, H1, rfl, I1.kept (t' := s1.toks) fun b o e => Heap.get?_push_of_some _ e, turn_list a _, ⟨_, Heap.get?_push_size _ rfl, rfl, rfl⟩, fun b hb => ?_, q⟩
    have e : b = s1.heap.objs.size := by simpa using hb
    subst e
    exact I1.fpOk (Nat.le_refl _) (I1.hok.fresh (Nat.le_refl _))
  · subst e
    cases r1
    obtain ⟨its, rv, p, hz⟩ := I1.tuple hq
    refine wpAny_pyIter_tuple (show s1.heap.IsTuple a its.toArray from p) ?_
    refine ⟨s1.heap.objs.size, [s1.heap.objs.size], _, _, H1, rfl, I1.kept (t' := s1.toks) fun b o e => Heap.get?_push_of_some _ e, turn_tuple a _, ⟨_, Heap.get?_push_size _ rfl, rfl, rfl⟩, fun b hb => ?_, q⟩
    have e : b = s1.heap.objs.size := by simpa using hb
    subst e
    exact I1.fpOk (Nat.le_refl _) (I1.hok.fresh (Nat.le_refl _))
theorem i_it {e : E} {ee : Expr} (hK : X.K = c.K) (he : PE X ee (tEv c g W e)) : PI X tg ee (tI c g W (.it e)) :=
  (pi_seq he).imp fun V H R ⟨σ, F, Ls, s, r⟩ => by
    simp only [Src.evs] at r
    refine ⟨σ, F, Ls, s, r.bindS fun t σ' x F' Ls' H' s' rx h => ?_⟩
    dsimp only at h
    split at h
    · rename_i vs ev
      have h2 := h.fin s'
      rw [hK]
      cases hz : t.fz with
      | lst us =>
        rw [hz] at ev rx
        cases ev
        simp only [Rp] at rx
        obtain ⟨a, xs, e, f, rd, q⟩ := rx
        exact .inl ⟨a, xs, e, .inl rd, h2 _ (gen_list f rd q)⟩
      | tup us =>
        rw [hz] at ev rx
        cases ev
        simp only [Rp] at rx
        obtain ⟨a, xs, e, rd, q⟩ := rx
        exact .inr ⟨a, xs, e, rd.elim (fun z => .inl (.inl z.1)) SqT.noH, h2 _ (gen_tup rd q)⟩
      | _ => rw [hz] at ev; cases ev
    · exact h.elim
theorem star_one {e : Expr} {env : PySem.Env} (h : notStar e = true) : starEach [e] env = [(false, eval e env)] := by rw [star_cons h]; rfl
theorem inR_iff {i : Int} (h : inR i = true) : -(2 ^ 62) ≤ i ∧ i < 2 ^ 62 := by simpa [inR] using h
theorem i_r1 {e : E} {ee : Expr} {p : Pos} (hg : Gl X ("range" : Str)) (hm : X.mg ("range" : Str) = none) (hs : notStar ee = true) (he : PE X ee (tPre c g W e)) : PI X tg (.Call (.Name ("range" : Str) p) [ee] [] pos) (tI c g W (.r1 e)) :=
  (pi_range1 hg hm (pa_cons he pa_nil (star_cons hs)) (star_one hs)).imp fun V H R ⟨σ, F, Ls, s, r⟩ => by
    simp only [Src.evs] at r
    refine ⟨σ, F, Ls, s, (RW.bind r).imp fun q σ1 F1 Ls1 H1 s1 t1 h1 x rx => ?_⟩
    dsimp only at h1
    split at h1
    · rename_i i ei
      obtain ⟨ox, _⟩ := fill1 s1 rx ei
      split at h1
      · rename_i hi
        obtain ⟨b1, b2⟩ := inR_iff hi
        have h2 := h1.fin s1 _ (gen_range 0 i)
        rw [Int.sub_zero] at h2
        exact ⟨i, by rw [ox.int], b1, b2, h2⟩
      · exact h1.elim
    · exact h1.elim
theorem i_r2 {e e2 : E} {ee ee2 : Expr} {p : Pos} (hg : Gl X ("range" : Str)) (hm : X.mg ("range" : Str) = none) (hs : notStar ee = true) (hs2 : notStar ee2 = true) (he : PE X ee (tPre c g W e)) (he2 : PE X ee2 (tPre c g W e2)) :
    PI X tg (.Call (.Name ("range" : Str) p) [ee, ee2] [] pos) (tI c g W (.r2 e e2)) :=
  (pi_range2 hg hm (pa_cons he (pa_cons he2 pa_nil (star_cons hs2)) (star_cons hs)) (by rw [star_cons hs, star_one hs2]) (star_one hs2)).imp fun V H R ⟨σ, F, Ls, s, r⟩ => by
    simp only [Src.evs] at r
    refine ⟨σ, F, Ls, s, (RW.bind r).imp fun q σ1 F1 Ls1 H1 s1 t1 h1 x rx => ?_⟩
    refine ⟨σ1, F1, Ls1, s1, (RW.bind h1).imp fun q2 σ2 F2 Ls2 H2 s2 t2 h2 y ry => ?_⟩
    dsimp only at h2
    split at h2
    · rename_i i j ei
      obtain ⟨ox, oy, _⟩ := fill2 s2 (RelPre.mono rx t2.mono (s1.tr_sb t2)) ry ei
      split at h2
      · rename_i hi
        rw [Bool.and_eq_true] at hi
        obtain ⟨b1, b2⟩ := inR_iff hi.1
        obtain ⟨b3, b4⟩ := inR_iff hi.2
        exact ⟨i, j, by rw [ox.int, oy.int], ⟨b1, b2, b3, b4⟩, h2.fin s2 _ (gen_range i j)⟩
      · exact h2.elim
    · exact h2.elim
/-! ### for -/
/-- where a loop stands -/
def LoopAt (c : Cfg) (W : WX) (g : Ctx) (D : Ends) (V0 : VS) (F0 : AS) (H0 : Hp) (f : Val → Env → Fl) (xs : List Val) (V : VS) (H : Hp) : Prop :=
  ∃ σ F Ls, St c F Ls H σ V ∧ (∀ a, F0 a → F a) ∧ Sb F0 H0 H ∧ KV g V0 V ∧ FlW c W g D V F (Own Ls) H (loopF f xs σ)
theorem s_for {t : T} {s : Src} {b : Ss} {iter : Expr} {body : List Stmt} (hp : PassesOwn (model X.prog X.w) X.A X.env X.xe) (hc : X.calm = true) (hi : PI X tg iter (tI c g W s)) (hg : PG X tg (tG c t)) (hb : PSs X body (tSs c g W b)) (hs : ∀ x, foldedSetIterable iter X.env x = pure x) :
    PS X (.For tg iter body [] pos) (tS c g W (.fr t s b)) :=
  (ps_for hp hc hi hg hb hs).imp fun D V H ⟨σ, F, Ls, s0, h⟩ => by
    simp only [S.run] at h
    split at h
    · rename_i ok
      refine ⟨σ, F, Ls, s0, h.rw.imp fun xs σ1 F1 Ls1 H1 s1 t1 h1 J gen => ?_⟩
      dsimp only at h1
      generalize hf : (fun (v : Val) (σ : Env) => (match t.put (Slot.v v) σ with
        | some σ' => b.runs g σ'
        | none => Fl.stuck)) = f at h1
      refine ⟨fun i m V' H' => m = xs.length - i ∧ LoopAt c W g D V F1 H1 f (xs.drop i) V' H', ⟨xs.length, by simp, σ1, F1, Ls1, s1, fun _ z => z, Sb.refl, KV.refl, by simpa using h1⟩, ?_⟩
      rintro i m V' H' ⟨rfl, σ', F', Ls', s', hF, hsb, hk, h'⟩
      obtain ⟨g1, g2⟩ := gen F' H' hF hsb i
      by_cases hlt : i < xs.length
      · right
        have ev : xs[i]? = some xs[i] := List.getElem?_eq_getElem hlt
        obtain ⟨g3, g4⟩ := g2 _ ev
        refine ⟨g3, LoopAt c W g D V F1 H1 f (xs.drop (i + 1)), fun V2 H2 q => ⟨_, by omega, rfl, q⟩, fun x H2 y => ?_⟩
        rw [List.drop_eq_getElem_cons hlt] at h'
        simp only [loopF] at h'
        -- the store, the body
        have key : ∀ F2 L2 H2 V2, St c F2 L2 H2 σ' V2 → KV g V V2 → (∀ a, F1 a → F2 a) → Sb F1 H1 H2 → Rp c F2 H2 xs[i] x →
            FlW c W g D V2 F2 (Own L2) H2 (match f xs[i] σ' with
              | .next σ' => loopF f (xs.drop (i + 1)) σ'
              | .cnt σ' => loopF f (xs.drop (i + 1)) σ'
              | .brk σ' => .next σ'
              | fl => fl) →
            tG c t x V2 H2 fun σ2 H2 => tSs c g W b { D with nx := LoopAt c W g D V F1 H1 f (xs.drop (i + 1)), ct := LoopAt c W g D V F1 H1 f (xs.drop (i + 1)), bk := D.nx } σ2 H2 := by
          intro F2 L2 H2 V2 s2 k2 hF2 sb2 rx h2
          have e0 : f xs[i] σ' = (match t.put (Slot.v xs[i]) σ' with
            | some σ' => b.runs g σ'
            | none => Fl.stuck) := by rw [← hf]
          rw [e0] at h2
          cases e : t.put (Slot.v xs[i]) σ' with
          | none => rw [e] at h2; exact h2.elim
          | some σ3 =>
            rw [e] at h2
            dsimp only at h2
            refine ⟨σ', F2, L2, _, _, σ3, s2, RpS.v rx, fun _ z => z.elim, e, fun V3 L3 s3 o3 w3 => ?_⟩
            have k3 : KV g V2 V3 := out_kv ok o3
            have t3 : Tr F2 (Own L2) H2 F2 (Own L3) H2 := Tr.refl.sub fun a z => (w3 a z).elim id False.elim
            have h3 := FlW.from h2 k3 t3
            refine ⟨σ3, F2, L3, s3, ?_⟩
            have nextOf : ∀ σ4, (∀ V' F' Ls' H', St c F' Ls' H' σ4 V' → KV g V3 V' → Tr F2 (Own L3) H2 F' (Own Ls') H' → FlW c W g D V' F' (Own Ls') H' (loopF f (xs.drop (i + 1)) σ4)) →
                ∀ V' F' Ls' H', St c F' Ls' H' σ4 V' → KV g V3 V' → Tr F2 (Own L3) H2 F' (Own Ls') H' → LoopAt c W g D V F1 H1 f (xs.drop (i + 1)) V' H' := fun σ4 q V4 F4 L4 H4 s4 k4 t4 =>
              ⟨σ4, F4, L4, s4, fun a z => t4.mono a (hF2 a z), sb2.trans ((s3.tr_sb t4).anti hF2), (k2.trans k3).trans k4, q V4 F4 L4 H4 s4 k4 t4⟩
            cases e4 : b.runs g σ3 with
            | next σ4 => rw [e4] at h3; exact nextOf σ4 fun V4 F4 L4 H4 s4 k4 t4 => FlW.from h3 k4 t4
            | cnt σ4 => rw [e4] at h3; exact nextOf σ4 fun V4 F4 L4 H4 s4 k4 t4 => FlW.from h3 k4 t4
            | brk σ4 => rw [e4] at h3; exact h3
            | ret r σ4 => rw [e4] at h3; exact h3
            | exc x σ4 => rw [e4] at h3; exact h3
            | stuck => rw [e4] at h3; exact h3
        rcases g4 x H2 y with ⟨rfl, rx⟩ | ⟨p, us, ys, hpn, rfl, rfl, ev2, rr⟩
        · exact key F' Ls' _ V' s' hk hF hsb rx h'
        · refine key (addF F' p) Ls' _ V' (s'.newF hpn) hk (fun a z => .inl (hF a z)) (hsb.trans (Sb.new hpn)) ?_ (FlW.from h' KV.refl (Tr.newF hpn))
          rw [ev2]
          simp only [Rp]
          exact ⟨p, ys, rfl, .inl ⟨upd_same, .inr rfl⟩, rr.mono (fun _ z => .inl z) (Sb.new hpn)⟩
      · left
        have hd : xs.drop i = [] := List.drop_eq_nil_of_le (by omega)
        rw [hd] at h'
        simp only [loopF] at h'
        exact ⟨g1 (by omega), h' V' F' Ls' H' s' KV.refl Tr.refl⟩
    · exact h.elim
end
end PL
/-! PJ: append, try, defs. -/
namespace PL
open PySem PySem.Spec PyProof.Rows L2
section
variable {c : Cfg} {g : Ctx} {W : WX} {X : Cx} {pos : Pos}
theorem attr_base {e : Expr} {f : Str} {env : PySem.Env} {w : Sem PySem.Value} (h : (match e with
    | .Call _ _ _ _ => false
    | _ => true) = true) : attributeBase e f env w = w := by
  unfold attributeBase
  cases e <;> first | (cases h; done) | rfl
theorem few_one {e : Expr} {cpos : Pos} {env : PySem.Env} (h : notStar e = true) : ((backTo cpos (starEach [e] env)).all (fun x => !x.1) && (backToKw cpos (keywordEach [] env)).all (fun x => x.1.isSome)
      && decide (([e] : List Expr).length + ([] : List Keyword).length + (if ([] : List Keyword).isEmpty then 0 else 1) < 30)) = true := by
  rw [star_one h]
  rfl
/-- a list that a name alone holds takes another content -/
theorem St.wr {F : AS} {Ls : Nat → AS} {H : Hp} {σ : Env} {V : VS} {i : Nat} {vs vs' : List Val} {a : Addr} {xs ys : List L2.V} (s : St c F Ls H σ V) (e : σ[i]? = some (some (.ml vs))) (ev : V[i]? = some (some (.ref a))) (hH : H a = some (.lst xs)) (nf : ¬ F a) (hl : ∀ b, Ls i b ↔ b = a) (r : Rps c F H vs' ys) :
    St c F Ls (upd H a (.lst ys)) (σ.set i (some (.ml vs'))) V ∧ Tr F (Own Ls) H F (Own Ls) (upd H a (.lst ys)) := by
  have own : Own Ls a := ⟨i, (hl a).mpr rfl⟩
  have hi := lt_of_some e
  have keepF : ∀ b o, F b → H b = some o → upd H a (.lst ys) b = some o := fun b o f h => by
    have hne : b ≠ a := fun z => nf (by rw [← z]; exact f)
    rw [upd_ne hne]; exact h
  have sb : Sb F H (upd H a (.lst ys)) := Sb.of keepF
  refine ⟨⟨fun j t ej => ?_, fun j n b z => ?_, s.dis, by simp [s.len], fun b f => ?_⟩, ⟨fun b o h n => ?_, fun b f => f, fun b f => .inl f, fun b f => .inl f, fun b o h => ?_, fun b zs h => ?_⟩⟩
  · by_cases hj : j = i
    · subst hj
      rw [List.getElem?_set_self hi] at ej
      cases ej
      exact ⟨_, ev, a, ys, rfl, nf, upd_same, r.mono (fun _ f => f) sb, hl⟩
    · rw [List.getElem?_set_ne (Ne.symm hj)] at ej
      obtain ⟨x, e1, r1⟩ := s.rel j t ej
      refine ⟨x, e1, r1.mono (fun _ f => f) sb (fun b o z h => ?_) fun b z => (s.own b ⟨j, z⟩).1⟩
      rw [upd_ne (fun q => hj (s.dis j i b z (by rw [q]; exact (hl a).mpr rfl)))]
      exact h
  · by_cases hj : j = i
    · subst hj
      exact n _ (List.getElem?_set_self hi)
    · exact s.emp j (fun t q => n t (by rw [List.getElem?_set_ne (Ne.symm hj)]; exact q)) b z
  · obtain ⟨o, h⟩ := s.fr b f
    exact ⟨o, keepF b o f h⟩
  · have hne : b ≠ a := fun z => n (by rw [z]; exact own)
    rw [upd_ne hne]; exact h
  · by_cases z : b = a
    · subst z; exact ⟨_, upd_same⟩
    · exact ⟨o, by rw [upd_ne z]; exact h⟩
  · by_cases z : b = a
    · subst z; rw [hH] at h; cases h
    · rw [upd_ne z]; exact h
/-- the list that a name alone holds -/
theorem St.mlAt {F : AS} {Ls : Nat → AS} {H : Hp} {σ : Env} {V : VS} {i : Nat} {vs : List Val} (s : St c F Ls H σ V) (e : σ[i]? = some (some (.ml vs))) : ∃ a xs, V[i]? = some (some (.ref a)) ∧ H a = some (.lst xs) ∧ ¬ F a ∧ (∀ b, Ls i b ↔ b = a) ∧ Rps c F H vs xs := by
  obtain ⟨x, ex, a, xs, rfl, nf, hH, r, hs⟩ := s.rel i _ e
  exact ⟨a, xs, ex, hH, nf, hs, r⟩
theorem isMl_var {σ : Env} {i : Nat} (h : isMl (rdP σ (.var i)) = true) : ∃ vs, σ[i]? = some (some (.ml vs)) := by
  simp only [rdP] at h
  cases e : (σ[i]?).join with
  | none => rw [e] at h; cases h
  | some t =>
    rw [e] at h
    cases t with
    | mi _ _ => cases h
    | cl d => cases d with
      | ml vs => exact ⟨vs, join_some e⟩
      | v _ => cases h
      | md _ => cases h
theorem s_app {i : Nat} {x : Str} {e : E} {ee : Expr} {p p2 p3 : Pos} (hK : X.K = c.K) (hN : X.N[i]? = some x) (hv : Vis X.env.scope x) (hd : (x == ("__debug__" : Str)) = false) (hcd : (x == ("__classdict__" : Str)) = false) (hline : (p2.endLine == p3.line) = true) (hs : notStar ee = true) (he : PE X ee (tEv c g W e)) :
    PS X (.Expr (.Call (.Attribute (.Name x p) ("append" : Str) p2) [ee] [] p3) pos) (tS c g W (.app (.var i) e)) :=
  (ps_expr (pe_bm PySem.F.plainAttrs_list PySem.F.slot_list_append PySem.F.type_list_append mt_append (pe_var hN hv hd hcd) (pa_cons he pa_nil (star_cons hs)) (attr_base rfl) (few_one hs) hline (star_cons hs) (star_plain rfl)) rfl).imp fun D V H ⟨σ, F, Ls, s, h⟩ => by
    simp only [S.run] at h
    split at h
    · rename_i hm
      obtain ⟨vs0, e0⟩ := isMl_var hm
      obtain ⟨a, xs0, ev0, h0, _, _, _⟩ := s.mlAt e0
      refine ⟨.ref a, ev0, .inl ⟨rfl, xs0, .inl (.inl h0)⟩, σ, F, Ls, s, h.evF fun u σ' y F' Ls' H' s' ry tr h' => ?_⟩
      dsimp only at h'
      split at h'
      · rename_i vs e1
        split at h'
        · rename_i hz
          simp only [rdP] at e1
          have e2 := join_some e1
          obtain ⟨b, xs, ev, hH, nf, hs', r⟩ := s'.mlAt e2
          rw [ev0] at ev
          cases ev
          rw [r.length] at hz
          refine ⟨a, xs, y, rfl, rfl, hH, by have := lim_eq; omega, ?_⟩
          simp only [wrP] at h'
          obtain ⟨s2, t2⟩ := s'.wr e2 ev0 hH nf hs' (r.append (Rps.one ry))
          exact h' V F' Ls' _ s2 KV.refl t2
        · exact h'.elim
      · exact h'.elim
    · exact h.elim

/-! ### try -/
/-- what a class that a clause names must say -/
def CatchOk (c : Cfg) (P : Prog) (mg : Str → Option Value) (x : String) : Prop :=
  ∃ cv, (Str.ofString x == ("__debug__" : Str)) = false ∧ (mg (Str.ofString x) = some cv ∨ (mg (Str.ofString x) = none ∧ bootBuiltins (Str.ofString x) = some cv ∧ Str.ofString x ≠ ("__name__" : Str))) ∧
    ∀ d b, P.sub d x = some b → PySem.W.exmOne c.K (.ref (c.cA d)) cv = some b
def isConst : E → Bool
  | .non => true
  | .bl _ => true
  | .int _ => true
  | .str _ => true
  | _ => false
theorem const_ev {e : E} (h : isConst e = true) (σ : Env) : ∃ v, e.ev g σ = .ok (.v v, σ) := by
  cases e <;> first | (cases h; done) | (simp only [E.ev]; exact ⟨_, rfl⟩)
theorem s_tryO {P : Prog} {k : Nat} {io : List Nat} {x : String} {b : Ss} {r : E} {er : Expr} {body : List Stmt} {p p2 p3 : Pos} (hK : X.K = c.K) (hst : X.stack = X.env :: X.outer) (hf : X.env.frame = some X.env.locals) (tk : Takes X W) (hg : Gl X (Str.ofString x)) (hc : CatchOk c P X.mg x)
    (hb : ∀ (W : WX) (pn : List (Addr × Obj)) (xe : Value → Shared → Prop), Takes (X.tr pn xe) W → PassesOwn (model X.prog X.w) X.A X.env xe → PSs (X.tr pn xe) body (tSs c (ctxF P k io) W b))
    (hr : isConst r = true) (he : ∀ Y : Cx, PE Y er (tEv c (ctxF P k io) W r)) :
    PS X (.Try body [.ExceptHandler (some (.Name (Str.ofString x) p)) none [.Return (some er) p2] p3] [] [] pos) (tS c (ctxF P k io) W (.tryO b x r)) := by
  obtain ⟨cv, h1, h2, h3⟩ := hc
  have hv : ∀ i, r = .var i → (ctxF P k io).mine.contains i = true := fun i e => by rw [e] at hr; cases hr
  refine (ps_try_many (l := [(cv, fun _ _ _ => tSs c (ctxF P k io) W (.cons (.ret r) .nil))]) hst hf tk hb (.cons ⟨hg, h1, h2⟩ (fun a oe cls d pn _ _ => ss_cons (s_ret hv (he _)) ss_nil) .nil)).imp fun D V H ⟨σ, F, Ls, s, h⟩ => ?_
  refine ⟨σ, F, Ls, s, ?_⟩
  simp only [S.run] at h
  cases e : b.runs (ctxF P k io) σ with
  | next σ' => rw [e] at h; exact h
  | ret r σ' => rw [e] at h; exact h
  | brk σ' => rw [e] at h; exact h
  | cnt σ' => rw [e] at h; exact h
  | stuck => rw [e] at h; exact h
  | exc d σ' =>
    rw [e] at h
    dsimp only at h
    intro V' F' Ls' H' s' k' t'
    cases es : P.sub d x with
    | none =>
      have : (ctxF P k io).sub d x = none := es
      rw [this] at h
      exact h.elim
    | some bb =>
      have e2 : (ctxF P k io).sub d x = some bb := es
      rw [e2] at h
      refine ⟨bb, by rw [hK]; exact h3 d bb es, fun eb a ha => ?_, fun eb => ?_⟩
      · subst eb
        dsimp only at h
        refine ⟨σ', F', Ls', s', ?_⟩
        obtain ⟨v, ev⟩ := const_ev (g := ctxF P k io) hr σ'
        have e3 : (Ss.cons (.ret r) .nil).runs (ctxF P k io) σ' = .ret (.v v) σ' := by
          have : (S.ret r).run (ctxF P k io) σ' = .ret (.v v) σ' := by
            cases r <;> first | (cases hr; done) | (simp only [S.run, ev]; rfl)
          simp only [Ss.runs, this]
        rw [e3]
        rw [ev] at h
        exact FlW.from h k' t'
      · subst eb
        exact h V' F' Ls' H' s' k' t'

/-! ### a def -/
theorem ends_rt {D D' : Ends} (h : D = D') : D.rt = D'.rt := by rw [h]
theorem ios_get {σ : Env} : ∀ {io : List Nat} {ios : List Slot}, iosOf σ io = some ios → ∀ (j k : Nat), io.idxOf? j = some k → ∃ s, ios[k]? = some s ∧ σ[j]? = some (some s)
  | [], ios, e, j, k, h => by simp at h
  | i :: r, ios, e, j, k, h => by
    simp only [iosOf] at e
    obtain ⟨s, es, e2⟩ := Option.bind_eq_some_iff.mp e
    obtain ⟨ss, e3, rfl⟩ := Option.map_eq_some_iff.mp e2
    rw [List.idxOf?_cons] at h
    by_cases hj : i = j
    · subst hj
      simp at h
      subst h
      exact ⟨s, rfl, join_some es⟩
    · have : (i == j) = false := by simpa using hj
      rw [this] at h
      simp only [Bool.false_eq_true, if_false] at h
      obtain ⟨k', hk, rfl⟩ := Option.map_eq_some_iff.mp h
      obtain ⟨t, h1, h2⟩ := ios_get e3 j k' hk
      exact ⟨t, by simpa using h1, h2⟩
theorem idx_mem {io : List Nat} {j k : Nat} (h : io.idxOf? j = some k) : j ∈ io := by
  by_cases hj : j ∈ io
  · exact hj
  · rw [List.idxOf?_eq_none_iff.mpr hj] at h; cases h
/-- the lent parameters at a def's end -/
theorem St.atEnd {F : AS} {Ls : Nat → AS} {H : Hp} {σ : Env} {V : VS} {io : List Nat} {ios : List Slot} {vs : List L2.V} (s : St c F Ls H σ V) (e : iosOf σ io = some ios) (hk : ∀ i, i ∈ io → i < vs.length → V[i]? = (vs.map some)[i]?) :
    St c F (fun j a => j < vs.length ∧ j ∈ io ∧ Ls j a) H (ioEnv io vs.length ios) (vs.map some) where
  rel := fun j t ej => by
    unfold ioEnv at ej
    rw [List.getElem?_map] at ej
    obtain ⟨j', e1, e2⟩ := Option.map_eq_some_iff.mp ej
    by_cases hj : j < vs.length
    · rw [List.getElem?_range hj] at e1
      cases e1
      obtain ⟨k, h1, h2⟩ := Option.bind_eq_some_iff.mp e2
      obtain ⟨t', h3, h4⟩ := ios_get e j k h1
      rw [h2] at h3
      cases h3
      obtain ⟨x, ex, r⟩ := s.rel j t h4
      rw [hk j (idx_mem h1) hj] at ex
      refine ⟨x, ex, r.ext fun a => ⟨fun z => z.2.2, fun z => ⟨hj, idx_mem h1, z⟩⟩⟩
    · rw [List.getElem?_eq_none (by simpa using hj)] at e1
      cases e1
  emp := fun j n a ⟨hj, hio, z⟩ => by
    cases h1 : io.idxOf? j with
    | none => exact absurd hio (List.idxOf?_eq_none_iff.mp h1)
    | some k =>
      obtain ⟨t', h3, h4⟩ := ios_get e j k h1
      refine n t' ?_
      unfold ioEnv
      rw [List.getElem?_map, List.getElem?_range hj]
      simp [h1, h3]
  dis := fun i j a z1 z2 => s.dis i j a z1.2.2 z2.2.2
  len := by simp [ioEnv]
  fr := s.fr
theorem own_sub {Ls : Nat → AS} {n : Nat} {io : List Nat} {a : Addr} (h : Own (fun j a => j < n ∧ j ∈ io ∧ Ls j a) a) : Own Ls a := by
  obtain ⟨j, _, _, z⟩ := h
  exact ⟨j, z⟩
/-- the names at a def's entry -/
theorem St.entry {F : AS} {Ls : Nat → AS} {H : Hp} {ss : List Slot} {vs : List L2.V} (s : St c F Ls H (ss.map some) (vs.map some)) (n : Nat) : St c F Ls H (ss.map some ++ List.replicate n none) (vs.map some ++ List.replicate n none) where
  rel := fun i t e => by
    rw [List.getElem?_append] at e
    split at e
    · rename_i hl
      obtain ⟨x, ex, r⟩ := s.rel i t e
      refine ⟨x, ?_, r⟩
      rw [List.getElem?_append_left (by have := s.len; omega)]
      exact ex
    · rw [List.getElem?_replicate] at e
      split at e <;> cases e
  emp := fun i h a => s.emp i (fun t e => h t (by rw [List.getElem?_append_left (lt_of_some e)]; exact e)) a
  dis := s.dis
  len := by simp [s.len] <;> (have := s.len; simp at this; omega)
  fr := s.fr
/-- a def's body makes its promise -/
theorem body_end {P : Prog} {k : Nat} {f : String} {d : Def} {vs : List L2.V} {H : Hp} {Q : VK} {E : XK} {N : List Str} (hf : P.fn f = some d) (hN : N.length = d.ns) (hps : d.ps ≤ d.ns) (hio : ∀ i ∈ d.io, i < d.ps) (h : spC c P (k + 1) f d vs H Q E) :
    tSs c (ctxF P k d.io) (fun cls dd _ H => E cls dd H) d.body { nx := fun _ H' => Q .non H', rt := Q } (L2.start N vs) H := by
  obtain ⟨hl, ss, F, Ls, s, h⟩ := h
  have hss : ss.length = vs.length := by have := s.len; simpa using this
  unfold callF at h
  rw [hf] at h
  dsimp only at h
  split at h
  case h_3 e => exact h.elim
  all_goals rename_i e
  all_goals
    split at e
    case isFalse => cases e
    rename_i hargs
    have hst : L2.start N vs = vs.map some ++ List.replicate (d.ns - d.ps) none := by
      unfold L2.start; rw [hN, hl]
    have s1 : St c F Ls H (ss.map some ++ List.replicate (d.ns - d.ps) none) (L2.start N vs) := by
      rw [hst]; exact s.entry _
    have kv : ∀ V', KV (ctxF P k d.io) (L2.start N vs) V' → ∀ i, i ∈ d.io → i < vs.length → V'[i]? = (vs.map some)[i]? := fun V' q i hi hv => by
      rw [q i hi, hst, List.getElem?_append_left (by simpa using hv)]
    refine ⟨_, F, Ls, s1, ?_⟩
    show FlW c _ (ctxF P k d.io) _ _ F (Own Ls) H (d.body.runs (mkC P (callF P k) d.io) _)
    cases eb : d.body.runs (mkC P (callF P k) d.io) (ss.map some ++ List.replicate (d.ns - d.ps) none)
    all_goals rw [eb] at e
    all_goals simp only [endF] at e
    all_goals try (cases e; done)
  · -- the end is reached
    rename_i r ios σ'
    cases ei : iosOf σ' d.io with
    | none => rw [ei] at e; cases e
    | some ss' =>
      rw [ei] at e
      cases e
      intro V' F' Ls' H' s' k' t'
      have s2 := s'.atEnd ei (kv V' k')
      rw [hl] at s2
      exact h .non (fun _ => False) F' _ H' s2 (RpS.v (by simp only [Rp])) (fun _ z => z.elim) (t'.sub fun a z => z.elim own_sub False.elim)
  · rename_i r ios t σ'
    cases ei : iosOf σ' d.io with
    | none => rw [ei] at e; cases e
    | some ss' =>
      rw [ei] at e
      cases e
      intro x S V' F' Ls' H' s' k' rx hd t'
      have s2 := s'.atEnd ei (kv V' k')
      rw [hl] at s2
      exact h x S F' _ H' s2 rx (fun a sa z => hd a sa (own_sub z)) (t'.sub fun a z => z.imp own_sub id)
  · rename_i σ'
    cases ei : iosOf σ' d.io with
    | none => rw [ei] at e; cases e
    | some ss' => rw [ei] at e; cases e
  · rename_i σ'
    cases ei : iosOf σ' d.io with
    | none => rw [ei] at e; cases e
    | some ss' => rw [ei] at e; cases e
  · rename_i σ'
    cases ei : iosOf σ' d.io with
    | none => rw [ei] at e; cases e
    | some ss' => rw [ei] at e; cases e
  · rename_i ex ios ex' σ'
    cases ei : iosOf σ' d.io with
    | none => rw [ei] at e; cases e
    | some ss' =>
      rw [ei] at e
      cases e
      intro V' F' Ls' H' s' k' t'
      have s2 := s'.atEnd ei (kv V' k')
      rw [hl] at s2
      exact h F' _ H' s2 (t'.sub fun a z => own_sub z)
end
end PL
/-! PK: the text is held against the kit's tree. -/
namespace PL
open PySem PySem.Spec PyProof.Rows L2
/-- what is known of the text's top names -/
structure Txt where
  free : List String
  fns : List String
  excs : List String
  cats : List String
  gcd : Bool
  /-- the text's own classes of exceptions -/
  own : List String
  subs : List (String × String × Bool)
/-- what a text is held against -/
structure Ck where
  P : Prog
  T : Txt
  N : List Str
  sc : List (Str × NameKind)
  io : List Nat
def Ck.name (K : Ck) (i : Nat) (x : Str) : Bool := K.N[i]? == some x && (K.sc.lookup x == some .local && (!(x == ("__debug__" : Str)) && !(x == ("__classdict__" : Str))))
def Ck.gl (K : Ck) (x : Str) : Bool := K.sc.lookup x == some .globalImplicit
def Ck.free (K : Ck) (f : String) (x : Str) : Bool := x == Str.ofString f && (K.T.free.contains f && K.gl x)
abbrev opOf : BOp → Operator
  | .add => .Add
  | .sub => .Sub
  | .mul => .Mult
  | .fdiv => .FloorDiv
  | .mod => .Mod
  | .pow => .Pow
def strip : Expr → Expr
  | .BoolOp _ [e] _ => e
  | e => e
def isOp (n : Bool) : CmpOp := if n then .IsNot else .Is
mutual
def chkE : E → Ck → Expr → Bool
  | .var i, K, ex => (match ex with
    | .Name x _ => K.name i x
    | _ => false)
  | .non, _, ex => (match ex with
    | .Constant .none _ _ => true
    | _ => false)
  | .bl b, _, ex => (match ex with
    | .Constant (.bool c) _ _ => b == c
    | _ => false)
  | .int i, _, ex => (match ex with
    | .Constant (.int j) _ _ => i == j
    | _ => false)
  | .str s, _, ex => (match ex with
    | .Constant (.str t) _ _ => s == t
    | _ => false)
  | .bin op a b, K, ex => (match ex with
    | .BinOp ea kop eb _ => kop == opOf op && (chkE a K ea && chkE b K eb)
    | _ => false)
  | .neg a, K, ex => (match ex with
    | .UnaryOp .USub ea _ => chkE a K ea
    | _ => false)
  | .no a, K, ex => (match ex with
    | .UnaryOp .Not ea _ => chkE a K ea
    | _ => false)
  | .and a b, K, ex => (match ex with
    | .BoolOp .And (ea :: eb :: r) p => chkE a K ea && chkE b K (strip (.BoolOp .And (eb :: r) p))
    | _ => false)
  | .or a b, K, ex => (match ex with
    | .BoolOp .Or (ea :: eb :: r) p => chkE a K ea && chkE b K (strip (.BoolOp .Or (eb :: r) p))
    | _ => false)
  | .cmp op a b, K, ex => (match ex with
    | .Compare ea [kop] [eb] _ => kop == kopOf op && (behindInMarks kop eb == false && (chkE a K ea && chkE b K eb))
    | _ => false)
  | .cmp2 op op' a b d, K, ex => (match ex with
    | .Compare ea [kop, kop'] [eb, ed] _ => kop == kopOf op && (kop' == kopOf op' && (lastMarks [kop, kop'] [eb, ed] == false && (chkE a K ea && (chkE b K eb && chkE d K ed))))
    | _ => false)
  | .isN n a, K, ex => (match ex with
    | .Compare ea [kop] [.Constant .none _ _] _ => kop == isOp n && chkE a K ea
    | _ => false)
  | .isB n b a, K, ex => (match ex with
    | .Compare ea [kop] [.Constant (.bool c) _ _] _ => kop == isOp n && (b == c && chkE a K ea)
    | _ => false)
  | .tyIs n t a, K, ex => (match ex with
    | .Compare (.Call (.Name f _) [ea] [] _) [kop] [.Name x _] _ => kop == isOp n && (K.free "type" f && (K.free t x && (tyNames.contains t && (notStar ea && chkE a K ea))))
    | _ => false)
  | .isi a t, K, ex => (match ex with
    | .Call (.Name f _) [ea, .Name x _] [] _ => K.free "isinstance" f && (K.free t x && (tyNames.contains t && (notStar ea && chkE a K ea)))
    | _ => false)
  | .ite k a b, K, ex => (match ex with
    | .IfExp ek ea eb _ => chkE k K ek && (chkE a K ea && chkE b K eb)
    | _ => false)
  | .tup es, K, ex => (match ex with
    | .Tuple ees _ _ => chkEs es K ees
    | _ => false)
  | .lst es, K, ex => (match ex with
    | .List ees _ => chkEs es K ees
    | _ => false)
  | .ix a i, K, ex => (match ex with
    | .Subscript ea ei _ => notSlice ei && (chkE a K ea && chkE i K ei)
    | _ => false)
  | .call f as, K, ex => (match ex with
    | .Call (.Name x _) (ea :: eas) [] _ => x == Str.ofString f && (K.gl x && (K.T.fns.contains f && ((match K.P.fn f with
      | some d => as.len == d.ps
      | none => false) && (ownAll as && (lendVar as && chkAs as K (ea :: eas))))))
    | _ => false)
  | .bi f es, K, ex => (match ex with
    | .Call (.Name x _) (ea :: eas) [] _ => x == Str.ofString f && (K.gl x && ((if f == "gcd" then K.T.gcd else biNames.contains f && K.T.free.contains f) && chkEs es K (ea :: eas)))
    | _ => false)
  | .glob _, _, _ => false
  | .dct _ _, _, _ => false
  | .sl _ _ _, _, _ => false
  | .rev _, _, _ => false
  | .mk _ _, _, _ => false
  | .meth _ _, _, _ => false
  | .fld _ _, _, _ => false
  | .pop _ _, _, _ => false
  | .get _ _ _, _, _ => false
  | .join _ _, _, _ => false
  | .split _ _, _, _ => false
  | .index _ _, _, _ => false
  | .lc _ _ _ _ _, _, _ => false
  | .lc2 _ _ _ _ _ _ _ _ _, _, _ => false
  | .dc _ _ _ _ _ _, _, _ => false
  | .fs _, _, _ => false
def chkEs : Es → Ck → List Expr → Bool
  | .nil, _, es => es.isEmpty
  | .cons e es, K, l => (match l with
    | ee :: ees => notStar ee && (chkE e K ee && chkEs es K ees)
    | [] => false)
def chkAs : As → Ck → List Expr → Bool
  | .nil, _, es => es.isEmpty
  | .cons _ e es, K, l => (match l with
    | ee :: ees => notStar ee && (chkE e K ee && chkAs es K ees)
    | [] => false)
end
def chkSrc (s : Src) (K : Ck) (ex : Expr) : Bool := match s with
  | .it e => chkE e K ex
  | .r1 a => (match ex with
    | .Call (.Name x _) [ea] [] _ => K.free "range" x && (notStar ea && chkE a K ea)
    | _ => false)
  | .r2 a b => (match ex with
    | .Call (.Name x _) [ea, eb] [] _ => K.free "range" x && (notStar ea && (notStar eb && (chkE a K ea && chkE b K eb)))
    | _ => false)
  | _ => false
mutual
def chkT : T → Ck → Expr → Bool
  | .var i, K, ex => (match ex with
    | .Name x _ => K.name i x
    | _ => false)
  | .tup ts, K, ex => (match ex with
    | .Tuple es _ _ => chkTs ts K es && es.length == ts.len
    | _ => false)
def chkTs : Ts → Ck → List Expr → Bool
  | .nil, _, l => l.isEmpty
  | .cons t ts, K, l => (match l with
    | e :: es => notStar e && (chkT t K e && chkTs ts K es)
    | [] => false)
end
/-! ### what holds of the context -/
structure TF (c : Cfg) (P : Prog) (T : Txt) (mg : Str → Option Value) : Prop where
  free : ∀ f, T.free.contains f = true → mg (Str.ofString f) = none
  fns : ∀ f, T.fns.contains f = true → mg (Str.ofString f) = some (.ref (c.fA f)) ∧ (Str.ofString f == ("__debug__" : Str)) = false
  gcd : T.gcd = true → mg (Str.ofString "gcd") = some (.builtin "math.gcd")
  exc : ∀ e, T.excs.contains e = true → RaiseOk c mg e
  cat : ∀ x, T.cats.contains x = true → CatchOk c P mg x
structure Hx (c : Cfg) (k : Nat) (K : Ck) (W : WX) (X : Cx) : Prop where
  eK : X.K = c.K
  calm : X.calm = true
  N : X.N = K.N
  nd : K.N.Nodup
  sc : X.env.scope.names = K.sc
  fnk : X.env.scope.kind = .function
  room : Room k X.A
  tk : Takes X W
  fns : Fns c K.P X.prog X.w X.mg X.base k
  tf : TF c K.P K.T X.mg
  stk : X.stack = X.env :: X.outer
  frm : X.env.frame = some X.env.locals
  pass : PassesOwn (model X.prog X.w) X.A X.env X.xe
section
variable {c : Cfg} {k : Nat} {K : Ck} {W : WX} {X : Cx} {pos : Pos}
theorem Hx.hu (h : Hx c k K W X) : X.A.units + 65 < cLine := by have := h.room.un; omega
theorem Hx.name (h : Hx c k K W X) {i : Nat} {x : Str} (e : K.name i x = true) : X.N[i]? = some x ∧ X.env.scope.names.lookup x = some .local ∧ (x == ("__debug__" : Str)) = false ∧ (x == ("__classdict__" : Str)) = false := by
  simp only [Ck.name, Bool.and_eq_true, beq_iff_eq, Bool.not_eq_true'] at e
  rw [h.N, h.sc]
  exact ⟨e.1, e.2.1, e.2.2.1, e.2.2.2⟩
theorem Hx.gl (h : Hx c k K W X) {x : Str} (e : K.gl x = true) : Gl X x := by
  simp only [Ck.gl, beq_iff_eq] at e
  unfold Gl PySem.Env.kindOf
  rw [h.sc]
  exact e
theorem Hx.free (h : Hx c k K W X) {f : String} {x : Str} (e : K.free f x = true) : x = Str.ofString f ∧ Gl X (Str.ofString f) ∧ X.mg (Str.ofString f) = none := by
  simp only [Ck.free, Bool.and_eq_true, beq_iff_eq] at e
  obtain ⟨e1, e2, e3⟩ := e
  subst e1
  exact ⟨rfl, h.gl e3, h.tf.free f e2⟩
/-- what is shown of each expression -/
structure SE (c : Cfg) (g : Ctx) (W : WX) (X : Cx) (e : E) (ex : Expr) : Prop where
  ev : PE X ex (tEv c g W e)
  tst : PT X ex (tTst c g W e)
  pre : PE X ex (tPre c g W e)
def isBoolE : E → Bool
  | .and _ _ => true
  | .or _ _ => true
  | _ => false
theorem SE.of {g : Ctx} {e : E} {ex : Expr} (hK : X.K = c.K) (hp : isPlace e = false) (hs : isSpec e = false) (ev : PE X ex (tEv c g W e)) (he : ∀ whole, PySem.isTrue ex X.env whole = (do let v ← whole; standAt ex.pos; holding [v] (truthy v))) : SE c g W X e ex :=
  have pre := pre_of ev (pre_eq hp)
  ⟨ev, tst_of hK pre hs he, pre⟩
theorem SE.of2 {g : Ctx} {e : E} {ex : Expr} (hp : isPlace e = false) (ev : PE X ex (tEv c g W e)) (tst : PT X ex (tTst c g W e)) : SE c g W X e ex := ⟨ev, tst, pre_of ev (pre_eq hp)⟩
theorem as_own_cons {m : AM} {e : E} {as : As} (h : ownAll (.cons m e as) = true) : (m = .own ∨ m = .lend) ∧ ownAll as = true := by
  cases m <;> first | (cases h; done) | exact ⟨.inl rfl, h⟩ | exact ⟨.inr rfl, h⟩
end
end PL
/-! PK2: expressions that are held against the tree are run rightly. -/
namespace PL
open PySem PySem.Spec PyProof.Rows L2
section
variable {c : Cfg} {k : Nat} {K : Ck} {W : WX} {X : Cx} {pos : Pos}
theorem and2 {a b : Bool} (h : (a && b) = true) : a = true ∧ b = true := by simpa using h
theorem strip_ev {op : PySem.BoolOp} {l : List Expr} {t : TE} (h : PE X (strip (.BoolOp op l pos)) t) : PE X (.BoolOp op l pos) t := by
  cases l with
  | nil => exact h
  | cons a r => cases r with
    | nil => exact pe_one h
    | cons b r => exact h
theorem chk_multi {e : E} {op : PySem.BoolOp} {a b : Expr} {r : List Expr} (h : chkE e K (.BoolOp op (a :: b :: r) pos) = true) : isBoolE e = true := by
  cases e <;> first | rfl | (simp [chkE] at h; done)
theorem isTrue_plain {ex : Expr} {env : PySem.Env} (h : (match ex with
    | .UnaryOp .Not _ _ => false
    | .BoolOp _ _ _ => false
    | .IfExp _ _ _ _ => false
    | .Compare _ _ _ _ => false
    | _ => true) = true) : ∀ whole, PySem.isTrue ex env whole = (do let v ← whole; standAt ex.pos; holding [v] (truthy v)) := by
  intro whole
  cases ex <;> first
    | (cases h; done)
    | (rw [PySem.isTrue]; done)
    | (rw [PySem.isTrue] <;> (intros; rename_i op _ _; cases op <;> simp_all))
    | skip
theorem isOp_eq (n : Bool) : isOp n = (if n then CmpOp.IsNot else CmpOp.Is) := rfl
mutual
theorem soundE : ∀ (e : E) (c : Cfg) (k : Nat) (K : Ck) (W : WX) (X : Cx) (ex : Expr), Hx c k K W X → chkE e K ex = true → SE c (ctxF K.P k K.io) W X e ex ∧ (isBoolE e = true → PW X ex (tTst c (ctxF K.P k K.io) W e))
  | .var i, c, k, K, W, X, ex, h, hc => by
    simp only [chkE] at hc
    split at hc
    · rename_i x p
      obtain ⟨h1, h2, h3, h4⟩ := h.name hc
      have pre := pre_var (c := c) (g := ctxF K.P k K.io) (W := W) (pos := p) h1 (.inl h2) h3 h4
      exact ⟨⟨ev_var h1 (.inl h2) h3 h4, tst_of h.eK pre rfl (isTrue_plain rfl), pre⟩, nofun⟩
    · cases hc
  | .non, c, k, K, W, X, ex, h, hc => by
    simp only [chkE] at hc
    split at hc
    · exact ⟨SE.of h.eK rfl rfl ev_non (isTrue_plain rfl), nofun⟩
    · cases hc
  | .bl b, c, k, K, W, X, ex, h, hc => by
    simp only [chkE] at hc
    split at hc
    · rw [← eq_of_beq hc]
      exact ⟨SE.of h.eK rfl rfl ev_bl (isTrue_plain rfl), nofun⟩
    · cases hc
  | .int i, c, k, K, W, X, ex, h, hc => by
    simp only [chkE] at hc
    split at hc
    · rw [← eq_of_beq hc]
      exact ⟨SE.of h.eK rfl rfl ev_int (isTrue_plain rfl), nofun⟩
    · cases hc
  | .str s, c, k, K, W, X, ex, h, hc => by
    simp only [chkE] at hc
    split at hc
    · rw [← eq_of_beq hc]
      exact ⟨SE.of h.eK rfl rfl ev_str (isTrue_plain rfl), nofun⟩
    · cases hc
  | .bin op a b, c, k, K, W, X, ex, h, hc => by
    simp only [chkE] at hc
    split at hc
    · rename_i ea kop eb p
      obtain ⟨h1, hc⟩ := and2 hc
      obtain ⟨h2, h3⟩ := and2 hc
      have e1 := eq_of_beq h1
      subst e1
      have ia := (soundE a c k K W X ea h h2).1.pre
      have ib := (soundE b c k K W X eb h h3).1.pre
      refine ⟨SE.of h.eK rfl rfl ?_ (isTrue_plain rfl), nofun⟩
      cases op with
      | add => exact ev_add h.eK ia ib
      | sub => exact ev_sub ia ib
      | mul => exact ev_mul h.eK ia ib
      | fdiv => exact ev_fdiv ia ib
      | mod => exact ev_mod ia ib
      | pow => exact ev_pow ia ib
    · cases hc
  | .neg a, c, k, K, W, X, ex, h, hc => by
    simp only [chkE] at hc
    split at hc
    · exact ⟨SE.of h.eK rfl rfl (ev_neg (soundE a c k K W X _ h hc).1.pre) (isTrue_plain rfl), nofun⟩
    · cases hc
  | .no a, c, k, K, W, X, ex, h, hc => by
    simp only [chkE] at hc
    split at hc
    · have ia := (soundE a c k K W X _ h hc).1
      exact ⟨SE.of2 rfl (ev_no h.eK ia.pre) (tst_no ia.tst), nofun⟩
    · cases hc
  | .and a b, c, k, K, W, X, ex, h, hc => by
    simp only [chkE] at hc
    split at hc
    · rename_i ea eb r p
      obtain ⟨h1, h2⟩ := and2 hc
      have ia := (soundE a c k K W X ea h h1).1
      have ib := soundE b c k K W X _ h h2
      have pw : PW X (.BoolOp .And (eb :: r) p) (tTst c (ctxF K.P k K.io) W b) := by
        cases r with
        | nil => exact pw_and1 ib.1.tst
        | cons e2 r => exact ib.2 (chk_multi h2)
      have q := tst_andW ia.tst pw
      exact ⟨SE.of2 rfl (ev_and h.eK ia.ev (strip_ev ib.1.ev)) q.pt, fun _ => q⟩
    · cases hc
  | .or a b, c, k, K, W, X, ex, h, hc => by
    simp only [chkE] at hc
    split at hc
    · rename_i ea eb r p
      obtain ⟨h1, h2⟩ := and2 hc
      have ia := (soundE a c k K W X ea h h1).1
      have ib := soundE b c k K W X _ h h2
      have pw : PW X (.BoolOp .Or (eb :: r) p) (tTst c (ctxF K.P k K.io) W b) := by
        cases r with
        | nil => exact pw_or1 ib.1.tst
        | cons e2 r => exact ib.2 (chk_multi h2)
      have q := tst_orW ia.tst pw
      exact ⟨SE.of2 rfl (ev_or h.eK ia.ev (strip_ev ib.1.ev)) q.pt, fun _ => q⟩
    · cases hc
  | .cmp op a b, c, k, K, W, X, ex, h, hc => by
    simp only [chkE] at hc
    split at hc
    · rename_i ea kop eb p
      obtain ⟨h1, hc⟩ := and2 hc
      obtain ⟨h2, hc⟩ := and2 hc
      obtain ⟨h3, h4⟩ := and2 hc
      have e1 := eq_of_beq h1
      subst e1
      have e2 := eq_of_beq h2
      have ia := (soundE a c k K W X ea h h3).1.pre
      have ib := (soundE b c k K W X eb h h4).1.pre
      exact ⟨SE.of2 rfl (ev_cmpX op h.eK h.hu ia ib e2) (tst_cmpX op h.eK h.hu ia ib e2), nofun⟩
    · cases hc
  | .cmp2 op op' a b d, c, k, K, W, X, ex, h, hc => by
    simp only [chkE] at hc
    split at hc
    · rename_i ea kop kop' eb ed p
      obtain ⟨h1, hc⟩ := and2 hc
      obtain ⟨h1', hc⟩ := and2 hc
      obtain ⟨h2, hc⟩ := and2 hc
      obtain ⟨h3, hc⟩ := and2 hc
      obtain ⟨h4, h5⟩ := and2 hc
      have e1 := eq_of_beq h1
      subst e1
      have e1' := eq_of_beq h1'
      subst e1'
      have e2 := eq_of_beq h2
      have ia := (soundE a c k K W X ea h h3).1.pre
      have ib := (soundE b c k K W X eb h h4).1.pre
      have id := (soundE d c k K W X ed h h5).1.pre
      exact ⟨SE.of2 rfl (ev_cmp2X op op' h.eK h.hu ia ib id e2) (tst_cmp2X op op' h.eK h.hu ia ib id e2), nofun⟩
    · cases hc
  | .isN n a, c, k, K, W, X, ex, h, hc => by
    simp only [chkE] at hc
    split at hc
    · rename_i ea kop _ _ p
      obtain ⟨h1, h2⟩ := and2 hc
      have e1 := eq_of_beq h1
      subst e1
      have ia := (soundE a c k K W X ea h h2).1.pre
      exact ⟨SE.of2 rfl (ev_isN n ia) (tst_isN n ia), nofun⟩
    · cases hc
  | .isB n b a, c, k, K, W, X, ex, h, hc => by
    simp only [chkE] at hc
    split at hc
    · rename_i ea kop _ _ _ p
      obtain ⟨h1, hc⟩ := and2 hc
      obtain ⟨h2, h3⟩ := and2 hc
      have e1 := eq_of_beq h1
      subst e1
      have e2 := eq_of_beq h2
      subst e2
      have ia := (soundE a c k K W X ea h h3).1.pre
      exact ⟨SE.of2 rfl (ev_isB ia) (tst_isB ia), nofun⟩
    · cases hc
  | .tyIs n t a, c, k, K, W, X, ex, h, hc => by
    simp only [chkE] at hc
    split at hc
    · rename_i f _ ea _ kop x _ p
      obtain ⟨h1, hc⟩ := and2 hc
      obtain ⟨h2, hc⟩ := and2 hc
      obtain ⟨h3, hc⟩ := and2 hc
      obtain ⟨h4, hc⟩ := and2 hc
      obtain ⟨h5, h6⟩ := and2 hc
      have e1 := eq_of_beq h1
      subst e1
      obtain ⟨rfl, g1, m1⟩ := h.free h2
      obtain ⟨rfl, g2, m2⟩ := h.free h3
      have ia := (soundE a c k K W X ea h h6).1.pre
      exact ⟨SE.of2 rfl (ev_tyIs h.eK h4 g1 m1 g2 m2 h5 ia) (tst_tyIs h.eK h4 g1 m1 g2 m2 h5 ia), nofun⟩
    · cases hc
  | .isi a t, c, k, K, W, X, ex, h, hc => by
    simp only [chkE] at hc
    split at hc
    · rename_i f _ ea x _ p
      obtain ⟨h2, hc⟩ := and2 hc
      obtain ⟨h3, hc⟩ := and2 hc
      obtain ⟨h4, hc⟩ := and2 hc
      obtain ⟨h5, h6⟩ := and2 hc
      obtain ⟨rfl, g1, m1⟩ := h.free h2
      obtain ⟨rfl, g2, m2⟩ := h.free h3
      have ia := (soundE a c k K W X ea h h6).1.pre
      exact ⟨SE.of h.eK rfl rfl (ev_isi h.eK h4 g1 m1 g2 m2 h5 ia) (isTrue_plain rfl), nofun⟩
    · cases hc
  | .ite t a b, c, k, K, W, X, ex, h, hc => by
    simp only [chkE] at hc
    split at hc
    · rename_i et ea eb p
      obtain ⟨h1, hc⟩ := and2 hc
      obtain ⟨h2, h3⟩ := and2 hc
      have it := (soundE t c k K W X et h h1).1
      have ia := (soundE a c k K W X ea h h2).1
      have ib := (soundE b c k K W X eb h h3).1
      exact ⟨SE.of2 rfl (ev_ite it.tst ia.ev ib.ev) (tst_ite it.tst ia.tst ib.tst), nofun⟩
    · cases hc
  | .tup es, c, k, K, W, X, ex, h, hc => by
    simp only [chkE] at hc
    split at hc
    · exact ⟨SE.of h.eK rfl rfl (ev_tup (soundEs es c k K W X _ h hc).1) (isTrue_plain rfl), nofun⟩
    · cases hc
  | .lst es, c, k, K, W, X, ex, h, hc => by
    simp only [chkE] at hc
    split at hc
    · exact ⟨SE.of h.eK rfl rfl (ev_lst (soundEs es c k K W X _ h hc).1) (isTrue_plain rfl), nofun⟩
    · cases hc
  | .ix a i, c, k, K, W, X, ex, h, hc => by
    simp only [chkE] at hc
    split at hc
    · rename_i ea ei p
      obtain ⟨h1, hc⟩ := and2 hc
      obtain ⟨h2, h3⟩ := and2 hc
      have ia := (soundE a c k K W X ea h h2).1.pre
      have ib := (soundE i c k K W X ei h h3).1.pre
      exact ⟨SE.of h.eK rfl rfl (ev_ix h.eK (by have := h.hu; omega) h1 ia ib) (isTrue_plain rfl), nofun⟩
    · cases hc
  | .call f as, c, k, K, W, X, ex, h, hc => by
    simp only [chkE] at hc
    split at hc
    · rename_i x _ ea eas p
      obtain ⟨h1, hc⟩ := and2 hc
      obtain ⟨h2, hc⟩ := and2 hc
      obtain ⟨h3, hc⟩ := and2 hc
      obtain ⟨h4, hc⟩ := and2 hc
      obtain ⟨h5, hc⟩ := and2 hc
      obtain ⟨h5', h6⟩ := and2 hc
      have e1 := eq_of_beq h1
      subst e1
      obtain ⟨m1, m2⟩ := h.tf.fns f h3
      split at h4
      · rename_i d hd
        obtain ⟨ia, hss⟩ := soundAs as c k K W X _ h h5 h6
        obtain ⟨n1, n2⟩ := and2 (show (notStar ea && eas.all notStar) = true by simpa using hss)
        exact ⟨SE.of h.eK rfl rfl (ev_call h.eK h.fns h.tk h.room (h.gl h2) m1 m2 hd h5 h5' (eq_of_beq h4) n1 n2 ia) (isTrue_plain rfl), nofun⟩
      · cases h4
    · cases hc
  | .bi f es, c, k, K, W, X, ex, h, hc => by
    simp only [chkE] at hc
    split at hc
    · rename_i x _ ea eas p
      obtain ⟨h1, hc⟩ := and2 hc
      obtain ⟨h2, hc⟩ := and2 hc
      obtain ⟨h3, h4⟩ := and2 hc
      have e1 := eq_of_beq h1
      subst e1
      cases es with
      | nil => simp [chkEs] at h4
      | cons e0 es =>
        have ie := soundEs (.cons e0 es) c k K W X _ h h4
        obtain ⟨n1, n2⟩ := and2 (show (notStar ea && eas.all notStar) = true by simpa using ie.2.2)
        refine ⟨SE.of h.eK rfl rfl ?_ (isTrue_plain rfl), nofun⟩
        by_cases hg : f = "gcd"
        · subst hg
          have h5 : K.T.gcd = true := by simpa using h3
          exact ev_gcd (h.gl h2) (h.tf.gcd h5) (by decide +kernel) n1 n2 ie.2.1
        · have hb : (f == "gcd") = false := by simpa using hg
          rw [hb] at h3
          simp only [Bool.false_eq_true, if_false] at h3
          obtain ⟨h5, h6⟩ := and2 h3
          exact ev_bi h.eK h.calm h5 (h.gl h2) (h.tf.free f h6) n1 n2 ie.2.1
    · cases hc
  | .glob _, _, _, _, _, _, _, _, hc => by simp [chkE] at hc
  | .dct _ _, _, _, _, _, _, _, _, hc => by simp [chkE] at hc
  | .sl _ _ _, _, _, _, _, _, _, _, hc => by simp [chkE] at hc
  | .rev _, _, _, _, _, _, _, _, hc => by simp [chkE] at hc
  | .mk _ _, _, _, _, _, _, _, _, hc => by simp [chkE] at hc
  | .meth _ _, _, _, _, _, _, _, _, hc => by simp [chkE] at hc
  | .fld _ _, _, _, _, _, _, _, _, hc => by simp [chkE] at hc
  | .pop _ _, _, _, _, _, _, _, _, hc => by simp [chkE] at hc
  | .get _ _ _, _, _, _, _, _, _, _, hc => by simp [chkE] at hc
  | .join _ _, _, _, _, _, _, _, _, hc => by simp [chkE] at hc
  | .split _ _, _, _, _, _, _, _, _, hc => by simp [chkE] at hc
  | .index _ _, _, _, _, _, _, _, _, hc => by simp [chkE] at hc
  | .lc _ _ _ _ _, _, _, _, _, _, _, _, hc => by simp [chkE] at hc
  | .lc2 _ _ _ _ _ _ _ _ _, _, _, _, _, _, _, _, hc => by simp [chkE] at hc
  | .dc _ _ _ _ _ _, _, _, _, _, _, _, _, hc => by simp [chkE] at hc
  | .fs _, _, _, _, _, _, _, _, hc => by simp [chkE] at hc
theorem soundEs : ∀ (es : Es) (c : Cfg) (k : Nat) (K : Ck) (W : WX) (X : Cx) (exs : List Expr), Hx c k K W X → chkEs es K exs = true → PA X exs (tEvs c (ctxF K.P k K.io) W es) ∧ PA X exs (tPrs c (ctxF K.P k K.io) W es) ∧ exs.all notStar = true
  | .nil, c, k, K, W, X, exs, h, hc => by
    simp only [chkEs] at hc
    cases exs with
    | nil => exact ⟨evs_nil, prs_nil, rfl⟩
    | cons _ _ => cases hc
  | .cons e es, c, k, K, W, X, exs, h, hc => by
    simp only [chkEs] at hc
    split at hc
    · rename_i ee ees
      obtain ⟨h1, hc⟩ := and2 hc
      obtain ⟨h2, h3⟩ := and2 hc
      have ie := (soundE e c k K W X ee h h2).1
      have is := soundEs es c k K W X ees h h3
      exact ⟨evs_cons h1 ie.ev is.1, prs_cons h1 ie.pre is.2.1, by simp [h1, is.2.2]⟩
    · cases hc
theorem soundAs : ∀ (es : As) (c : Cfg) (k : Nat) (K : Ck) (W : WX) (X : Cx) (exs : List Expr), Hx c k K W X → ownAll es = true → chkAs es K exs = true → PA X exs (tAs c (ctxF K.P k K.io) W es) ∧ exs.all notStar = true
  | .nil, c, k, K, W, X, exs, h, ho, hc => by
    simp only [chkAs] at hc
    cases exs with
    | nil => exact ⟨as_nil, rfl⟩
    | cons _ _ => cases hc
  | .cons m e es, c, k, K, W, X, exs, h, ho, hc => by
    simp only [chkAs] at hc
    obtain ⟨hm, ho⟩ := as_own_cons ho
    split at hc
    · rename_i ee ees
      obtain ⟨h1, hc⟩ := and2 hc
      obtain ⟨h2, h3⟩ := and2 hc
      have ie := (soundE e c k K W X ee h h2).1
      have is := soundAs es c k K W X ees h ho h3
      rcases hm with rfl | rfl
      · exact ⟨as_own h1 ie.ev is.1, by simp [h1, is.2]⟩
      · exact ⟨as_lend h1 ie.pre is.1, by simp [h1, is.2]⟩
    · cases hc
end
end
end PL
/-! PK3: statements, defs. -/
namespace PL
open PySem PySem.Spec PyProof.Rows L2
/-! ### small facts of the text -/
def isComp : Expr → Bool
  | .ListComp _ _ _ _ => true
  | .SetComp _ _ _ _ => true
  | .DictComp _ _ _ _ _ => true
  | _ => false
theorem sw_plain {e : Expr} {t : Option Expr} {n : Nat} {env : PySem.Env} (h : isComp e = false) : swapsWith e t n env = pure false := by
  unfold swapsWith
  cases e <;> first | (cases h; done) | rfl
theorem sole_plain {e tg : Expr} {n : Nat} {env : PySem.Env} (h : isComp e = false) : swapsWithSole [tg] e n env = pure false := by
  unfold swapsWithSole
  exact sw_plain h
/-- the stores are in the text's order -/
def inOrder : Expr → Expr → Bool
  | .Tuple _ _ _, .Tuple vs _ _ => vs.all (foldedForSure 8)
  | .List _ _, _ => false
  | _, _ => true
theorem swapped_none {tg e : Expr} {env : PySem.Env} (h : inOrder tg e = true) : swappedStores [tg] e env = pure none := by
  unfold swappedStores
  cases tg <;> first | (cases h; done) | rfl | skip
  rename_i ts _ _
  cases e <;> first | rfl | skip
  rename_i vs _ _
  have hf : vs.all (foldedForSure 8) = true := h
  simp only [hf]
  by_cases h1 : (!(ts.length == 2 || ts.length == 3) || vs.length != ts.length || env.blockKind != .function) = true
  · simp only [h1]; rfl
  · simp only [Bool.not_eq_true] at h1
    simp only [h1]
    rw [if_neg Bool.false_ne_true]
    split
    · rfl
    · split
      · rfl
      · rw [if_pos trivial]
theorem swapped_two {x y : Str} {px py pt pt2 : Pos} {a b : Expr} {kt k2 : Nat} {env : PySem.Env} (h1 : env.kindOf x = some .local) (h2 : env.kindOf y = some .local) (hl : (py.line == px.line) = true) (hn : (x == y) = false) (hk : env.blockKind = .function) (ha : notStar a = true) (hb : notStar b = true)
    (hf : (foldedForSure 8 a && foldedForSure 8 b) = false) (hc : (constantsAlone 8 a && constantsAlone 8 b) = false) : swappedStores [.Tuple [.Name x px, .Name y py] kt pt] (.Tuple [a, b] k2 pt2) env = pure (some [x, y]) := by
  have hs : ([a, b].any fun x => match x with
    | .Starred _ _ => true
    | _ => false) = false := by
    cases a <;> first | (cases ha; done) | (cases b <;> first | (cases hb; done) | rfl)
  have hl' : py.line = px.line := eq_of_beq hl
  have hyx : (y == x) = false := by
    rw [beq_eq_false_iff_ne] at hn ⊢
    exact Ne.symm hn
  unfold swappedStores
  simp [h1, h2, hl', hk, hs, hf, hc, List.eraseDups_cons, hn, hyx, Pos.line, Expr.pos]
  intro z
  exfalso
  rcases z with z | z
  · cases a <;> first | (cases ha; done) | (cases z; done)
  · cases b <;> first | (cases hb; done) | (cases z; done)
section
variable {c : Cfg} {g : Ctx} {W : WX} {X : Cx} {pos : Pos}
/-- a, b = x, y: stored from the right -/
theorem s_par {i j : Nat} {x y : Str} {a b : E} {ea eb : Expr} {px py pt pt2 : Pos} {kt k2 : Nat} (hc : X.calm = true) (hN : X.N.Nodup) (hi : X.N[i]? = some x) (hj : X.N[j]? = some y) (hij : i ≠ j) (hx : X.env.scope.names.lookup x = some .local) (hy : X.env.scope.names.lookup y = some .local)
    (ha : PA X [ea, eb] (tEvs c g W (.cons a (.cons b .nil)))) (hw : swappedStores [.Tuple [.Name x px, .Name y py] kt pt] (.Tuple [ea, eb] k2 pt2) X.env = pure (some [x, y])) :
    PS X (.Assign [.Tuple [.Name x px, .Name y py] kt pt] (.Tuple [ea, eb] k2 pt2) pos) (tS c g W (.asg (.tup (.cons (.var i) (.cons (.var j) .nil))) (.tup (.cons a (.cons b .nil))))) :=
  (ps_par hc hN hi hj hij hx hy ha hw (sole_plain rfl)).imp fun D V H ⟨σ, F, Ls, s, h⟩ => by
    simp only [S.run, E.ev] at h
    split at h
    · rename_i ok
      generalize hes : Es.cons a (.cons b .nil) = es at h ⊢
      refine ⟨σ, F, Ls, s, ?_⟩
      have h' : FlW c W g D V F (Own Ls) H ((es.evs g σ).fl fun p => (if p.1.length ≤ LIM then R.ok (Slot.v (.tup p.1), p.2) else R.stuck).fl fun q => (match (T.tup (.cons (.var i) (.cons (.var j) .nil))).put q.1 q.2 with
        | some σ2 => .next σ2
        | none => .stuck)) := by
        cases e : es.evs g σ with
        | ok p => obtain ⟨p, σ1⟩ := p; simp only [e, R.bind] at h; exact h
        | exc x σ1 => simp only [e, R.bind] at h; exact h
        | stuck => simp only [e, R.bind] at h; exact h
      refine h'.rw.imp fun vs σ1 F1 Ls1 H1 s1 t1 h1 xs rs => ?_
      dsimp only at h1
      split at h1
      · simp only [R.fl, T.put, Slot.fz, Cell.fz] at h1
        cases vs with
        | nil => exact h1.elim
        | cons v vs => cases vs with
          | nil => exact h1.elim
          | cons w vs => cases vs with
            | cons _ _ => exact h1.elim
            | nil =>
              simp only [Rps] at rs
              obtain ⟨x1, r1, rfl, q1, x2, r2, rfl, q2, rfl⟩ := rs
              refine ⟨x1, x2, rfl, ?_⟩
              simp only [Ts.puts, T.put, Option.bind_some] at h1
              obtain ⟨L2, s2, o2⟩ := s1.putAny (i := i) (RpS.v q1) (fun _ z => z.elim)
              obtain ⟨L3, s3, o3⟩ := s2.putAny (i := j) (RpS.v q2) (fun _ z => z.elim)
              have k1 : g.mine.contains i = false ∧ g.mine.contains j = false := by simpa [okPut, T.ixs, Ts.ixs] using ok
              exact h1 _ F1 L3 H1 s3 ((KV.set k1.1).trans (KV.set k1.2)) (Tr.refl.sub fun a z => (o3 a z).elim (fun z => (o2 a z).elim id False.elim) False.elim)
      · exact h1.elim
    · exact h.elim
end
end PL
/-! PK4: statements that are held against the tree are run rightly. -/
namespace PL
open PySem PySem.Spec PyProof.Rows L2
def setIter : Expr → Bool
  | .Set _ _ _ => true
  | _ => false
/-- a, b = x, y -/
def chkPar (t : T) (e : E) (K : Ck) (tg ee : Expr) : Bool := match t, e, tg, ee with
  | .tup (.cons (.var i) (.cons (.var j) .nil)), .tup (.cons a (.cons b .nil)), .Tuple [.Name x px, .Name y py] _ _, .Tuple [ea, eb] _ _ =>
    K.name i x && (K.name j y && ((i == j) == false && ((x == y) == false && (py.line == px.line && ((foldedForSure 8 ea && foldedForSure 8 eb) == false && ((constantsAlone 8 ea && constantsAlone 8 eb) == false && chkEs (.cons a (.cons b .nil)) K [ea, eb]))))))
  | _, _, _, _ => false
mutual
def chkS : S → Ck → Stmt → Bool
  | .asg t e, K, st => (match st with
    | .Assign [tg] ee _ => (notStar tg && (isComp ee == false && (inOrder tg ee && (chkT t K tg && chkE e K ee)))) || chkPar t e K tg ee
    | _ => false)
  | .iff k a b, K, st => (match st with
    | .If ek ea eb _ => chkE k K ek && (chkSs a K ea && chkSs b K eb)
    | _ => false)
  | .fr t s b, K, st => (match st with
    | .For tg iter body [] _ => chkT t K tg && (chkSrc s K iter && (setIter iter == false && chkSs b K body))
    | _ => false)
  | .ret e, K, st => (match st with
    | .Return (some ee) _ => chkE e K ee
    | .Return none _ => (match e with
      | .non => true
      | _ => false)
    | _ => false)
  | .ex e, K, st => (match st with
    | .Expr ee _ => isComp ee == false && chkE e K ee
    | _ => false)
  | .app p e, K, st => (match p, st with
    | .var i, .Expr (.Call (.Attribute (.Name x _) f p2) [ee] [] p3) _ => K.name i x && (f == ("append" : Str) && (p2.endLine == p3.line && (notStar ee && chkE e K ee)))
    | _, _ => false)
  | .raise e, K, st => (match st with
    | .Raise (some (.Call (.Name x _) [.Constant (.str _) _ _] [] _)) none _ => x == Str.ofString e && (K.gl x && K.T.excs.contains e)
    | _ => false)
  | .tryO b x r, K, st => (match st with
    | .Try body [.ExceptHandler (some (.Name y _)) none [.Return (some er) _] _] [] [] _ => y == Str.ofString x && (K.gl y && (K.T.cats.contains x && (isConst r && (chkE r K er && chkSs b K body))))
    | _ => false)
  | .pass, _, st => (match st with
    | .Pass _ => true
    | _ => false)
  | .brk, _, st => (match st with
    | .Break _ => true
    | _ => false)
  | .cnt, _, st => (match st with
    | .Continue _ => true
    | _ => false)
  | .setix _ _ _, _, _ => false
  | .setfld _ _ _, _, _ => false
  | .aug _ _ _, _, _ => false
  | .augfld _ _ _ _, _, _ => false
  | .augix _ _ _ _, _, _ => false
  | .ins _ _ _, _, _ => false
  | .ext _ _, _, _ => false
  | .whl _ _, _, _ => false
  | .raiseI _ _, _, _ => false
  | .tryA _ _ _ _ _, _, _ => false
def chkSs : Ss → Ck → List Stmt → Bool
  | .nil, _, l => l.isEmpty
  | .cons s ss, K, l => (match l with
    | st :: rest => chkS s K st && chkSs ss K rest
    | [] => false)
end
section
theorem soundSrc {tg : Expr} (s : Src) {c : Cfg} {k : Nat} {K : Ck} {W : WX} {X : Cx} {ex : Expr} (h : Hx c k K W X) (hc : chkSrc s K ex = true) : PI X tg ex (tI c (ctxF K.P k K.io) W s) := by
  cases s with
  | it e => exact i_it h.eK (soundE e c k K W X ex h hc).1.ev
  | r1 a =>
    simp only [chkSrc] at hc
    split at hc
    · obtain ⟨h1, hc⟩ := and2 hc
      obtain ⟨h2, h3⟩ := and2 hc
      obtain ⟨rfl, g1, m1⟩ := h.free h1
      exact i_r1 g1 m1 h2 (soundE a c k K W X _ h h3).1.pre
    · cases hc
  | r2 a b =>
    simp only [chkSrc] at hc
    split at hc
    · obtain ⟨h1, hc⟩ := and2 hc
      obtain ⟨h2, hc⟩ := and2 hc
      obtain ⟨h3, hc⟩ := and2 hc
      obtain ⟨h4, h5⟩ := and2 hc
      obtain ⟨rfl, g1, m1⟩ := h.free h1
      exact i_r2 g1 m1 h2 h3 (soundE a c k K W X _ h h4).1.pre (soundE b c k K W X _ h h5).1.pre
    · cases hc
  | _ => cases hc
theorem Hx.nd' {c : Cfg} {k : Nat} {K : Ck} {W : WX} {X : Cx} (h : Hx c k K W X) : X.N.Nodup := by rw [h.N]; exact h.nd
mutual
theorem soundT : ∀ (t : T) {c : Cfg} {k : Nat} {K : Ck} {W : WX} {X : Cx} {ex : Expr}, Hx c k K W X → chkT t K ex = true → PG X ex (tG c t) ∧ notStar ex = true
  | .var i, c, k, K, W, X, ex, h, hc => by
    simp only [chkT] at hc
    split at hc
    · obtain ⟨h1, h2, h3, h4⟩ := h.name hc
      exact ⟨g_var h.nd' h1 (.inl h2) (.inr h2), rfl⟩
    · cases hc
  | .tup ts, c, k, K, W, X, ex, h, hc => by
    simp only [chkT] at hc
    split at hc
    · obtain ⟨h1, h2⟩ := and2 hc
      obtain ⟨i1, i2⟩ := soundTs ts h h1
      exact ⟨g_tup h.calm h.eK i2 (eq_of_beq h2) i1, rfl⟩
    · cases hc
theorem soundTs : ∀ (ts : Ts) {c : Cfg} {k : Nat} {K : Ck} {W : WX} {X : Cx} {exs : List Expr}, Hx c k K W X → chkTs ts K exs = true → PGs X exs (tGs c ts) ∧ exs.all notStar = true
  | .nil, c, k, K, W, X, exs, h, hc => by
    simp only [chkTs] at hc
    cases exs with
    | nil => exact ⟨gs_nil, rfl⟩
    | cons _ _ => cases hc
  | .cons t ts, c, k, K, W, X, exs, h, hc => by
    simp only [chkTs] at hc
    split at hc
    · obtain ⟨h1, hc⟩ := and2 hc
      obtain ⟨h2, h3⟩ := and2 hc
      obtain ⟨i1, i2⟩ := soundTs ts h h3
      exact ⟨gs_cons h1 (soundT t h h2).1 i1, by simp [h1, i2]⟩
    · cases hc
end
theorem blockKind_of {c : Cfg} {k : Nat} {K : Ck} {W : WX} {X : Cx} (h : Hx c k K W X) : X.env.blockKind = .function := by
  unfold PySem.Env.blockKind
  rw [h.fnk]
  rfl
theorem sound_par {t : T} {e : E} {c : Cfg} {k : Nat} {K : Ck} {W : WX} {X : Cx} {tg ee : Expr} {pos : Pos} (h : Hx c k K W X) (hc : chkPar t e K tg ee = true) : PS X (.Assign [tg] ee pos) (tS c (ctxF K.P k K.io) W (.asg t e)) := by
  unfold chkPar at hc
  split at hc
  · obtain ⟨h1, hc⟩ := and2 hc
    obtain ⟨h2, hc⟩ := and2 hc
    obtain ⟨h3, hc⟩ := and2 hc
    obtain ⟨h4, hc⟩ := and2 hc
    obtain ⟨h5, hc⟩ := and2 hc
    obtain ⟨h6, hc⟩ := and2 hc
    obtain ⟨h7, h8⟩ := and2 hc
    obtain ⟨n1, n2, _, _⟩ := h.name h1
    obtain ⟨m1, m2, _, _⟩ := h.name h2
    obtain ⟨i1, _, i3⟩ := soundEs _ c k K W X _ h h8
    simp only [List.all_cons, List.all_nil, Bool.and_true, Bool.and_eq_true] at i3
    have h3 := eq_of_beq h3
    rw [beq_eq_false_iff_ne] at h3
    exact s_par h.calm h.nd' n1 m1 h3 n2 m2 i1 (swapped_two n2 m2 h5 (eq_of_beq h4) (blockKind_of h) i3.1 i3.2 (eq_of_beq h6) (eq_of_beq h7))
  · cases hc
theorem const_pe {r : E} {K : Ck} {er : Expr} (h : isConst r = true) (hc : chkE r K er = true) (c : Cfg) (g : Ctx) (W : WX) (Y : Cx) : PE Y er (tEv c g W r) := by
  cases r <;> first | (cases h; done) | skip
  all_goals
    simp only [chkE] at hc
    split at hc
    case h_2 => cases hc
  · exact ev_non
  · rw [← eq_of_beq hc]; exact ev_bl
  · rw [← eq_of_beq hc]; exact ev_int
  · rw [← eq_of_beq hc]; exact ev_str
theorem Hx.tr {c : Cfg} {k : Nat} {K : Ck} {W W' : WX} {X : Cx} (h : Hx c k K W X) (pn : List (Addr × Obj)) (xe : Value → Shared → Prop) (tk : Takes (X.tr pn xe) W') (ps : PassesOwn (model X.prog X.w) X.A X.env xe) : Hx c k K W' (X.tr pn xe) :=
  ⟨h.eK, h.calm, h.N, h.nd, h.sc, h.fnk, h.room, tk, h.fns, h.tf, h.stk, h.frm, ps⟩
theorem folded_plain {e : Expr} {env : PySem.Env} (h : setIter e = false) : ∀ x, foldedSetIterable e env x = pure x := by
  intro x
  unfold foldedSetIterable
  cases e <;> first | (cases h; done) | rfl
mutual
theorem soundS : ∀ (s : S) (c : Cfg) (k : Nat) (K : Ck) (W : WX) (X : Cx) (st : Stmt), Hx c k K W X → chkS s K st = true → PS X st (tS c (ctxF K.P k K.io) W s)
  | .asg t e, c, k, K, W, X, st, h, hc => by
    simp only [chkS] at hc
    split at hc
    · rw [Bool.or_eq_true] at hc
      rcases hc with hc | hc
      · obtain ⟨h1, hc⟩ := and2 hc
        obtain ⟨h2, hc⟩ := and2 hc
        obtain ⟨h3, hc⟩ := and2 hc
        obtain ⟨h4, h5⟩ := and2 hc
        exact s_asg h1 (soundE e c k K W X _ h h5).1.ev (soundT t h h4).1 (sole_plain (eq_of_beq h2)) (swapped_none h3)
      · exact sound_par h hc
    · cases hc
  | .iff t a b, c, k, K, W, X, st, h, hc => by
    simp only [chkS] at hc
    split at hc
    · obtain ⟨h1, hc⟩ := and2 hc
      obtain ⟨h2, h3⟩ := and2 hc
      exact s_if (soundE t c k K W X _ h h1).1.tst (soundSs a c k K W X _ h h2) (soundSs b c k K W X _ h h3)
    · cases hc
  | .fr t s b, c, k, K, W, X, st, h, hc => by
    simp only [chkS] at hc
    split at hc
    · obtain ⟨h1, hc⟩ := and2 hc
      obtain ⟨h2, hc⟩ := and2 hc
      obtain ⟨h3, h4⟩ := and2 hc
      exact s_for h.pass h.calm (soundSrc s h h2) (soundT t h h1).1 (soundSs b c k K W X _ h h4) (folded_plain (eq_of_beq h3))
    · cases hc
  | .ret e, c, k, K, W, X, st, h, hc => by
    simp only [chkS] at hc
    split at hc
    · rename_i ee p
      have ie := (soundE e c k K W X _ h hc).1.ev
      by_cases hv : ∃ i, e = .var i
      · obtain ⟨i, rfl⟩ := hv
        by_cases hm : (ctxF K.P k K.io).mine.contains i = true
        · exact s_ret (fun j e => by cases e; exact hm) ie
        · simp only [chkE] at hc
          split at hc
          · obtain ⟨h1, h2, h3, h4⟩ := h.name hc
            exact s_retV (by simpa using hm) h1 (.inl h2) h3 h4
          · cases hc
      · exact s_ret (fun j e => absurd ⟨j, e⟩ hv) ie
    · split at hc
      · exact s_retN
      · cases hc
    · cases hc
  | .ex e, c, k, K, W, X, st, h, hc => by
    simp only [chkS] at hc
    split at hc
    · obtain ⟨h1, h2⟩ := and2 hc
      exact s_ex (soundE e c k K W X _ h h2).1.ev (sw_plain (eq_of_beq h1))
    · cases hc
  | .app p e, c, k, K, W, X, st, h, hc => by
    simp only [chkS] at hc
    split at hc
    · obtain ⟨h1, hc⟩ := and2 hc
      obtain ⟨h2, hc⟩ := and2 hc
      obtain ⟨h3, hc⟩ := and2 hc
      obtain ⟨h4, h5⟩ := and2 hc
      obtain ⟨n1, n2, n3, n4⟩ := h.name h1
      have e2 := eq_of_beq h2
      subst e2
      exact s_app h.eK n1 (.inl n2) n3 n4 h3 h4 (soundE e c k K W X _ h h5).1.ev
    · cases hc
  | .raise e, c, k, K, W, X, st, h, hc => by
    simp only [chkS] at hc
    split at hc
    · obtain ⟨h1, hc⟩ := and2 hc
      obtain ⟨h2, h3⟩ := and2 hc
      have e1 := eq_of_beq h1
      subst e1
      exact s_raise h.eK h.calm h.tk (h.gl h2) (h.tf.exc e h3)
    · cases hc
  | .tryO b x r, c, k, K, W, X, st, h, hc => by
    simp only [chkS] at hc
    split at hc
    · obtain ⟨h1, hc⟩ := and2 hc
      obtain ⟨h2, hc⟩ := and2 hc
      obtain ⟨h3, hc⟩ := and2 hc
      obtain ⟨h4, hc⟩ := and2 hc
      obtain ⟨h5, h6⟩ := and2 hc
      have e1 := eq_of_beq h1
      subst e1
      exact s_tryO h.eK h.stk h.frm h.tk (h.gl h2) (h.tf.cat x h3) (fun W' pn xe tk ps => soundSs b c k K W' (X.tr pn xe) _ (h.tr pn xe tk ps) h6) h4 (fun Y => const_pe h4 h5 _ _ _ Y)
    · cases hc
  | .pass, c, k, K, W, X, st, h, hc => by
    simp only [chkS] at hc
    split at hc
    · exact s_pass
    · cases hc
  | .brk, c, k, K, W, X, st, h, hc => by
    simp only [chkS] at hc
    split at hc
    · exact s_brk
    · cases hc
  | .cnt, c, k, K, W, X, st, h, hc => by
    simp only [chkS] at hc
    split at hc
    · exact s_cnt
    · cases hc
  | .setix _ _ _, _, _, _, _, _, _, _, hc => by simp [chkS] at hc
  | .setfld _ _ _, _, _, _, _, _, _, _, hc => by simp [chkS] at hc
  | .aug _ _ _, _, _, _, _, _, _, _, hc => by simp [chkS] at hc
  | .augfld _ _ _ _, _, _, _, _, _, _, _, hc => by simp [chkS] at hc
  | .augix _ _ _ _, _, _, _, _, _, _, _, hc => by simp [chkS] at hc
  | .ins _ _ _, _, _, _, _, _, _, _, hc => by simp [chkS] at hc
  | .ext _ _, _, _, _, _, _, _, _, hc => by simp [chkS] at hc
  | .whl _ _, _, _, _, _, _, _, _, hc => by simp [chkS] at hc
  | .raiseI _ _, _, _, _, _, _, _, _, hc => by simp [chkS] at hc
  | .tryA _ _ _ _ _, _, _, _, _, _, _, _, hc => by simp [chkS] at hc
theorem soundSs : ∀ (ss : Ss) (c : Cfg) (k : Nat) (K : Ck) (W : WX) (X : Cx) (l : List Stmt), Hx c k K W X → chkSs ss K l = true → PSs X l (tSs c (ctxF K.P k K.io) W ss)
  | .nil, c, k, K, W, X, l, h, hc => by
    simp only [chkSs] at hc
    cases l with
    | nil => exact ss_nil
    | cons _ _ => cases hc
  | .cons s ss, c, k, K, W, X, l, h, hc => by
    simp only [chkSs] at hc
    split at hc
    · obtain ⟨h1, h2⟩ := and2 hc
      exact ss_cons (soundS s c k K W X _ h h1) (soundSs ss c k K W X _ h h2)
    · cases hc
end
end
end PL
/-! PK5: all defs of the text. -/
namespace PL
open PySem PySem.Spec PyProof.Rows L2
theorem zip_look {α : Type} : ∀ {ps : List Str} {us : List α}, ps.Nodup → ps.length = us.length → (ps.filter fun n => ((ps.zip us).lookup n).isNone) = [] ∧ ps.filterMap (fun n => ((ps.zip us).lookup n).map fun x => (n, x)) = ps.zip us
  | [], [], _, _ => ⟨rfl, rfl⟩
  | [], _ :: _, _, h => by simp at h
  | _ :: _, [], _, h => by simp at h
  | p :: ps, u :: us, nd, h => by
    obtain ⟨n1, n2⟩ := List.nodup_cons.mp nd
    obtain ⟨i1, i2⟩ := zip_look (us := us) n2 (by simpa using h)
    have e : ∀ n ∈ ps, (((p, u) :: ps.zip us).lookup n) = (ps.zip us).lookup n := fun n hn => by
      have : (n == p) = false := beq_eq_false_iff_ne.mpr fun z => n1 (by rw [← z]; exact hn)
      rw [List.lookup_cons, this]
    have e0 : ((p, u) :: ps.zip us).lookup p = some u := by simp
    rw [List.zip_cons_cons]
    constructor
    · rw [List.filter_cons]
      simp only [e0, Option.isNone_some, Bool.false_eq_true, if_false]
      rw [← i1]
      exact List.filter_congr fun n hn => by rw [e n hn]
    · rw [List.filterMap_cons]
      simp only [e0, Option.map_some]
      congr 1
      have : ∀ l : List Str, (∀ n ∈ l, n ∈ ps) → l.filterMap (fun n => (((p, u) :: ps.zip us).lookup n).map fun x => (n, x)) = l.filterMap (fun n => ((ps.zip us).lookup n).map fun x => (n, x)) := by
        intro l
        induction l with
        | nil => intro _; rfl
        | cons n r ih =>
          intro hl
          rw [List.filterMap_cons, List.filterMap_cons, e n (hl n (List.mem_cons_self ..)), ih fun m hm => hl m (List.mem_cons_of_mem _ hm)]
      exact (this ps fun _ h => h).trans i2
theorem bind_plain {x qual : Str} {params : Arguments} {body : List Stmt} {scope : Scope} {kV doc pm cdv ct : Value} {an : Option Addr} {ps : List Str} (h1 : params.posonlyargs = []) (h2 : params.kwonlyargs = []) (h3 : params.vararg = none) (h4 : params.kwarg = none)
    (hp : params.args.map (·.arg) = ps) (nd : ps.Nodup) (us : List Value) (hl : us.length = ps.length) : bindArgs (PySem.W.fnOf x qual params body scope .none kV doc pm an cdv ct) ⟨us, []⟩ = pure (ps.zip us) := by
  obtain ⟨z1, z2⟩ := zip_look nd hl.symm
  unfold bindArgs PySem.W.fnOf
  simp only [h1, h2, h3, h4, hp, List.map_nil, List.nil_append, List.append_nil]
  have e : seqItems? Value.none = pure none := rfl
  simp [e, hl, z1, z2]
/-- a def of the text: the small language's, the kit's -/
structure Row where
  f : String
  d : Def
  dd : He.DefD
  N : List Str
def Row.ps (r : Row) : List Str := r.dd.params.args.map (·.arg)
def rowAt (rows : List Row) (f : String) : Option Row := rows.find? fun r => r.f == f
def fnOfRows (rows : List Row) (f : String) : Option Def := (rowAt rows f).map (·.d)
def subOf : List (String × String × Bool) → String → String → Option Bool
  | [], _, _ => none
  | (a, b, k) :: r, d, x => if a == d && b == x then some k else subOf r d x
def unDoc : List Stmt → List Stmt
  | .Expr (.Constant (.str _) _ _) _ :: r => r
  | l => l
def nodupB : List Str → Bool
  | [] => true
  | x :: r => !(r.contains x) && nodupB r
theorem nodupB_ok : ∀ {l : List Str}, nodupB l = true → l.Nodup
  | [], _ => List.nodup_nil
  | x :: r, h => by
    simp only [nodupB, Bool.and_eq_true, Bool.not_eq_true'] at h
    exact List.nodup_cons.mpr ⟨by simpa using h.1, nodupB_ok h.2⟩
def scOk (N ps : List Str) (sc : Scope) : Bool := sc.kind == .function && (sc.isCoroutine == false && (sc.isGenerator == false && (nodupB N && (N.take ps.length == ps && (ps.all (fun x => sc.names.lookup x == some .local) && sc.names.all fun y => !(y.2 == .free))))))
theorem scOk_ok {N ps : List Str} {sc : Scope} (h : scOk N ps sc = true) : FnScope N ps sc := by
  obtain ⟨h1, h⟩ := and2 h
  obtain ⟨h2, h⟩ := and2 h
  obtain ⟨h3, h⟩ := and2 h
  obtain ⟨h4, h⟩ := and2 h
  obtain ⟨h5, h⟩ := and2 h
  obtain ⟨h6, h7⟩ := and2 h
  refine ⟨eq_of_beq h1, eq_of_beq h2, eq_of_beq h3, nodupB_ok h4, eq_of_beq h5, fun x hx => .inl ?_, fun y hy e => ?_⟩
  · exact eq_of_beq (List.all_eq_true.mp h6 x hx)
  · have := List.all_eq_true.mp h7 y hy
    rw [e] at this
    cases this
/-- a def is held against the tree -/
def chkRow (P : Prog) (T : Txt) (r : Row) : Bool :=
  r.dd.dfl.isEmpty && (r.dd.kwd.isEmpty && (r.dd.params.posonlyargs.isEmpty && (r.dd.params.kwonlyargs.isEmpty && (r.dd.params.vararg.isNone && (r.dd.params.kwarg.isNone && (scOk r.N r.ps r.dd.scope && (r.N.length == r.d.ns && (r.ps.length == r.d.ps && (decide (r.d.ps ≤ r.d.ns) &&
    (r.d.io.all (fun i => decide (i < r.d.ps)) && chkSs r.d.body ⟨P, T, r.N, r.dd.scope.names, r.d.io⟩ (unDoc r.dd.body)))))))))))
theorem unDoc_ok {c : Cfg} {g : Ctx} {W : WX} {X : Cx} {ss : Ss} {l : List Stmt} (h : PSs X (unDoc l) (tSs c g W ss)) : PSs X l (tSs c g W ss) := by
  unfold unDoc at h
  split at h
  · exact ss_doc h
  · exact h
theorem fdAt_of {K : PySem.W.Frag} {x qual : Str} {params : Arguments} {body : List Stmt} {scope : Scope} {dvs : List L2.V} {kws : List (Str × L2.V)} {f : Addr} {fd : FuncData} (F : FunD K x qual params body scope dvs kws f fd) : FdAt K f fd := by
  obtain ⟨oc, od, _, _, _, _, _, _, _, osl, _, e, _⟩ := F.ex
  exact ⟨oc, od, osl, e⟩
theorem ps_nodup {r : Row} (h : scOk r.N r.ps r.dd.scope = true) : r.ps.Nodup := by
  have S := scOk_ok h
  have := S.nd.sublist (List.take_sublist r.ps.length _)
  rw [S.pre] at this
  exact this
theorem fns_ok {c : Cfg} {P : Prog} {T : Txt} {pr : Program} {w : World} {mg : Str → Option Value} {base : Heap} {rows : List Row} (hP : P.fn = fnOfRows rows) (tf : TF c P T mg)
    (hd : ∀ f r, rowAt rows f = some r → c.pN f = r.ps ∧ ∃ fd, FunD c.K r.dd.name r.dd.qual r.dd.params r.dd.body r.dd.scope (r.dd.dvs c.K) (r.dd.kws c.K) (c.fA f) fd) (hc : rows.all (chkRow P T) = true) : ∀ n, Fns c P pr w mg base n := by
  intro n
  induction n with
  | zero =>
    refine ⟨fun f d e => ?_⟩
    rw [hP] at e
    obtain ⟨r, er, rfl⟩ := Option.map_eq_some_iff.mp e
    have hm := List.mem_of_find?_eq_some er
    obtain ⟨ep, fd, F⟩ := hd f r er
    have hck := List.all_eq_true.mp hc r hm
    unfold chkRow at hck
    obtain ⟨c1, hck⟩ := and2 hck
    obtain ⟨c2, hck⟩ := and2 hck
    obtain ⟨c3, hck⟩ := and2 hck
    obtain ⟨c4, hck⟩ := and2 hck
    obtain ⟨c5, hck⟩ := and2 hck
    obtain ⟨c6, hck⟩ := and2 hck
    obtain ⟨c7, hck⟩ := and2 hck
    have d0 : r.dd.dvs c.K = [] := by unfold He.DefD.dvs; rw [List.isEmpty_iff.mp c1]; rfl
    rw [d0] at F
    rw [ep]
    have bp := fun kV doc pm an cdv ct us hl => bind_plain (x := r.dd.name) (qual := r.dd.qual) (body := r.dd.body) (scope := r.dd.scope) (kV := kV) (doc := doc) (pm := pm) (an := an) (cdv := cdv) (ct := ct) (ps := r.ps) (List.isEmpty_iff.mp c3) (List.isEmpty_iff.mp c4) (by simpa using c5) (by simpa using c6) rfl (ps_nodup c7) us hl
    refine ⟨fd, fdAt_of F, ⟨fun vs H Q E h => ?_, fun A outer s H args us vs Q E _ _ _ _ h => ?_⟩, F.bindsN bp, F.kp, F.bindsA bp⟩
    · obtain ⟨_, ss, F, Ls, s, h⟩ := h
      exact h.elim
    · obtain ⟨_, ss, F, Ls, s, h⟩ := h
      exact h.elim
  | succ n ih =>
    refine ⟨fun f d e => ?_⟩
    have e' := e
    rw [hP] at e'
    obtain ⟨r, er, rfl⟩ := Option.map_eq_some_iff.mp e'
    have hm := List.mem_of_find?_eq_some er
    obtain ⟨ep, fd, F⟩ := hd f r er
    have hck := List.all_eq_true.mp hc r hm
    unfold chkRow at hck
    obtain ⟨c1, hck⟩ := and2 hck
    obtain ⟨c2, hck⟩ := and2 hck
    obtain ⟨c3, hck⟩ := and2 hck
    obtain ⟨c4, hck⟩ := and2 hck
    obtain ⟨c5, hck⟩ := and2 hck
    obtain ⟨c6, hck⟩ := and2 hck
    obtain ⟨c7, hck⟩ := and2 hck
    obtain ⟨c8, hck⟩ := and2 hck
    obtain ⟨c9, hck⟩ := and2 hck
    obtain ⟨c10, hck⟩ := and2 hck
    obtain ⟨c11, c12⟩ := and2 hck
    have S := scOk_ok c7
    have d0 : r.dd.dvs c.K = [] := by unfold He.DefD.dvs; rw [List.isEmpty_iff.mp c1]; rfl
    rw [d0] at F
    rw [ep]
    have bp := fun kV doc pm an cdv ct us hl => bind_plain (x := r.dd.name) (qual := r.dd.qual) (body := r.dd.body) (scope := r.dd.scope) (kV := kV) (doc := doc) (pm := pm) (an := an) (cdv := cdv) (ct := ct) (ps := r.ps) (List.isEmpty_iff.mp c3) (List.isEmpty_iff.mp c4) (by simpa using c5) (by simpa using c6) rfl (ps_nodup c7) us hl
    refine ⟨fd, fdAt_of F, F.ok S (fun vs H Q E h => ?_) (fun cdv A outer s H vs Q E hr h => ⟨_, ?_, body_end e (eq_of_beq c8) (of_decide_eq_true c10) (fun i hi => of_decide_eq_true (List.all_eq_true.mp c11 i hi)) h⟩), F.bindsN bp, F.kp, F.bindsA bp⟩
    · rw [eq_of_beq c9]
      exact h.1
    · refine unDoc_ok (soundSs r.d.body c n ⟨P, T, r.N, r.dd.scope.names, r.d.io⟩ _ _ _ ?_ c12)
      exact ⟨rfl, rfl, rfl, S.nd, rfl, S.kind, hr, takes_of rfl rfl rfl rfl, ih, tf, rfl, rfl, passes_of rfl⟩
/-! ### the law's end -/
/-- the law, at a script of ints -/
theorem law_end {c : Cfg} {P : Prog} {k : Nat} {d : Def} {H : Hp} {a : Addr} {ns : List Int} (hps : d.ps = 1) (hO : Rd H a (.lst (ns.map V.int))) (h : callF P k "law" [.v (.lst (ns.map Val.int))] = .ok (.v (.bl true)) []) :
    spC c P k "law" d [.ref a] H (fun v _ => v = .bl true) fun _ _ _ => False := by
  refine ⟨by simp [hps], [.v (.lst (ns.map Val.int))], fun x => x = a, fun _ _ => False, st_frozen (vs := [.lst (ns.map Val.int)]) (fun b e => by subst e; exact hO.elim (fun z => ⟨_, z⟩) fun ⟨o, z⟩ => ⟨_, z⟩) (Rps.one (by
    simp only [Rp]
    exact ⟨a, ns.map V.int, rfl, rfl, hO, Rps.ofInts ns⟩)), ?_⟩
  rw [h]
  intro x S F' Ls' H' s' rx _ _
  have := rx.1
  simpa only [Rp] using this
/-- no list stands in the written part -/
def noList (K : PySem.W.Frag) : Bool := K.all fun p => !(p.2.cls == .type "list")
theorem noList_ok {K : PySem.W.Frag} (h : noList K = true) {a : Addr} {o : Obj} (e : K.lookup a = some o) : o.cls ≠ .type "list" := by
  unfold noList at h
  have key : ∀ l : List (Addr × Obj), (l.all fun p => !(p.2.cls == .type "list")) = true → l.lookup a = some o → o.cls ≠ .type "list" := by
    intro l
    induction l with
    | nil => intro _ e; cases e
    | cons p r ih =>
      intro h e
      simp only [List.all_cons, Bool.and_eq_true, Bool.not_eq_true'] at h
      rw [List.lookup_cons] at e
      split at e
      · cases e
        exact fun z => by rw [z] at h; exact absurd h.1 (by simp)
      · exact ih h.2 e
  exact key K h e
theorem rd_of {K : PySem.W.Frag} {H : Hp} {a : Addr} {xs : List L2.V} (h : noList K = true) (q : SqL K H a xs) : Rd H a (.lst xs) := by
  rcases q with q | ⟨o, its, n, e, c, _⟩
  · exact q
  · exact absurd c (noList_ok h e)
/-! ### the facts of the top -/
def cfgOf (rows : List Row) (K : PySem.W.Frag) : Cfg where
  K := K
  cA := fun e => He.ga K (Str.ofString e)
  fA := fun f => match rowAt rows f with
    | some r => He.fAd K r.dd.at_
    | none => 0
  pN := fun f => match rowAt rows f with
    | some r => r.ps
    | none => []
def cvOf (T : Txt) (K : PySem.W.Frag) (x : String) : Value := if T.own.contains x then .ref (He.ga K (Str.ofString x)) else .type x
def noDbg (x : String) : Bool := !(Str.ofString x == ("__debug__" : Str))
def exB (rows : List Row) (T : Txt) (K : PySem.W.Frag) : Bool :=
  T.free.all (fun f => (He.Fa.free (Str.ofString f)).ok K) && (T.fns.all (fun f => (match rowAt rows f with
    | some r => decide (r.dd.at_ = (Str.ofString f, none))
    | none => false) && ((He.Fa.glo (Str.ofString f)).ok K && noDbg f)) && ((!T.gcd || He.eqO (PySem.W.nsIn K mainGlobals (Str.ofString "gcd")) (some (some (.builtin "math.gcd")))) &&
  (T.excs.all (fun e => (He.Fa.glo (Str.ofString e)).ok K && ((He.Fa.exc (Str.ofString e)).ok K && noDbg e)) && (T.cats.all (fun x => noDbg x && (if T.own.contains x then (He.Fa.glo (Str.ofString x)).ok K else (He.Fa.free (Str.ofString x)).ok K && (decide (bootBuiltins (Str.ofString x) = some (.type x)) && !(Str.ofString x == ("__name__" : Str))))) &&
  (T.subs.all (fun p => decide (PySem.W.exmOne K (.ref (He.ga K (Str.ofString p.1))) (cvOf T K p.2.1) = some p.2.2)) && noList K)))))
theorem subOf_mem : ∀ {l : List (String × String × Bool)} {d x : String} {b : Bool}, subOf l d x = some b → (d, x, b) ∈ l
  | [], _, _, _, h => by cases h
  | (a, y, k) :: r, d, x, b, h => by
    unfold subOf at h
    split at h
    · rename_i hc
      obtain ⟨h1, h2⟩ := and2 hc
      have h1 := eq_of_beq h1
      have h2 := eq_of_beq h2
      subst h1; subst h2
      cases h
      exact List.mem_cons_self ..
    · exact List.mem_cons_of_mem _ (subOf_mem h)
theorem tf_of {rows : List Row} {T : Txt} {K : PySem.W.Frag} {h : Heap} {mg : Str → Option Value} {P : Prog} (hs : P.sub = subOf T.subs) (X : K.In h) (G : h.Ns mainGlobals mg) (e : exB rows T K = true) : TF (cfgOf rows K) P T mg := by
  unfold exB at e
  obtain ⟨e1, e⟩ := and2 e
  obtain ⟨e2, e⟩ := and2 e
  obtain ⟨e3, e⟩ := and2 e
  obtain ⟨e4, e⟩ := and2 e
  obtain ⟨e5, e⟩ := and2 e
  obtain ⟨e6, e7⟩ := and2 e
  have nd : ∀ {x : String}, noDbg x = true → (Str.ofString x == ("__debug__" : Str)) = false := fun {x} h => by simpa [noDbg] using h
  refine ⟨fun f hf => ?_, fun f hf => ?_, fun hg => ?_, fun x hx => ?_, fun x hx => ?_⟩
  · exact He.free_ok X G (List.all_eq_true.mp e1 f (by simpa using hf))
  · obtain ⟨a1, a2⟩ := and2 (List.all_eq_true.mp e2 f (by simpa using hf))
    obtain ⟨a3, a4⟩ := and2 a2
    refine ⟨?_, nd a4⟩
    have g := He.glo_ok X G a3
    rw [g]
    simp only [cfgOf]
    cases q : rowAt rows f with
    | none => rw [q] at a1; cases a1
    | some r =>
      rw [q] at a1
      have a1 : r.dd.at_ = (Str.ofString f, none) := of_decide_eq_true a1
      simp only [He.fAd, a1]
  · rw [hg] at e3
    exact PySem.W.mg_of X G (He.eqO_ok (by simpa using e3))
  · obtain ⟨a1, a2⟩ := and2 (List.all_eq_true.mp e4 x (by simpa using hx))
    obtain ⟨a3, a4⟩ := and2 a2
    obtain ⟨b1, b2, b3, b4⟩ := He.exc_ok a3
    exact ⟨He.glo_ok X G a1, nd a4, ⟨_, _, _, _, PySem.F.excBase_ValueError, b1⟩, b2, b3, b4⟩
  · obtain ⟨a1, a2⟩ := and2 (List.all_eq_true.mp e5 x (by simpa using hx))
    refine ⟨cvOf T K x, nd a1, ?_, fun d b hb => ?_⟩
    · unfold cvOf
      split at a2
      · rename_i ho
        rw [if_pos ho]
        exact .inl (He.glo_ok X G a2)
      · rename_i ho
        rw [if_neg ho]
        obtain ⟨a3, a4⟩ := and2 a2
        obtain ⟨a5, a6⟩ := and2 a4
        exact .inr ⟨He.free_ok X G a3, of_decide_eq_true a5, by simpa using a6⟩
    · rw [hs] at hb
      exact of_decide_eq_true (List.all_eq_true.mp e6 _ (subOf_mem hb))
end PL
/-! PK6: the hook of the top run, a law from its plain statement. -/
namespace PL
open PySem PySem.Spec PyProof.Rows L2
abbrev AlP : Type := Bool × List He.FnW
def obsP (ex : PySem.W.Frag → Bool) (fn : List He.DefD) (K : PySem.W.Frag) : AlP := (ex K && fn.all fun d => d.ok K, fn.map fun d => He.fnW K d.at_)
def valP (fn : List He.DefD) : AlP := (true, fn.map He.DefD.val)
def obsPG (n : Nat) (ex : PySem.W.Frag → Bool) (fn : List He.DefD) (g : Addr → Option Obj) : AlP := obsP ex fn (He.frG g (He.asD g n))
def hookP (n : Nat) (ex : PySem.W.Frag → Bool) (fn : List He.DefD) : PySem.W.Hook where
  α := AlP
  obs := fun s => obsPG n ex fn s.heap.get?
  val := fun _ => valP fn
  says := fun _ h => ∃ K : PySem.W.Frag, K.In h ∧ obsP ex fn K = valP fn
  of := fun _ _ e => ⟨_, He.frG_in, e⟩
  keeps := fun _ _ _ ⟨K, hK, c⟩ k => ⟨K, PySem.W.Frag.In.keeps hK k, c⟩
theorem obsPG_eq {n : Nat} {ex : PySem.W.Frag → Bool} {fn : List He.DefD} {g : Addr → Option Obj} {s : Shared} (h : ∀ a, g a = s.heap.get? a) : obsPG n ex fn g = (hookP n ex fn).obs s := by
  have e : g = s.heap.get? := funext h
  rw [e] <;> rfl
theorem obsP_def {ex : PySem.W.Frag → Bool} {fn : List He.DefD} {K : PySem.W.Frag} (c : obsP ex fn K = valP fn) : ex K = true ∧ ∀ d ∈ fn, ∃ fd, FunD K d.name d.qual d.params d.body d.scope (d.dvs K) (d.kws K) (He.fAd K d.at_) fd := by
  have c1 : (ex K && fn.all fun d => d.ok K) = true := congrArg (fun z : AlP => z.1) c
  obtain ⟨h1, h2⟩ := and2 c1
  refine ⟨h1, fun d hd => ?_⟩
  obtain ⟨i, hi, e⟩ := List.mem_iff_getElem.mp hd
  have e1 : fn.map (fun d => He.fnW K d.at_) = fn.map He.DefD.val := congrArg (fun z : AlP => z.2) c
  have e2 : (fn.map fun d => He.fnW K d.at_)[i]? = (fn.map He.DefD.val)[i]? := by rw [e1]
  rw [List.getElem?_map, List.getElem?_map, List.getElem?_eq_getElem hi, e] at e2
  exact He.DefD.funD (Option.some.inj e2) (List.all_eq_true.mp h2 d hd)
theorem cx_no {P : Program} {w : World} {o : List PySem.Env} {H : Hp} {s : Shared} {e : Value} {s' : Shared} : ¬ L2.CX P w o H s (fun _ _ _ => False) e s' := fun ⟨_, _, _, _, _, _, _, _, _, _, _, _, z⟩ => z
/-- the walk of a law, from its plain statement -/
theorem walk_P {l : PySem.W.OpenLaw} {n k : Nat} {q : Program} {loose : List Str} {XP : (Str → Option Value) → Heap → Prop} {d : DefRec} {N : Nat} {rows : List Row} {T : Txt} {P : Prog} {r : Row} {x : Str}
    (hn : l.most = some n) (hn2 : n ≤ sizeLine) (hdf : d.params.defaults = []) (hname : d.name = Str.ofString "law") (hr : Room k callerA) (hP : P.fn = fnOfRows rows) (hs : P.sub = subOf T.subs) (hc : rows.all (chkRow P T) = true) (hl : T.fns.contains "law" = true)
    (hrow : rowAt rows "law" = some r) (hps : r.ps = [x]) (hps1 : r.d.ps = 1)
    (H : ∀ ns : List Int, ns.length ≤ n → callF P k "law" [.v (.lst (ns.map Val.int))] = .ok (.v (.bl true)) []) :
    PySem.W.WalkO q loose XP (hookP N (exB rows T) (rows.map (·.dd))).says l.row.toRowW d [] (fun f vs => PySem.call f vs) := by
  refine Att.attach_call hn hdf fun w s₀ s₁ mg mb fa o pm cd doc a vs ns G Y ho hd hcd hmg hobj hints hlen hg => ?_
  obtain ⟨K, KX, c⟩ := Y
  obtain ⟨ex, hdefs⟩ := obsP_def c
  have tf : TF (cfgOf rows K) P T mg := tf_of hs KX G.T.g ex
  have hdef : ∀ f r, rowAt rows f = some r → (cfgOf rows K).pN f = r.ps ∧ ∃ fd, FunD (cfgOf rows K).K r.dd.name r.dd.qual r.dd.params r.dd.body r.dd.scope (r.dd.dvs (cfgOf rows K).K) (r.dd.kws (cfgOf rows K).K) ((cfgOf rows K).fA f) fd := fun f r e => by
    have hm : r ∈ rows := List.mem_of_find?_eq_some e
    refine ⟨by simp only [cfgOf, e], ?_⟩
    have := hdefs r.dd (List.mem_map_of_mem hm)
    simpa only [cfgOf, e] using this
  have nl : noList K = true := (and2 (and2 (and2 (and2 (and2 (and2 ex).2).2).2).2).2).2
  have hfa := (tf.fns "law" hl).1
  rw [hname] at hmg
  have efa : fa = (cfgOf rows K).fA "law" := by
    have := hmg.symm.trans hfa
    cases this
    rfl
  have fns : ∀ base : Heap, Fns (cfgOf rows K) P l.prog w mg base k := fun base => fns_ok hP tf hdef hc k
  have hd1 : P.fn "law" = some r.d := by
    rw [hP]
    unfold fnOfRows
    rw [hrow]
    rfl
  have pn : (cfgOf rows K).pN "law" = [x] := by simp only [cfgOf, hrow, hps]
  obtain ⟨fd, fd0, _, _, _, hb⟩ := (fns s₁.heap).fn "law" r.d hd1
  rw [pn] at hb
  refine law_call (P := l.prog) (sp := spC (cfgOf rows K) P k "law" r.d) (CX := L2.CX l.prog w) (k := k) (fd := fd) (x := x) KX G.T.g G.T.b G.T.builtins G.T.nolimit hg hobj hints (Nat.le_trans hlen hn2) hr (fun base _ _ => ?_) (fun s u => hb s [u] rfl) (fun H' _ hS => ?_) (fun H' e s' h => cx_no h)
  · obtain ⟨fd', fd1, F, _⟩ := (fns base).fn "law" r.d hd1
    rw [pn] at F
    rw [efa, fd0.uniq fd1]
    exact F
  · exact law_end hps1 (rd_of nl hS) (H ns hlen)
end PL
/-! M0: expressions that leave the names as they are, by their values. -/
namespace PL
open PySem (Str)
def negV : Val → Option Slot
  | .int i => some (.v (.int (-i)))
  | _ => none
def noV (v : Val) : Option Slot := (truth v).map fun k => .v (.bl (!k))
def isNV (n : Bool) : Val → Option Slot
  | .non => some (.v (.bl (!n)))
  | _ => some (.v (.bl n))
def isBV (n b : Bool) : Val → Option Slot
  | .bl k => some (.v (.bl ((k == b) != n)))
  | _ => none
def tyIsV (n : Bool) (t : String) (v : Val) : Option Slot := if tyKn v then some (.v (.bl ((tyName v == t) != n))) else none
def isiVo (t : String) (v : Val) : Option Slot := if isiKn v then some (.v (.bl (isiV v t))) else none
def revV : Val → Option Slot
  | .lst vs => some (.ml vs.reverse)
  | .tup vs => some (.v (.tup vs.reverse))
  | .str x => some (.v (.str ⟨x.cps.toList.reverse.toArray⟩))
  | _ => none
def andS (s : Slot) (t : Option Slot) : Option Slot := match truth s.fz with
  | some true => t
  | some false => some (.v s.fz)
  | none => none
def orS (s : Slot) (t : Option Slot) : Option Slot := match truth s.fz with
  | some true => some (.v s.fz)
  | some false => t
  | none => none
/-- a name's own value, not a list that it alone holds -/
def fixS : Option Slot → Option Slot
  | some (.cl (.v x)) => some (.v x)
  | _ => none
def outS (lend : Bool) : Out → Option Slot
  | .ok r [] => if lend && !r.flat then none else some r
  | _ => none
def hasL : As → Bool
  | .nil => false
  | .cons .lend e as => isPl e || hasL as
  | .cons _ _ as => hasL as
where isPl : E → Bool
  | .var _ => true
  | .fld _ _ => true
  | _ => false
def tupS (vs : List Val) : Option Slot := if vs.length ≤ LIM then some (.v (.tup vs)) else none
def lstS (vs : List Val) : Option Slot := if vs.length ≤ LIM then some (.ml vs) else none
def chainS (x y : Val) (op op' : COp) (z : Option Val) : Option Slot := match cmpV op x y with
  | some false => some (.v (.bl false))
  | some true => z.bind fun z => (cmpV op' y z).map fun k => .v (.bl k)
  | none => none
structure Sem3 where
  s : Option Slot
  v : Option Val
  t : Option Bool
def mk3 (so : Option Slot) : Sem3 := ⟨so, so.map Slot.fz, (so.map Slot.fz).bind truth⟩
def mkV (so : Option Slot) (v : Option Val) : Sem3 := ⟨so, v, v.bind truth⟩
def mkT (so : Option Slot) (t : Option Bool) : Sem3 := ⟨so, so.map Slot.fz, t⟩
mutual
def E.sem (X : Ctx) (σ : Env) : E → Sem3
  | .var i => mkV (fixS (σ[i]?).join) ((rdP σ (.var i)).map Slot.fz)
  | .fld i f => mkV (fixS (rdP σ (.fld i f))) ((rdP σ (.fld i f)).map Slot.fz)
  | .non => mk3 (some (.v .non))
  | .bl b => mk3 (some (.v (.bl b)))
  | .int i => mk3 (some (.v (.int i)))
  | .str s => mk3 (some (.v (.str s)))
  | .glob x => mk3 ((X.glob x).map Slot.v)
  | .bin op a b => mk3 ((a.sem X σ).v.bind fun x => (b.sem X σ).v.bind fun y => binV op x y)
  | .neg a => mk3 ((a.sem X σ).v.bind negV)
  | .no a => mkT ((a.sem X σ).v.bind noV) ((a.sem X σ).t.map (!·))
  | .and a b => mkT ((a.sem X σ).s.bind fun s => andS s (b.sem X σ).s) ((a.sem X σ).t.bind fun k => if k then (b.sem X σ).t else some false)
  | .or a b => mkT ((a.sem X σ).s.bind fun s => orS s (b.sem X σ).s) ((a.sem X σ).t.bind fun k => if k then some true else (b.sem X σ).t)
  | .cmp op a b => mk3 ((a.sem X σ).v.bind fun x => (b.sem X σ).v.bind fun y => (cmpV op x y).map fun k => .v (.bl k))
  | .cmp2 op op' a b c => mk3 ((a.sem X σ).v.bind fun x => (b.sem X σ).v.bind fun y => chainS x y op op' (c.sem X σ).v)
  | .isN n a => mk3 ((a.sem X σ).v.bind (isNV n))
  | .isB n b a => mk3 ((a.sem X σ).v.bind (isBV n b))
  | .tyIs n t a => mk3 ((a.sem X σ).v.bind (tyIsV n t))
  | .isi a t => mk3 ((a.sem X σ).v.bind (isiVo t))
  | .ite c a b => mkT ((c.sem X σ).t.bind fun k => if k then (a.sem X σ).s else (b.sem X σ).s) ((c.sem X σ).t.bind fun k => if k then (a.sem X σ).t else (b.sem X σ).t)
  | .tup es => mk3 ((es.vals X σ).bind tupS)
  | .lst es => mk3 ((es.vals X σ).bind lstS)
  | .ix a i => mk3 ((a.sem X σ).v.bind fun x => (i.sem X σ).v.bind fun y => (ixV x y).map Slot.v)
  | .sl a lo hi => mk3 ((a.sem X σ).v.bind fun x => (lo.slo X σ).bind fun l => (hi.slo X σ).bind fun h => slV x l h)
  | .rev a => mk3 ((a.sem X σ).v.bind revV)
  | .call f as => mk3 ((as.args X σ).bind fun ss => outS (hasL as) (X.call f ss))
  | .bi f es => mk3 ((es.valp X σ).bind fun vs => biV f vs)
  | .dct _ _ => mk3 none
  | .mk _ _ => mk3 none
  | .meth _ _ => mk3 none
  | .pop _ _ => mk3 none
  | .get _ _ _ => mk3 none
  | .join _ _ => mk3 none
  | .split _ _ => mk3 none
  | .index _ _ => mk3 none
  | .lc _ _ _ _ _ => mk3 none
  | .lc2 _ _ _ _ _ _ _ _ _ => mk3 none
  | .dc _ _ _ _ _ _ => mk3 none
  | .fs _ => mk3 none
def Es.vals (X : Ctx) (σ : Env) : Es → Option (List Val)
  | .nil => some []
  | .cons e es => (e.sem X σ).s.bind fun s => (es.vals X σ).map fun vs => s.fz :: vs
def Es.valp (X : Ctx) (σ : Env) : Es → Option (List Val)
  | .nil => some []
  | .cons e es => (e.sem X σ).v.bind fun v => (es.valp X σ).map fun vs => v :: vs
def As.args (X : Ctx) (σ : Env) : As → Option (List Slot)
  | .nil => some []
  | .cons .own e as => (e.sem X σ).s.bind fun s => (as.args X σ).map fun ss => .v s.fz :: ss
  | .cons .lend e as => (e.sem X σ).v.bind fun v => (as.args X σ).map fun ss => .v v :: ss
  | .cons .io _ _ => none
def Oe.slo (X : Ctx) (σ : Env) : Oe → Option (Option Int)
  | .none => some none
  | .some e => (e.sem X σ).v.bind fun v => match v with
    | .int i => some (some i)
    | _ => none
end
theorem fill_cons {σ : Env} {p : Pre} {ps : List Pre} {v : Val} {vs : List Val} (h : fillP σ [p] = some [v]) (h' : fillP σ ps = some vs) : fillP σ (p :: ps) = some (v :: vs) := by
  cases p with
  | val s =>
    simp only [fillP, Option.map_some, Option.some.injEq, List.cons.injEq, and_true] at h
    simp only [fillP, h', Option.map_some, h]
  | «at» q =>
    simp only [fillP] at h ⊢
    obtain ⟨s, e1, e2⟩ := Option.bind_eq_some_iff.mp h
    simp only [Option.map_some, Option.some.injEq, List.cons.injEq, and_true] at e2
    simp only [e1, Option.bind_some, h', Option.map_some, e2]
/-- an operand's value, the names as they were -/
def Opd (X : Ctx) (σ : Env) (e : E) (v : Val) : Prop := ∃ p, e.pre X σ = .ok (p, σ) ∧ fillP σ [p] = some [v]
theorem opd2 {X : Ctx} {σ : Env} {a b : E} {x y : Val} {α : Type} {f : Pre × Env → Pre × Env → R α} {r : R α} (ha : Opd X σ a x) (hb : Opd X σ b y) (h : ∀ p q, fillP σ [p, q] = some [x, y] → f (p, σ) (q, σ) = r) :
    ((a.pre X σ).bind fun p => (b.pre X p.2).bind fun q => f p q) = r := by
  obtain ⟨p, e1, e2⟩ := ha
  obtain ⟨q, e3, e4⟩ := hb
  rw [e1]
  simp only [R.bind]
  rw [e3]
  exact h p q (fill_cons e2 e4)
theorem opd1 {X : Ctx} {σ : Env} {a : E} {x : Val} {α : Type} {f : Pre × Env → R α} {r : R α} (ha : Opd X σ a x) (h : ∀ p, fillP σ [p] = some [x] → f (p, σ) = r) : ((a.pre X σ).bind f) = r := by
  obtain ⟨p, e1, e2⟩ := ha
  rw [e1]
  exact h p e2
/-- arguments -/
def ArgP (σ : Env) (as : As) (ps : List (AM × Pre)) (ss : List Slot) : Prop := argS σ ps = some ss ∧ hasLend ps = hasL as ∧ backS σ ps [] = some σ ∧ ∀ s r, backS σ ps (s :: r) = none
theorem pre_form {X : Ctx} {σ σ' : Env} {e : E} {p : Pre} (h : e.pre X σ = .ok (p, σ')) : (hasL.isPl e = false ∧ ∃ v, p = .val (.v v)) ∨ (hasL.isPl e = true ∧ ∃ q, p = .at q) := by
  by_cases hp : isPlace e = true
  · cases e <;> first | (cases hp; done) | (simp only [E.pre] at h; split at h <;> cases h; exact .inr ⟨rfl, _, rfl⟩)
  · have hf : isPlace e = false := by simpa using hp
    rw [pre_eq hf] at h
    obtain ⟨⟨s, σ1⟩, _, e2⟩ := R.bind_ok h
    cases e2
    refine .inl ⟨?_, _, rfl⟩
    cases e <;> first | (cases hf; done) | rfl
/-- what the three readings promise -/
structure Ok3 (X : Ctx) (σ : Env) (e : E) (r : Sem3) : Prop where
  ev : ∀ s, r.s = some s → e.ev X σ = .ok (s, σ)
  pre : ∀ v, r.v = some v → Opd X σ e v
  tst : ∀ k, r.t = some k → e.test X σ = .ok (k, σ)
theorem opd_ev {X : Ctx} {σ : Env} {e : E} {s : Slot} (hp : isPlace e = false) (h : e.ev X σ = .ok (s, σ)) : Opd X σ e s.fz :=
  ⟨.val (.v s.fz), by rw [pre_eq hp, h]; rfl, rfl⟩
theorem tst_opd {X : Ctx} {σ : Env} {e : E} {v : Val} {k : Bool} (hs : isSpec e = false) (h : Opd X σ e v) (hk : truth v = some k) : e.test X σ = .ok (k, σ) := by
  obtain ⟨p, e1, e2⟩ := h
  rw [test_eq hs, e1]
  simp only [R.bind, e2, hk]
theorem Ok3.mk3 {X : Ctx} {σ : Env} {e : E} {so : Option Slot} (hp : isPlace e = false) (hs : isSpec e = false) (h : ∀ s, so = some s → e.ev X σ = .ok (s, σ)) : Ok3 X σ e (mk3 so) :=
  have pre : ∀ v, so.map Slot.fz = some v → Opd X σ e v := fun v e => by
    obtain ⟨s, es, rfl⟩ := Option.map_eq_some_iff.mp e
    exact opd_ev hp (h s es)
  ⟨h, pre, fun k e => by
    obtain ⟨v, ev, ek⟩ := Option.bind_eq_some_iff.mp e
    exact tst_opd hs (pre v ev) ek⟩
theorem Ok3.mkV {X : Ctx} {σ : Env} {e : E} {so : Option Slot} {v : Option Val} (hs : isSpec e = false) (h : ∀ s, so = some s → e.ev X σ = .ok (s, σ)) (h2 : ∀ x, v = some x → Opd X σ e x) : Ok3 X σ e (mkV so v) :=
  ⟨h, h2, fun k e => by
    obtain ⟨v, ev, ek⟩ := Option.bind_eq_some_iff.mp e
    exact tst_opd hs (h2 v ev) ek⟩
theorem Ok3.mkT {X : Ctx} {σ : Env} {e : E} {so : Option Slot} {t : Option Bool} (hp : isPlace e = false) (h : ∀ s, so = some s → e.ev X σ = .ok (s, σ)) (h2 : ∀ k, t = some k → e.test X σ = .ok (k, σ)) : Ok3 X σ e (mkT so t) :=
  ⟨h, fun v e => by
    obtain ⟨s, es, rfl⟩ := Option.map_eq_some_iff.mp e
    exact opd_ev hp (h s es), h2⟩
mutual
theorem sem_ok {X : Ctx} {σ : Env} : ∀ e : E, Ok3 X σ e (e.sem X σ)
  | .var i => by
    rw [E.sem]
    refine Ok3.mkV rfl (fun s h => ?_) (fun v h => ?_)
    · skip
      unfold fixS at h
      split at h
      · rename_i x e
        cases h
        simp only [E.ev, frzP, rdP, e]
      · cases h
    · obtain ⟨s, es, rfl⟩ := Option.map_eq_some_iff.mp h
      exact ⟨.at (.var i), by simp only [E.pre, es], by simp only [fillP, es, Option.bind_some, Option.map_some]⟩
  | .fld i f => by
    rw [E.sem]
    refine Ok3.mkV rfl (fun s h => ?_) (fun v h => ?_)
    · skip
      unfold fixS at h
      split at h
      · rename_i x e
        cases h
        simp only [E.ev, frzP, e]
      · cases h
    · obtain ⟨s, es, rfl⟩ := Option.map_eq_some_iff.mp h
      exact ⟨.at (.fld i f), by simp only [E.pre, es], by simp only [fillP, es, Option.bind_some, Option.map_some]⟩
  | .non => by
    rw [E.sem]
    refine Ok3.mk3 rfl rfl fun s h => ?_
    cases h; simp only [E.ev]
  | .bl _ => by
    rw [E.sem]
    refine Ok3.mk3 rfl rfl fun s h => ?_
    cases h; simp only [E.ev]
  | .int _ => by
    rw [E.sem]
    refine Ok3.mk3 rfl rfl fun s h => ?_
    cases h; simp only [E.ev]
  | .str _ => by
    rw [E.sem]
    refine Ok3.mk3 rfl rfl fun s h => ?_
    cases h; simp only [E.ev]
  | .glob x => by
    rw [E.sem]
    refine Ok3.mk3 rfl rfl fun s h => ?_
    obtain ⟨v, e, rfl⟩ := Option.map_eq_some_iff.mp h
    simp only [E.ev, e]
  | .bin op a b => by
    rw [E.sem]
    refine Ok3.mk3 rfl rfl fun s h => ?_
    obtain ⟨x, ex, h⟩ := Option.bind_eq_some_iff.mp h
    obtain ⟨y, ey, h⟩ := Option.bind_eq_some_iff.mp h
    simp only [E.ev]
    exact opd2 (((sem_ok _).pre _ ex)) ((sem_ok _).pre _ ey) fun p q e => by simp only [e, h]
  | .neg a => by
    rw [E.sem]
    refine Ok3.mk3 rfl rfl fun s h => ?_
    obtain ⟨x, ex, h⟩ := Option.bind_eq_some_iff.mp h
    unfold negV at h
    split at h
    · cases h
      simp only [E.ev]
      exact opd1 (((sem_ok _).pre _ ex)) fun p e => by simp only [e]
    · cases h
  | .no a => by
    rw [E.sem]
    refine Ok3.mkT rfl (fun s h => ?_) (fun k h => ?_)
    · skip
      obtain ⟨x, ex, h⟩ := Option.bind_eq_some_iff.mp h
      unfold noV at h
      obtain ⟨k, ek, rfl⟩ := Option.map_eq_some_iff.mp h
      simp only [E.ev]
      exact opd1 (((sem_ok _).pre _ ex)) fun p e => by simp only [e, ek]
    · skip
      obtain ⟨j, ej, rfl⟩ := Option.map_eq_some_iff.mp h
      simp only [E.test, (sem_ok a).tst _ ej, R.bind]
  | .and a b => by
    rw [E.sem]
    refine Ok3.mkT rfl (fun s h => ?_) (fun k h => ?_)
    · skip
      obtain ⟨t, et, h⟩ := Option.bind_eq_some_iff.mp h
      have ia := (sem_ok _).ev _ et
      simp only [E.ev, ia, R.bind]
      unfold andS at h
      split at h
      · rename_i e
        try simp only [e]
        exact (sem_ok _).ev _ h
      · rename_i e
        cases h
        try simp only [e]
      · cases h
    · skip
      obtain ⟨j, ej, h⟩ := Option.bind_eq_some_iff.mp h
      simp only [E.test, (sem_ok a).tst _ ej, R.bind]
      cases j with
      | true => exact (sem_ok b).tst _ (by simpa using h)
      | false => cases h; rfl
  | .or a b => by
    rw [E.sem]
    refine Ok3.mkT rfl (fun s h => ?_) (fun k h => ?_)
    · skip
      obtain ⟨t, et, h⟩ := Option.bind_eq_some_iff.mp h
      have ia := (sem_ok _).ev _ et
      simp only [E.ev, ia, R.bind]
      unfold orS at h
      split at h
      · rename_i e
        cases h
        simp only [e]
      · rename_i e
        try simp only [e]
        exact (sem_ok _).ev _ h
      · cases h
    · skip
      obtain ⟨j, ej, h⟩ := Option.bind_eq_some_iff.mp h
      simp only [E.test, (sem_ok a).tst _ ej, R.bind]
      cases j with
      | true => cases h; rfl
      | false => exact (sem_ok b).tst _ (by simpa using h)
  | .cmp op a b => by
    rw [E.sem]
    refine Ok3.mk3 rfl rfl fun s h => ?_
    obtain ⟨x, ex, h⟩ := Option.bind_eq_some_iff.mp h
    obtain ⟨y, ey, h⟩ := Option.bind_eq_some_iff.mp h
    obtain ⟨k, ek, rfl⟩ := Option.map_eq_some_iff.mp h
    simp only [E.ev]
    exact opd2 (((sem_ok _).pre _ ex)) ((sem_ok _).pre _ ey) fun p q e => by simp only [e, ek]
  | .cmp2 op op' a b c => by
    rw [E.sem]
    refine Ok3.mk3 rfl rfl fun s h => ?_
    obtain ⟨x, ex, h⟩ := Option.bind_eq_some_iff.mp h
    obtain ⟨y, ey, h⟩ := Option.bind_eq_some_iff.mp h
    obtain ⟨p, p1, p2⟩ := ((sem_ok _).pre _ ex)
    obtain ⟨q, q1, q2⟩ := (sem_ok _).pre _ ey
    have e := fill_cons p2 q2
    simp only [E.ev, p1, R.bind, q1, e]
    unfold chainS at h
    split at h
    · rename_i ek
      cases h
      simp only [ek]
    · rename_i ek
      obtain ⟨z, ez, h⟩ := Option.bind_eq_some_iff.mp h
      obtain ⟨k, ek2, rfl⟩ := Option.map_eq_some_iff.mp h
      obtain ⟨r, r1, r2⟩ := (sem_ok _).pre _ ez
      have e3 := fill_cons q2 r2
      simp only [ek, r1, R.bind, e3, ek2]
    · cases h
  | .isN n a => by
    rw [E.sem]
    refine Ok3.mk3 rfl rfl fun s h => ?_
    obtain ⟨x, ex, h⟩ := Option.bind_eq_some_iff.mp h
    simp only [E.ev]
    refine opd1 (((sem_ok _).pre _ ex)) fun p e => ?_
    unfold isNV at h
    cases x <;> cases h <;> simp only [e]
  | .isB n b a => by
    rw [E.sem]
    refine Ok3.mk3 rfl rfl fun s h => ?_
    obtain ⟨x, ex, h⟩ := Option.bind_eq_some_iff.mp h
    unfold isBV at h
    split at h
    · cases h
      simp only [E.ev]
      exact opd1 (((sem_ok _).pre _ ex)) fun p e => by simp only [e]
    · cases h
  | .tyIs n t a => by
    rw [E.sem]
    refine Ok3.mk3 rfl rfl fun s h => ?_
    obtain ⟨x, ex, h⟩ := Option.bind_eq_some_iff.mp h
    unfold tyIsV at h
    split at h
    · rename_i hk
      cases h
      simp only [E.ev]
      exact opd1 (((sem_ok _).pre _ ex)) fun p e => by simp only [e, hk, if_true]
    · cases h
  | .isi a t => by
    rw [E.sem]
    refine Ok3.mk3 rfl rfl fun s h => ?_
    obtain ⟨x, ex, h⟩ := Option.bind_eq_some_iff.mp h
    unfold isiVo at h
    split at h
    · rename_i hk
      cases h
      simp only [E.ev]
      exact opd1 (((sem_ok _).pre _ ex)) fun p e => by simp only [e, hk, if_true]
    · cases h
  | .ite c a b => by
    rw [E.sem]
    refine Ok3.mkT rfl (fun s h => ?_) (fun k h => ?_)
    · skip
      obtain ⟨k, ek, h⟩ := Option.bind_eq_some_iff.mp h
      have ic := (sem_ok _).tst _ ek
      simp only [E.ev, ic, R.bind]
      cases k with
      | true => exact (sem_ok _).ev _ (by simpa using h)
      | false => exact (sem_ok _).ev _ (by simpa using h)
    · skip
      obtain ⟨j, ej, h⟩ := Option.bind_eq_some_iff.mp h
      simp only [E.test, (sem_ok c).tst _ ej, R.bind]
      cases j with
      | true => exact (sem_ok a).tst _ (by simpa using h)
      | false => exact (sem_ok b).tst _ (by simpa using h)
  | .tup es => by
    rw [E.sem]
    refine Ok3.mk3 rfl rfl fun s h => ?_
    obtain ⟨vs, ev, h⟩ := Option.bind_eq_some_iff.mp h
    unfold tupS at h
    split at h
    · rename_i hz
      cases h
      simp only [E.ev, vals_evs ev, R.bind, hz, if_true]
    · cases h
  | .lst es => by
    rw [E.sem]
    refine Ok3.mk3 rfl rfl fun s h => ?_
    obtain ⟨vs, ev, h⟩ := Option.bind_eq_some_iff.mp h
    unfold lstS at h
    split at h
    · rename_i hz
      cases h
      simp only [E.ev, vals_evs ev, R.bind, hz, if_true]
    · cases h
  | .ix a i => by
    rw [E.sem]
    refine Ok3.mk3 rfl rfl fun s h => ?_
    obtain ⟨x, ex, h⟩ := Option.bind_eq_some_iff.mp h
    obtain ⟨y, ey, h⟩ := Option.bind_eq_some_iff.mp h
    obtain ⟨k, ek, rfl⟩ := Option.map_eq_some_iff.mp h
    simp only [E.ev]
    exact opd2 (((sem_ok _).pre _ ex)) ((sem_ok _).pre _ ey) fun p q e => by simp only [e, ek]
  | .sl a lo hi => by
    rw [E.sem]
    refine Ok3.mk3 rfl rfl fun s h => ?_
    obtain ⟨x, ex, h⟩ := Option.bind_eq_some_iff.mp h
    obtain ⟨l, el, h⟩ := Option.bind_eq_some_iff.mp h
    obtain ⟨u, eu, h⟩ := Option.bind_eq_some_iff.mp h
    obtain ⟨p, p1, p2⟩ := ((sem_ok _).pre _ ex)
    simp only [E.ev, p1, R.bind, oslo_evo el, oslo_evo eu, p2, h]
  | .rev a => by
    rw [E.sem]
    refine Ok3.mk3 rfl rfl fun s h => ?_
    obtain ⟨x, ex, h⟩ := Option.bind_eq_some_iff.mp h
    simp only [E.ev]
    refine opd1 (((sem_ok _).pre _ ex)) fun p e => ?_
    unfold revV at h
    cases x <;> cases h <;> simp only [e]
  | .call f as => by
    rw [E.sem]
    refine Ok3.mk3 rfl rfl fun s h => ?_
    obtain ⟨ss, es, h⟩ := Option.bind_eq_some_iff.mp h
    obtain ⟨ps, e1, a1, a2, a3, a4⟩ := args_pres es
    simp only [E.ev, e1, R.bind, a1]
    unfold outS at h
    split at h
    · rename_i r e
      rw [e]
      simp only [afterC, a3, a2, List.all_nil, Bool.and_true]
      split at h
      · cases h
      · rename_i hn
        cases h
        rw [if_neg hn]
    · cases h
  | .bi f es => by
    rw [E.sem]
    refine Ok3.mk3 rfl rfl fun s h => ?_
    obtain ⟨vs, ev, h⟩ := Option.bind_eq_some_iff.mp h
    obtain ⟨ps, e1, e2⟩ := valp_prs ev
    simp only [E.ev, e1, R.bind, e2, h]
  | .dct _ _ => by
    rw [E.sem]
    exact Ok3.mk3 rfl rfl fun s h => by cases h
  | .mk _ _ => by
    rw [E.sem]
    exact Ok3.mk3 rfl rfl fun s h => by cases h
  | .meth _ _ => by
    rw [E.sem]
    exact Ok3.mk3 rfl rfl fun s h => by cases h
  | .pop _ _ => by
    rw [E.sem]
    exact Ok3.mk3 rfl rfl fun s h => by cases h
  | .get _ _ _ => by
    rw [E.sem]
    exact Ok3.mk3 rfl rfl fun s h => by cases h
  | .join _ _ => by
    rw [E.sem]
    exact Ok3.mk3 rfl rfl fun s h => by cases h
  | .split _ _ => by
    rw [E.sem]
    exact Ok3.mk3 rfl rfl fun s h => by cases h
  | .index _ _ => by
    rw [E.sem]
    exact Ok3.mk3 rfl rfl fun s h => by cases h
  | .lc _ _ _ _ _ => by
    rw [E.sem]
    exact Ok3.mk3 rfl rfl fun s h => by cases h
  | .lc2 _ _ _ _ _ _ _ _ _ => by
    rw [E.sem]
    exact Ok3.mk3 rfl rfl fun s h => by cases h
  | .dc _ _ _ _ _ _ => by
    rw [E.sem]
    exact Ok3.mk3 rfl rfl fun s h => by cases h
  | .fs _ => by
    rw [E.sem]
    exact Ok3.mk3 rfl rfl fun s h => by cases h
theorem vals_evs {X : Ctx} {σ : Env} : ∀ {es : Es} {vs : List Val}, es.vals X σ = some vs → es.evs X σ = .ok (vs, σ)
  | .nil, vs, h => by simp only [Es.vals] at h; cases h; simp only [Es.evs]
  | .cons e es, vs, h => by
    simp only [Es.vals] at h
    obtain ⟨s, es', h⟩ := Option.bind_eq_some_iff.mp h
    obtain ⟨r, er, rfl⟩ := Option.map_eq_some_iff.mp h
    simp only [Es.evs, (sem_ok e).ev _ es', vals_evs er, R.bind]
theorem valp_prs {X : Ctx} {σ : Env} : ∀ {es : Es} {vs : List Val}, es.valp X σ = some vs → ∃ ps, es.prs X σ = .ok (ps, σ) ∧ fillP σ ps = some vs
  | .nil, vs, h => by simp only [Es.valp] at h; cases h; exact ⟨[], by simp only [Es.prs], rfl⟩
  | .cons e es, vs, h => by
    simp only [Es.valp] at h
    obtain ⟨v, ev, h⟩ := Option.bind_eq_some_iff.mp h
    obtain ⟨r, er, rfl⟩ := Option.map_eq_some_iff.mp h
    obtain ⟨p, p1, p2⟩ := (sem_ok e).pre _ ev
    obtain ⟨ps, q1, q2⟩ := valp_prs er
    exact ⟨p :: ps, by simp only [Es.prs, p1, q1, R.bind], fill_cons p2 q2⟩
theorem args_pres {X : Ctx} {σ : Env} : ∀ {as : As} {ss : List Slot}, as.args X σ = some ss → ∃ ps, as.pres X σ = .ok (ps, σ) ∧ ArgP σ as ps ss
  | .nil, ss, h => by
    simp only [As.args] at h
    cases h
    exact ⟨[], by simp only [As.pres], rfl, rfl, rfl, fun _ _ => rfl⟩
  | .cons .own e as, ss, h => by
    simp only [As.args] at h
    obtain ⟨s, es, h⟩ := Option.bind_eq_some_iff.mp h
    obtain ⟨r, er, rfl⟩ := Option.map_eq_some_iff.mp h
    obtain ⟨ps, e1, a1, a2, a3, a4⟩ := args_pres er
    refine ⟨(.own, .val (.v s.fz)) :: ps, by simp only [As.pres, (sem_ok e).ev _ es, e1, R.bind], by simp only [argS, a1, Option.map_some], by simp only [hasLend, hasL, a2], by simp only [backS, a3], fun s r => by simp only [backS, a4]⟩
  | .cons .lend e as, ss, h => by
    simp only [As.args] at h
    obtain ⟨v, ev, h⟩ := Option.bind_eq_some_iff.mp h
    obtain ⟨r, er, rfl⟩ := Option.map_eq_some_iff.mp h
    obtain ⟨p, p1, p2⟩ := (sem_ok e).pre _ ev
    obtain ⟨ps, e1, a1, a2, a3, a4⟩ := args_pres er
    refine ⟨(.lend, p) :: ps, by simp only [As.pres, p1, e1, R.bind], ?_⟩
    rcases pre_form p1 with ⟨hp, u, rfl⟩ | ⟨hp, q, rfl⟩
    · simp only [fillP, Option.map_some, Option.some.injEq, List.cons.injEq, and_true, Slot.fz, Cell.fz] at p2
      subst p2
      exact ⟨by simp only [argS, a1, Option.map_some], by simp only [hasLend, hasL, hp, a2, Bool.false_or], by simp only [backS, a3], fun s r => by simp only [backS, a4]⟩
    · simp only [fillP] at p2
      obtain ⟨t, et, p2⟩ := Option.bind_eq_some_iff.mp p2
      simp only [Option.map_some, Option.some.injEq, List.cons.injEq, and_true] at p2
      subst p2
      exact ⟨by simp only [argS, et, Option.bind_some, a1, Option.map_some], by simp only [hasLend, hasL, hp, Bool.true_or], by simp only [backS, a3], fun s r => by simp only [backS, a4]⟩
  | .cons .io e as, ss, h => by simp [As.args] at h
theorem oslo_evo {X : Ctx} {σ : Env} : ∀ {e : Oe} {l : Option Int}, e.slo X σ = some l → e.evo X σ = .ok (l, σ)
  | .none, l, h => by simp only [Oe.slo] at h; cases h; simp only [Oe.evo]
  | .some e, l, h => by
    simp only [Oe.slo] at h
    obtain ⟨v, ev, h⟩ := Option.bind_eq_some_iff.mp h
    obtain ⟨p, p1, p2⟩ := (sem_ok e).pre _ ev
    split at h
    · cases h
      simp only [Oe.evo, p1, R.bind, p2]
    · cases h
end
end PL
/-! M1: statements, step by step. -/
namespace PL
open PySem (Str)
section
variable {X : Ctx} {σ σ' σ2 : Env} {t : T} {e : E} {s : Slot} {ss : Ss} {fl : Fl}
theorem run_asg (h : (e.sem X σ).s = some s) (ok : okPut X t.ixs = true) (hp : t.put s σ = some σ2) (k : ss.runs X σ2 = fl) : (Ss.cons (.asg t e) ss).runs X σ = fl := by
  simp only [Ss.runs, S.run, ok, if_true, (sem_ok e).ev _ h, R.fl, hp]
  exact k
/-- with a result by hand -/
theorem run_asgE (h : e.ev X σ = .ok (s, σ')) (ok : okPut X t.ixs = true) (hp : t.put s σ' = some σ2) (k : ss.runs X σ2 = fl) : (Ss.cons (.asg t e) ss).runs X σ = fl := by
  simp only [Ss.runs, S.run, ok, if_true, h, R.fl, hp]
  exact k
theorem run_if {c : E} {a b : Ss} {k : Bool} (h : (c.sem X σ).t = some k) : (Ss.cons (.iff c a b) ss).runs X σ = (match (if k then a.runs X σ else b.runs X σ) with
    | .next σ' => ss.runs X σ'
    | fl => fl) := by
  simp only [Ss.runs, S.run, (sem_ok c).tst _ h, R.fl]
  all_goals rfl
theorem run_ifT {c : E} {a b : Ss} (h : (c.sem X σ).t = some true) (ha : a.runs X σ = .next σ2) (k : ss.runs X σ2 = fl) : (Ss.cons (.iff c a b) ss).runs X σ = fl := by
  rw [run_if h, if_pos rfl, ha]
  exact k
theorem run_ifF {c : E} {a b : Ss} (h : (c.sem X σ).t = some false) (hb : b.runs X σ = .next σ2) (k : ss.runs X σ2 = fl) : (Ss.cons (.iff c a b) ss).runs X σ = fl := by
  rw [run_if h, if_neg Bool.false_ne_true, hb]
  exact k
/-- no else -/
theorem run_skip {c : E} {a : Ss} (h : (c.sem X σ).t = some false) (k : ss.runs X σ = fl) : (Ss.cons (.iff c a .nil) ss).runs X σ = fl := run_ifF h (by simp only [Ss.runs]) k
/-- the branch returns, raises -/
theorem run_ifR {c : E} {a b : Ss} (h : (c.sem X σ).t = some true) (ha : a.runs X σ = fl) (hn : ∀ σ, fl ≠ .next σ) : (Ss.cons (.iff c a b) ss).runs X σ = fl := by
  rw [run_if h, if_pos rfl, ha]
  cases fl <;> first | rfl | exact absurd rfl (hn _)
theorem run_ifRe {c : E} {a b : Ss} (h : (c.sem X σ).t = some false) (hb : b.runs X σ = fl) (hn : ∀ σ, fl ≠ .next σ) : (Ss.cons (.iff c a b) ss).runs X σ = fl := by
  rw [run_if h, if_neg Bool.false_ne_true, hb]
  cases fl <;> first | rfl | exact absurd rfl (hn _)
theorem run_nil : (Ss.nil).runs X σ = .next σ := by simp only [Ss.runs]
theorem run_ret (hv : ∀ i, e ≠ .var i) (h : (e.sem X σ).s = some s) : (Ss.cons (.ret e) ss).runs X σ = .ret s σ := by
  have := (sem_ok e).ev _ h
  cases e <;> first | exact absurd rfl (hv _) | (simp only [Ss.runs, S.run, this]; rfl)
theorem run_retv {i : Nat} (hm : X.mine.contains i = false) (h : (σ[i]?).join = some s) : (Ss.cons (.ret (.var i)) ss).runs X σ = .ret s (σ.set i none) := by
  simp only [Ss.runs, S.run, hm, Bool.false_eq_true, if_false, rdP, h]
theorem run_ex (h : (e.sem X σ).s = some s) (k : ss.runs X σ = fl) : (Ss.cons (.ex e) ss).runs X σ = fl := by
  simp only [Ss.runs, S.run, (sem_ok e).ev _ h, R.fl]
  exact k
theorem run_exX {c : String} (h : e.ev X σ = .exc c σ') : (Ss.cons (.ex e) ss).runs X σ = .exc c σ' := by
  simp only [Ss.runs, S.run, h, R.fl]
theorem run_raise {c : String} : (Ss.cons (.raise c) ss).runs X σ = .exc c σ := by simp only [Ss.runs, S.run]
theorem run_app {i : Nat} {vs : List Val} (hi : (σ[i]?).join = some (.ml vs)) (h : (e.sem X σ).s = some s) (hz : vs.length < LIM) (k : ss.runs X (σ.set i (some (.ml (vs ++ [s.fz])))) = fl) : (Ss.cons (.app (.var i) e) ss).runs X σ = fl := by
  simp only [Ss.runs, S.run, rdP, hi, isMl, if_true, (sem_ok e).ev _ h, R.fl, hz, wrP]
  exact k
/-- a loop: an invariant by the items that are left -/
theorem loop_inv {f : Val → Env → Fl} (I : List Val → Env → Prop) (stp : ∀ x r σ, I (x :: r) σ → ∃ σ', (f x σ = .next σ' ∨ f x σ = .cnt σ') ∧ I r σ') : ∀ (xs : List Val) (σ : Env), I xs σ → ∃ σ', loopF f xs σ = .next σ' ∧ I [] σ'
  | [], σ, h => ⟨σ, by simp only [loopF], h⟩
  | x :: r, σ, h => by
    obtain ⟨σ1, e, h1⟩ := stp x r σ h
    obtain ⟨σ2, e2, h2⟩ := loop_inv I stp r σ1 h1
    refine ⟨σ2, ?_, h2⟩
    rcases e with e | e <;> simp only [loopF, e, e2]
/-- .. that may end early by a return -/
theorem loop_ret {f : Val → Env → Fl} (I : List Val → Env → Prop) (R : Slot → Prop) (stp : ∀ x r σ, I (x :: r) σ → (∃ σ', (f x σ = .next σ' ∨ f x σ = .cnt σ') ∧ I r σ') ∨ ∃ s σ', f x σ = .ret s σ' ∧ R s) :
    ∀ (xs : List Val) (σ : Env), I xs σ → (∃ σ', loopF f xs σ = .next σ' ∧ I [] σ') ∨ ∃ s σ', loopF f xs σ = .ret s σ' ∧ R s
  | [], σ, h => .inl ⟨σ, by simp only [loopF], h⟩
  | x :: r, σ, h => by
    rcases stp x r σ h with ⟨σ1, e, h1⟩ | ⟨s, σ1, e, h1⟩
    · rcases loop_ret I R stp r σ1 h1 with ⟨σ2, e2, h2⟩ | ⟨s, σ2, e2, h2⟩
      · refine .inl ⟨σ2, ?_, h2⟩
        rcases e with e | e <;> simp only [loopF, e, e2]
      · refine .inr ⟨s, σ2, ?_, h2⟩
        rcases e with e | e <;> simp only [loopF, e, e2]
    · exact .inr ⟨s, σ1, by simp only [loopF, e], h1⟩
/-- a turn of a loop -/
def stepF (X : Ctx) (t : T) (b : Ss) (v : Val) (σ : Env) : Fl := match t.put (.v v) σ with
  | some σ' => b.runs X σ'
  | none => .stuck
theorem fr_run {sr : Src} {b : Ss} : (S.fr t sr b).run X σ = if okPut X t.ixs then (sr.evs X σ).fl fun p => loopF (stepF X t b) p.1 p.2 else .stuck := by
  simp only [S.run]
  rfl
theorem run_for {sr : Src} {b : Ss} {xs : List Val} (ok : okPut X t.ixs = true) (h : sr.evs X σ = .ok (xs, σ')) (hl : loopF (stepF X t b) xs σ' = .next σ2) (k : ss.runs X σ2 = fl) : (Ss.cons (.fr t sr b) ss).runs X σ = fl := by
  simp only [Ss.runs, fr_run, ok, if_true, h, R.fl, hl]
  exact k
theorem run_forR {sr : Src} {b : Ss} {xs : List Val} (ok : okPut X t.ixs = true) (h : sr.evs X σ = .ok (xs, σ')) (hl : loopF (stepF X t b) xs σ' = fl) (hn : ∀ σ, fl ≠ .next σ) : (Ss.cons (.fr t sr b) ss).runs X σ = fl := by
  simp only [Ss.runs, fr_run, ok, if_true, h, R.fl, hl]
theorem src_it {vs : List Val} (h : (e.sem X σ).s = some s) (hv : itemsV s.fz = some vs) : (Src.it e).evs X σ = .ok (vs, σ) := by
  simp only [Src.evs, (sem_ok e).ev _ h, R.bind, hv]
theorem src_r1 {i : Int} (h : (e.sem X σ).v = some (.int i)) (hr : inR i = true) : (Src.r1 e).evs X σ = .ok (rangeL 0 i, σ) := by
  simp only [Src.evs]
  exact opd1 ((sem_ok e).pre _ h) fun p e => by simp only [e, hr, if_true]
theorem run_tryN {b : Ss} {c : String} {r : E} (h : b.runs X σ = .next σ') (k : ss.runs X σ' = fl) : (Ss.cons (.tryO b c r) ss).runs X σ = fl := by
  simp only [Ss.runs, S.run, h]
  exact k
theorem run_tryX {b : Ss} {c d : String} {r : E} (h : b.runs X σ = .exc d σ') (hs : X.sub d c = some true) (hr : (r.sem X σ').s = some s) : (Ss.cons (.tryO b c r) ss).runs X σ = .ret s σ' := by
  simp only [Ss.runs, S.run, h, hs, (sem_ok r).ev _ hr, R.fl]
end
theorem call_ok {P : Prog} {env : Env} {f : String} {d : Def} {n : Nat} {args : List Slot} {s : Slot} {σ : Env} (h : P.fn f = some d) (hio : d.io = []) (ha : args.length = d.ps) (hf : argOk [] 0 args = true) (he : args.map some ++ List.replicate (d.ns - d.ps) none = env)
    (hr : d.body.runs (ctxF P n []) env = .ret s σ) : callF P (n + 1) f args = .ok s [] := by
  unfold callF
  rw [h]
  dsimp only
  rw [hio, if_pos ⟨ha, hf⟩]
  show endF [] (d.body.runs (ctxF P n []) _) = _
  rw [he, hr]
  rfl
theorem call_exc {P : Prog} {env : Env} {f c : String} {d : Def} {n : Nat} {args : List Slot} {σ : Env} (h : P.fn f = some d) (hio : d.io = []) (ha : args.length = d.ps) (hf : argOk [] 0 args = true) (he : args.map some ++ List.replicate (d.ns - d.ps) none = env)
    (hr : d.body.runs (ctxF P n []) env = .exc c σ) : callF P (n + 1) f args = .exc c [] := by
  unfold callF
  rw [h]
  dsimp only
  rw [hio, if_pos ⟨ha, hf⟩]
  show endF [] (d.body.runs (ctxF P n []) _) = _
  rw [he, hr]
  rfl
/-! ### the rules of values -/
section
variable {i j : Int}
theorem bin_add : binV .add (.int i) (.int j) = some (.v (.int (i + j))) := rfl
theorem bin_sub : binV .sub (.int i) (.int j) = some (.v (.int (i - j))) := rfl
theorem bin_mul (h : mulOk i j = true) : binV .mul (.int i) (.int j) = some (.v (.int (i * j))) := by simp only [binV, h, if_true]
theorem bin_fdiv (h : j ≠ 0) (h2 : j.natAbs.log2 < 9000) : binV .fdiv (.int i) (.int j) = some (.v (.int (i.fdiv j))) := by simp only [binV]; rw [if_pos ⟨h, h2⟩]
theorem bin_mod (h : j ≠ 0) : binV .mod (.int i) (.int j) = some (.v (.int (i.fmod j))) := by simp only [binV]; rw [if_pos h]
theorem cmp_lt : cmpV .lt (.int i) (.int j) = some (decide (i < j)) := rfl
theorem cmp_le : cmpV .le (.int i) (.int j) = some (decide (i ≤ j)) := rfl
theorem cmp_gt : cmpV .gt (.int i) (.int j) = some (decide (j < i)) := rfl
theorem cmp_ge : cmpV .ge (.int i) (.int j) = some (decide (j ≤ i)) := rfl
theorem cmp_eq : cmpV .eq (.int i) (.int j) = some (decide (i = j)) := by
  simp only [cmpV, valEq, scalP, if_true, Val.eqv]
  congr 1
theorem cmp_ne : cmpV .ne (.int i) (.int j) = some (!decide (i = j)) := by
  simp only [cmpV, valEq, scalP, if_true, Val.eqv, Option.map_some]
  congr 1
end
end PL
namespace PL
open PySem (Str)
def d_ratio : Def := ⟨2, 3, [], (.cons (.iff (.cmp .eq (.var 1) (.int 0)) (.cons (.raise "BadRatio") .nil) .nil) (.cons (.iff (.cmp .lt (.var 1) (.int 0)) (.cons (.asg (.tup (.cons (.var 0) (.cons (.var 1) .nil))) (.tup (.cons (.neg (.var 0)) (.cons (.neg (.var 1)) .nil)))) .nil) .nil) (.cons (.asg (.var 2) (.bi "gcd" (.cons (.var 0) (.cons (.var 1) .nil)))) (.cons (.ret (.tup (.cons (.bin .fdiv (.var 0) (.var 2)) (.cons (.bin .fdiv (.var 1) (.var 2)) .nil)))) .nil))))⟩
def gcdI (a b : Int) : Int := ((Nat.gcd a.natAbs b.natAbs : Nat) : Int)
theorem gcdI_ne {a b : Int} (h : b ≠ 0) : gcdI a b ≠ 0 := by
  unfold gcdI
  have : Nat.gcd a.natAbs b.natAbs ≠ 0 := fun z => h (by have := Nat.eq_zero_of_gcd_eq_zero_right z; omega)
  omega
theorem log2_mono {a b : Nat} (h : a ≤ b) : a.log2 ≤ b.log2 := by
  by_cases ha : a = 0
  · subst ha; simp
  · by_cases hb : b = 0
    · omega
    · rw [Nat.le_log2 hb]
      exact Nat.le_trans (Nat.log2_self_le ha) h
theorem gcdI_log {a b : Int} (h : b ≠ 0) (hs : b.natAbs.log2 < 9000) : (gcdI a b).natAbs.log2 < 9000 := by
  have : (gcdI a b).natAbs ≤ b.natAbs := by
    unfold gcdI
    rw [Int.natAbs_natCast]
    exact Nat.le_of_dvd (by omega) (Nat.gcd_dvd_right _ _)
  exact Nat.lt_of_le_of_lt (log2_mono this) hs
/-- a pair of ints -/
abbrev pr (a b : Int) : Val := .tup [.int a, .int b]
def nrm (a b : Int) : Val := if b < 0 then pr ((-a).fdiv (gcdI (-a) (-b))) ((-b).fdiv (gcdI (-a) (-b))) else pr (a.fdiv (gcdI a b)) (b.fdiv (gcdI a b))
theorem fz_v {x : Val} : Slot.fz (.cl (.v x)) = x := rfl
theorem fz_ml {x : List Val} : Slot.fz (.cl (.ml x)) = .lst x := rfl
theorem fz_md {x : List (Val × Val)} : Slot.fz (.cl (.md x)) = .dct x := rfl
theorem bi_gcd {i j : Int} : biV "gcd" [.int i, .int j] = some (.v (.int (gcdI i j))) := rfl
theorem bi_abs {i : Int} : biV "abs" [.int i] = some (.v (.int (if i < 0 then -i else i))) := rfl
theorem bi_int {i : Int} : biV "int" [.int i] = some (.v (.int i)) := rfl
theorem bi_len {vs : List Val} : biV "len" [.lst vs] = some (.v (.int vs.length)) := rfl
theorem bi_lent {vs : List Val} : biV "len" [.tup vs] = some (.v (.int vs.length)) := rfl
theorem neg_i {i : Int} : negV (.int i) = some (.v (.int (-i))) := rfl
theorem tr_b {b : Bool} : truth (.bl b) = some b := rfl
theorem tup_1 {a : Val} : tupS [a] = some (.v (.tup [a])) := rfl
theorem tup_2 {a b : Val} : tupS [a, b] = some (.v (.tup [a, b])) := rfl
theorem tup_3 {a b d : Val} : tupS [a, b, d] = some (.v (.tup [a, b, d])) := rfl
theorem fix_v {x : Val} : fixS (some (.cl (.v x))) = some (.v x) := rfl
theorem ix_t0 {a : Val} {r : List Val} : ixV (.tup (a :: r)) (.int 0) = some a := by
  simp only [ixV, ixOf]
  rw [if_pos (by decide), if_pos (by simp <;> omega)]
  rfl
theorem ix_t1 {a b : Val} {r : List Val} : ixV (.tup (a :: b :: r)) (.int 1) = some b := by
  simp only [ixV, ixOf]
  rw [if_pos (by decide), if_pos (by simp <;> omega)]
  rfl
local macro_rules | `(tactic| trivial) => `(tactic| (simp only [E.sem, mk3, mkV, mkT, rdP, Es.vals, Es.valp, As.args, fz_v, fz_ml, fz_md, bi_gcd, bi_abs, bi_int, bi_len, bi_lent, neg_i, tr_b, tup_1, tup_2, tup_3, fix_v, ix_t0, ix_t1, bin_add, bin_sub, cmp_lt, cmp_le, cmp_gt, cmp_ge, cmp_eq, cmp_ne,
  Option.bind_some, Option.map_some, Option.join_some, List.getElem?_cons_zero, List.getElem?_cons_succ, List.map_cons, List.map_nil, List.cons_append, List.nil_append, List.replicate, decide_true, decide_false, Bool.not_true, Bool.not_false, if_true, if_false, Bool.false_eq_true, not_true_eq_false, not_false_eq_true, *]; done))
theorem ratio_ok {P : Prog} (h : P.fn "ratio" = some d_ratio) (n : Nat) {a b : Int} (hb : b ≠ 0) (hs : b.natAbs.log2 < 9000) : callF P (n + 1) "ratio" [.v (.int a), .v (.int b)] = .ok (.v (nrm a b)) [] := by
  have hn : (b = 0) = False := by simpa using hb
  by_cases hneg : b < 0
  · have f1 := fun x => bin_fdiv (i := x) (gcdI_ne (a := -a) (b := -b) (by omega)) (gcdI_log (by omega) (by rw [Int.natAbs_neg]; exact hs))
    refine call_ok (env := [some (.v (.int a)), some (.v (.int b)), none]) h rfl rfl rfl rfl ?_ (σ := [some (.v (.int (-a))), some (.v (.int (-b))), some (.v (.int (gcdI (-a) (-b))))])
    refine run_skip (by trivial) ?_
    refine run_ifT (σ2 := [some (.v (.int (-a))), some (.v (.int (-b))), none]) (by trivial) ?_ ?_
    · exact run_asg (s := .v (pr (-a) (-b))) (by trivial) rfl rfl run_nil
    refine run_asg (s := .v (.int (gcdI (-a) (-b)))) (σ2 := [some (.v (.int (-a))), some (.v (.int (-b))), some (.v (.int (gcdI (-a) (-b))))]) (by trivial) rfl rfl ?_
    refine run_ret nofun ?_
    rw [nrm, if_pos hneg]
    trivial
  · have f1 := fun x => bin_fdiv (i := x) (gcdI_ne (a := a) hb) (gcdI_log hb hs)
    refine call_ok (env := [some (.v (.int a)), some (.v (.int b)), none]) h rfl rfl rfl rfl (σ := [some (.v (.int a)), some (.v (.int b)), some (.v (.int (gcdI a b)))]) ?_
    refine run_skip (by trivial) ?_
    refine run_skip (by trivial) ?_
    refine run_asg (s := .v (.int (gcdI a b))) (σ2 := [some (.v (.int a)), some (.v (.int b)), some (.v (.int (gcdI a b)))]) (by trivial) rfl rfl ?_
    refine run_ret nofun ?_
    rw [nrm, if_neg hneg]
    trivial
theorem ratio_bad {P : Prog} (h : P.fn "ratio" = some d_ratio) (n : Nat) {a : Int} : callF P (n + 1) "ratio" [.v (.int a), .v (.int 0)] = .exc "BadRatio" [] := by
  refine call_exc (env := [some (.v (.int a)), some (.v (.int 0)), none]) h rfl rfl rfl rfl (σ := [some (.v (.int a)), some (.v (.int 0)), none]) ?_
  exact run_ifR (by trivial) run_raise nofun
end PL
/-! M3: ratios are rationals. -/
namespace PL
open PySem (Str)
/-- the pair that stands for a rational -/
def rv (q : Rat) : Val := pr q.num q.den
theorem fdiv_pos {a b : Int} (h : 0 ≤ b) : a.fdiv b = a / b := Int.fdiv_eq_ediv_of_nonneg _ h
theorem nrm_eq {a b : Int} (hb : b ≠ 0) : nrm a b = rv (Rat.divInt a b) := by
  unfold nrm rv
  rw [Rat.num_divInt, Rat.den_divInt, if_neg hb]
  have g0 : ∀ x y : Int, (0 : Int) ≤ gcdI x y := fun x y => Int.natCast_nonneg _
  have ge : gcdI a b = ((b.gcd a : Nat) : Int) := by
    unfold gcdI Int.gcd
    rw [Nat.gcd_comm]
  split
  · rename_i h
    have gn : gcdI (-a) (-b) = gcdI a b := by unfold gcdI; simp
    rw [fdiv_pos (g0 _ _), fdiv_pos (g0 _ _), gn, ge, Int.sign_eq_neg_one_of_neg h]
    have h2 : (-b) = ((b.natAbs : Nat) : Int) := by omega
    rw [h2]
    simp only [Int.neg_mul, Int.one_mul]
    rfl
  · rename_i h
    have hp : 0 < b := by omega
    rw [fdiv_pos (g0 _ _), fdiv_pos (g0 _ _), ge, Int.sign_eq_one_of_pos hp]
    have h2 : b = ((b.natAbs : Nat) : Int) := by omega
    simp only [Int.one_mul]
    congr 2
    conv => lhs; rw [h2]
    congr 3
theorem rat_self (q : Rat) : q = (q.num : Rat) / ((q.den : Int) : Rat) := by
  have := Rat.mkRat_self q
  rw [Rat.mkRat_eq_div] at this
  exact this.symm
theorem den_ne (q : Rat) : ((q.den : Int) : Rat) ≠ 0 := fun z => q.den_nz (by
  have : ((q.den : Int) : Rat) = ((0 : Int) : Rat) := z
  have := Rat.intCast_inj.mp this
  omega)
theorem den_pos (q : Rat) : (0 : Int) < q.den := by have := q.den_nz; omega
/-- a bound of a ratio's parts -/
def Sz (k : Nat) (q : Rat) : Prop := q.num.natAbs < 2 ^ k ∧ q.den < 2 ^ k
theorem Sz.mono {k l : Nat} {q : Rat} (h : Sz k q) (hl : k ≤ l) : Sz l q :=
  ⟨Nat.lt_of_lt_of_le h.1 (Nat.pow_le_pow_right (by decide) hl), Nat.lt_of_lt_of_le h.2 (Nat.pow_le_pow_right (by decide) hl)⟩
theorem log2_of {n k : Nat} (h : n < 2 ^ k) : n.log2 ≤ k := by
  by_cases hn : n = 0
  · subst hn; simp
  · exact Nat.le_of_lt ((Nat.log2_lt hn).mpr h)
theorem mulOk_of {i j : Int} {k l : Nat} (h : i.natAbs < 2 ^ k) (h' : j.natAbs < 2 ^ l) (hk : k + l < 134000000) : mulOk i j = true := by
  unfold mulOk
  have := log2_of h
  have := log2_of h'
  exact decide_eq_true (by omega)
theorem nat_mul_lt {a b k l : Nat} (h : a < 2 ^ k) (h' : b < 2 ^ l) : a * b < 2 ^ (k + l) := by
  rw [Nat.pow_add]
  have : a * b ≤ a * 2 ^ l := Nat.mul_le_mul_left _ (Nat.le_of_lt h')
  have := Nat.mul_lt_mul_of_pos_right h (Nat.two_pow_pos l)
  omega
theorem abs_mul_lt {a b : Int} {k l : Nat} (h : a.natAbs < 2 ^ k) (h' : b.natAbs < 2 ^ l) : (a * b).natAbs < 2 ^ (k + l) := by
  rw [Int.natAbs_mul]
  exact nat_mul_lt h h'
theorem abs_add_lt {a b : Int} {k : Nat} (h : a.natAbs < 2 ^ k) (h' : b.natAbs < 2 ^ k) : (a + b).natAbs < 2 ^ (k + 1) := by
  rw [Nat.pow_succ]
  omega
theorem abs_sub_lt {a b : Int} {k : Nat} (h : a.natAbs < 2 ^ k) (h' : b.natAbs < 2 ^ k) : (a - b).natAbs < 2 ^ (k + 1) := by
  rw [Nat.pow_succ]
  omega
theorem sz_divInt {a b : Int} {k : Nat} (hb : b ≠ 0) (h : a.natAbs < 2 ^ k) (h' : b.natAbs < 2 ^ k) : Sz k (Rat.divInt a b) := by
  unfold Sz
  rw [Rat.num_divInt, Rat.den_divInt, if_neg hb]
  constructor
  · refine Nat.lt_of_le_of_lt ?_ h
    have h1 : (b.sign * a / ((b.gcd a : Nat) : Int)).natAbs ≤ (b.sign * a).natAbs := by
      rcases Int.le_total 0 (b.sign * a) with z | z
      · exact Int.natAbs_ediv_le_natAbs _ _
      · exact Int.natAbs_ediv_le_natAbs _ _
    refine Nat.le_trans h1 ?_
    rw [Int.natAbs_mul, Int.natAbs_sign, if_neg hb, Nat.one_mul]
    exact Nat.le_refl _
  · exact Nat.lt_of_le_of_lt (Nat.div_le_self _ _) h'
end PL
/-! M4: sums, differences, products, quotients of ratios. -/
namespace PL
open PySem (Str)
def d_plus : Def := ⟨2, 2, [], (.cons (.ret (.call "ratio" (.cons .own (.bin .add (.bin .mul (.ix (.var 0) (.int 0)) (.ix (.var 1) (.int 1))) (.bin .mul (.ix (.var 1) (.int 0)) (.ix (.var 0) (.int 1)))) (.cons .own (.bin .mul (.ix (.var 0) (.int 1)) (.ix (.var 1) (.int 1))) .nil)))) .nil)⟩
def d_minus : Def := ⟨2, 2, [], (.cons (.ret (.call "ratio" (.cons .own (.bin .sub (.bin .mul (.ix (.var 0) (.int 0)) (.ix (.var 1) (.int 1))) (.bin .mul (.ix (.var 1) (.int 0)) (.ix (.var 0) (.int 1)))) (.cons .own (.bin .mul (.ix (.var 0) (.int 1)) (.ix (.var 1) (.int 1))) .nil)))) .nil)⟩
def d_by : Def := ⟨2, 2, [], (.cons (.ret (.call "ratio" (.cons .own (.bin .mul (.ix (.var 0) (.int 0)) (.ix (.var 1) (.int 0))) (.cons .own (.bin .mul (.ix (.var 0) (.int 1)) (.ix (.var 1) (.int 1))) .nil)))) .nil)⟩
def d_over : Def := ⟨2, 2, [], (.cons (.ret (.call "ratio" (.cons .own (.bin .mul (.ix (.var 0) (.int 0)) (.ix (.var 1) (.int 1))) (.cons .own (.bin .mul (.ix (.var 0) (.int 1)) (.ix (.var 1) (.int 0))) .nil)))) .nil)⟩
def d_below : Def := ⟨2, 2, [], (.cons (.ret (.cmp .lt (.bin .mul (.ix (.var 0) (.int 0)) (.ix (.var 1) (.int 1))) (.bin .mul (.ix (.var 1) (.int 0)) (.ix (.var 0) (.int 1))))) .nil)⟩
def d__law_is_int : Def := ⟨1, 1, [], (.cons (.ret (.and (.isi (.var 0) "int") (.no (.isi (.var 0) "bool")))) .nil)⟩
def d__law_same : Def := ⟨2, 2, [], (.cons (.ret (.and (.isi (.var 0) "bool") (.cmp .eq (.var 0) (.var 1)))) .nil)⟩
def d__law_ratio : Def := ⟨2, 3, [], (.cons (.iff (.cmp .lt (.var 1) (.int 0)) (.cons (.asg (.tup (.cons (.var 0) (.cons (.var 1) .nil))) (.tup (.cons (.bin .sub (.int 0) (.var 0)) (.cons (.bin .sub (.int 0) (.var 1)) .nil)))) .nil) .nil) (.cons (.asg (.var 2) (.call "_law_gcd" (.cons .own (.var 0) (.cons .own (.var 1) .nil)))) (.cons (.ret (.tup (.cons (.bin .fdiv (.var 0) (.var 2)) (.cons (.bin .fdiv (.var 1) (.var 2)) .nil)))) .nil)))⟩
def d__law_add : Def := ⟨2, 2, [], (.cons (.ret (.call "_law_ratio" (.cons .own (.bin .add (.bin .mul (.ix (.var 0) (.int 0)) (.ix (.var 1) (.int 1))) (.bin .mul (.ix (.var 1) (.int 0)) (.ix (.var 0) (.int 1)))) (.cons .own (.bin .mul (.ix (.var 0) (.int 1)) (.ix (.var 1) (.int 1))) .nil)))) .nil)⟩
def d__law_sub : Def := ⟨2, 2, [], (.cons (.ret (.call "_law_ratio" (.cons .own (.bin .sub (.bin .mul (.ix (.var 0) (.int 0)) (.ix (.var 1) (.int 1))) (.bin .mul (.ix (.var 1) (.int 0)) (.ix (.var 0) (.int 1)))) (.cons .own (.bin .mul (.ix (.var 0) (.int 1)) (.ix (.var 1) (.int 1))) .nil)))) .nil)⟩
theorem ctx_call {P : Prog} {n : Nat} {io : List Nat} {f : String} {ss : List Slot} : (ctxF P n io).call f ss = callF P n f ss := rfl
theorem out_ok {r : Slot} : outS false (.ok r []) = some r := rfl
local macro_rules | `(tactic| trivial) => `(tactic| (simp only [E.sem, mk3, mkV, mkT, rdP, Es.vals, Es.valp, As.args, hasL, hasL.isPl, Bool.false_or, Bool.or_false, ctx_call, out_ok, rv, pr, fz_v, fz_ml, fz_md, bi_gcd, bi_abs, bi_int, bi_len, bi_lent, neg_i, tr_b, tup_1, tup_2, tup_3, fix_v, ix_t0, ix_t1, bin_add, bin_sub, cmp_lt, cmp_le, cmp_gt, cmp_ge, cmp_eq, cmp_ne,
  Option.bind_some, Option.map_some, Option.join_some, List.getElem?_cons_zero, List.getElem?_cons_succ, List.map_cons, List.map_nil, List.cons_append, List.nil_append, List.replicate, decide_true, decide_false, Bool.not_true, Bool.not_false, if_true, if_false, Bool.false_eq_true, not_true_eq_false, not_false_eq_true, *]; done))
theorem den_mul_ne (p q : Rat) : (p.den : Int) * (q.den : Int) ≠ 0 := Int.mul_ne_zero (by have := p.den_nz; omega) (by have := q.den_nz; omega)
theorem add_divInt (p q : Rat) : Rat.divInt (p.num * q.den + q.num * p.den) (p.den * q.den) = p + q := by
  have h1 := den_ne p
  have h2 := den_ne q
  have e1 := rat_self p
  have e2 := rat_self q
  rw [Rat.divInt_eq_div]
  conv => rhs; rw [e1, e2]
  simp only [Rat.intCast_add, Rat.intCast_mul]
  grind
theorem sub_divInt (p q : Rat) : Rat.divInt (p.num * q.den - q.num * p.den) (p.den * q.den) = p - q := by
  have h1 := den_ne p
  have h2 := den_ne q
  have e1 := rat_self p
  have e2 := rat_self q
  rw [Rat.divInt_eq_div]
  conv => rhs; rw [e1, e2]
  simp only [Rat.intCast_sub, Rat.intCast_mul]
  grind
theorem mul_divInt (p q : Rat) : Rat.divInt (p.num * q.num) (p.den * q.den) = p * q := by
  have h1 := den_ne p
  have h2 := den_ne q
  have e1 := rat_self p
  have e2 := rat_self q
  rw [Rat.divInt_eq_div]
  conv => rhs; rw [e1, e2]
  simp only [Rat.intCast_mul]
  grind
theorem num_ne {q : Rat} (h : q ≠ 0) : (q.num : Rat) ≠ 0 := fun z => h (by rw [rat_self q, z]; grind)
theorem div_divInt (p : Rat) {q : Rat} (hq : q ≠ 0) : Rat.divInt (p.num * q.den) (p.den * q.num) = p / q := by
  have h1 := den_ne p
  have h2 := den_ne q
  have h3 := num_ne hq
  have e1 := rat_self p
  have e2 := rat_self q
  rw [Rat.divInt_eq_div]
  conv => rhs; rw [e1, e2]
  simp only [Rat.intCast_mul]
  grind
/-- the products that stand in a sum of two ratios -/
theorem muls {p q : Rat} {k l : Nat} (hp : Sz k p) (hq : Sz l q) (hk : k + l < 8000) :
    binV .mul (.int p.num) (.int q.den) = some (.v (.int (p.num * q.den))) ∧ binV .mul (.int q.num) (.int p.den) = some (.v (.int (q.num * p.den))) ∧ binV .mul (.int p.den) (.int q.den) = some (.v (.int (p.den * q.den))) ∧
    binV .mul (.int p.num) (.int q.num) = some (.v (.int (p.num * q.num))) ∧ binV .mul (.int p.den) (.int q.num) = some (.v (.int (p.den * q.num))) :=
  have a1 : ((p.den : Int)).natAbs < 2 ^ k := by rw [Int.natAbs_natCast]; exact hp.2
  have a2 : ((q.den : Int)).natAbs < 2 ^ l := by rw [Int.natAbs_natCast]; exact hq.2
  ⟨bin_mul (mulOk_of hp.1 a2 (by omega)), bin_mul (mulOk_of hq.1 a1 (by omega)), bin_mul (mulOk_of a1 a2 (by omega)), bin_mul (mulOk_of hp.1 hq.1 (by omega)), bin_mul (mulOk_of a1 hq.1 (by omega))⟩
theorem den_log {p q : Rat} {k l : Nat} (hp : Sz k p) (hq : Sz l q) (hk : k + l < 8000) : ((p.den : Int) * (q.den : Int)).natAbs.log2 < 9000 := by
  have : ((p.den : Int) * (q.den : Int)).natAbs < 2 ^ (k + l) := abs_mul_lt (by rw [Int.natAbs_natCast]; exact hp.2) (by rw [Int.natAbs_natCast]; exact hq.2)
  have := log2_of this
  omega
theorem plus_ok {P : Prog} (h : P.fn "plus" = some d_plus) (hr : P.fn "ratio" = some d_ratio) (n : Nat) {p q : Rat} {k l : Nat} (hp : Sz k p) (hq : Sz l q) (hk : k + l < 8000) : callF P (n + 2) "plus" [.v (rv p), .v (rv q)] = .ok (.v (rv (p + q))) [] := by
  obtain ⟨m1, m2, m3, m4, m5⟩ := muls hp hq hk
  have r := ratio_ok hr n (a := p.num * q.den + q.num * p.den) (den_mul_ne p q) (den_log hp hq hk)
  rw [nrm_eq (den_mul_ne p q), add_divInt] at r
  exact call_ok (env := [some (.v (rv p)), some (.v (rv q))]) (σ := [some (.v (rv p)), some (.v (rv q))]) h rfl rfl rfl rfl (run_ret nofun (by trivial))
theorem minus_ok {P : Prog} (h : P.fn "minus" = some d_minus) (hr : P.fn "ratio" = some d_ratio) (n : Nat) {p q : Rat} {k l : Nat} (hp : Sz k p) (hq : Sz l q) (hk : k + l < 8000) : callF P (n + 2) "minus" [.v (rv p), .v (rv q)] = .ok (.v (rv (p - q))) [] := by
  obtain ⟨m1, m2, m3, m4, m5⟩ := muls hp hq hk
  have r := ratio_ok hr n (a := p.num * q.den - q.num * p.den) (den_mul_ne p q) (den_log hp hq hk)
  rw [nrm_eq (den_mul_ne p q), sub_divInt] at r
  exact call_ok (env := [some (.v (rv p)), some (.v (rv q))]) (σ := [some (.v (rv p)), some (.v (rv q))]) h rfl rfl rfl rfl (run_ret nofun (by trivial))
theorem by_ok {P : Prog} (h : P.fn "by" = some d_by) (hr : P.fn "ratio" = some d_ratio) (n : Nat) {p q : Rat} {k l : Nat} (hp : Sz k p) (hq : Sz l q) (hk : k + l < 8000) : callF P (n + 2) "by" [.v (rv p), .v (rv q)] = .ok (.v (rv (p * q))) [] := by
  obtain ⟨m1, m2, m3, m4, m5⟩ := muls hp hq hk
  have r := ratio_ok hr n (a := p.num * q.num) (den_mul_ne p q) (den_log hp hq hk)
  rw [nrm_eq (den_mul_ne p q), mul_divInt] at r
  exact call_ok (env := [some (.v (rv p)), some (.v (rv q))]) (σ := [some (.v (rv p)), some (.v (rv q))]) h rfl rfl rfl rfl (run_ret nofun (by trivial))
theorem num_ne0 {q : Rat} (h : q ≠ 0) : q.num ≠ 0 := fun z => num_ne h (by rw [z]; rfl)
theorem over_ok {P : Prog} (h : P.fn "over" = some d_over) (hr : P.fn "ratio" = some d_ratio) (n : Nat) {p q : Rat} {k l : Nat} (hp : Sz k p) (hq : Sz l q) (hk : k + l < 8000) (h0 : q ≠ 0) : callF P (n + 2) "over" [.v (rv p), .v (rv q)] = .ok (.v (rv (p / q))) [] := by
  obtain ⟨m1, m2, m3, m4, m5⟩ := muls hp hq hk
  have hd : (p.den : Int) * q.num ≠ 0 := Int.mul_ne_zero (by have := p.den_nz; omega) (num_ne0 h0)
  have hl : ((p.den : Int) * q.num).natAbs.log2 < 9000 := by
    have : ((p.den : Int) * q.num).natAbs < 2 ^ (k + l) := abs_mul_lt (by rw [Int.natAbs_natCast]; exact hp.2) hq.1
    have := log2_of this
    omega
  have r := ratio_ok hr n (a := p.num * q.den) hd hl
  rw [nrm_eq hd, div_divInt p h0] at r
  exact call_ok (env := [some (.v (rv p)), some (.v (rv q))]) (σ := [some (.v (rv p)), some (.v (rv q))]) h rfl rfl rfl rfl (run_ret nofun (by trivial))
theorem below_ok {P : Prog} (h : P.fn "below" = some d_below) (n : Nat) {p q : Rat} {k l : Nat} (hp : Sz k p) (hq : Sz l q) (hk : k + l < 8000) : callF P (n + 1) "below" [.v (rv p), .v (rv q)] = .ok (.v (.bl (decide (p < q)))) [] := by
  obtain ⟨m1, m2, m3, m4, m5⟩ := muls hp hq hk
  refine call_ok (env := [some (.v (rv p)), some (.v (rv q))]) (σ := [some (.v (rv p)), some (.v (rv q))]) h rfl rfl rfl rfl (run_ret nofun ?_)
  have e : decide (p < q) = decide (p.num * q.den < q.num * p.den) := decide_eq_decide.mpr (Rat.lt_iff p q)
  rw [e]
  trivial
end PL
/-! M5: the law's own ratios. -/
namespace PL
open PySem (Str)
def d_is_ratio : Def := ⟨1, 3, [], (.cons (.iff (.or (.no (.isi (.var 0) "tuple")) (.cmp .ne (.bi "len" (.cons (.var 0) .nil)) (.int 2))) (.cons (.ret (.bl false)) .nil) .nil) (.cons (.asg (.tup (.cons (.var 1) (.cons (.var 2) .nil))) (.var 0)) (.cons (.iff (.or (.tyIs true "int" (.var 1)) (.or (.tyIs true "int" (.var 2)) (.cmp .lt (.var 2) (.int 1)))) (.cons (.ret (.bl false)) .nil) .nil) (.cons (.ret (.cmp .eq (.bi "gcd" (.cons (.var 1) (.cons (.var 2) .nil))) (.int 1))) .nil))))⟩
def d_sum_of : Def := ⟨1, 5, [], (.cons (.asg (.var 1) (.int 0)) (.cons (.asg (.var 2) (.int 1)) (.cons (.fr (.var 3) (.it (.var 0)) (.cons (.asg (.tup (.cons (.var 1) (.cons (.var 2) .nil))) (.tup (.cons (.bin .add (.bin .mul (.var 1) (.ix (.var 3) (.int 1))) (.bin .mul (.ix (.var 3) (.int 0)) (.var 2))) (.cons (.bin .mul (.var 2) (.ix (.var 3) (.int 1))) .nil)))) (.cons (.asg (.var 4) (.bi "gcd" (.cons (.var 1) (.cons (.var 2) .nil)))) (.cons (.asg (.tup (.cons (.var 1) (.cons (.var 2) .nil))) (.tup (.cons (.bin .fdiv (.var 1) (.var 4)) (.cons (.bin .fdiv (.var 2) (.var 4)) .nil)))) .nil)))) (.cons (.ret (.tup (.cons (.var 1) (.cons (.var 2) .nil)))) .nil))))⟩
def d__law_gcd : Def := ⟨2, 3, [], (.cons (.asg (.var 0) (.bi "abs" (.cons (.var 0) .nil))) (.cons (.asg (.var 1) (.bi "abs" (.cons (.var 1) .nil))) (.cons (.fr (.var 2) (.r1 (.int 3000)) (.cons (.iff (.cmp .eq (.var 1) (.int 0)) (.cons (.ret (.var 0)) .nil) .nil) (.cons (.asg (.tup (.cons (.var 0) (.cons (.var 1) .nil))) (.tup (.cons (.var 1) (.cons (.bin .mod (.var 0) (.var 1)) .nil)))) .nil))) (.cons (.ret (.var 0)) .nil))))⟩
def d__law_sum : Def := ⟨1, 3, [], (.cons (.asg (.var 1) (.tup (.cons (.int 0) (.cons (.int 1) .nil)))) (.cons (.fr (.var 2) (.it (.var 0)) (.cons (.asg (.var 1) (.call "_law_add" (.cons .own (.var 1) (.cons .own (.var 2) .nil)))) .nil)) (.cons (.ret (.var 1)) .nil)))⟩
def d__law_is_ratio : Def := ⟨1, 1, [], (.cons (.iff (.or (.no (.isi (.var 0) "tuple")) (.or (.cmp .ne (.bi "len" (.cons (.var 0) .nil)) (.int 2)) (.or (.no (.call "_law_is_int" (.cons .own (.ix (.var 0) (.int 0)) .nil))) (.no (.call "_law_is_int" (.cons .own (.ix (.var 0) (.int 1)) .nil)))))) (.cons (.ret (.bl false)) .nil) .nil) (.cons (.ret (.and (.cmp .gt (.ix (.var 0) (.int 1)) (.int 0)) (.cmp .eq (.call "_law_gcd" (.cons .own (.ix (.var 0) (.int 0)) (.cons .own (.ix (.var 0) (.int 1)) .nil))) (.int 1)))) .nil))⟩
def d__law_is_sum : Def := ⟨3, 3, [], (.cons (.ret (.and (.call "_law_is_ratio" (.cons .own (.var 2) .nil)) (.cmp .eq (.bin .mul (.bin .mul (.ix (.var 2) (.int 0)) (.ix (.var 0) (.int 1))) (.ix (.var 1) (.int 1))) (.bin .mul (.bin .add (.bin .mul (.ix (.var 0) (.int 0)) (.ix (.var 1) (.int 1))) (.bin .mul (.ix (.var 1) (.int 0)) (.ix (.var 0) (.int 1)))) (.ix (.var 2) (.int 1)))))) .nil)⟩
def d__law_refuses : Def := ⟨2, 2, [], (.cons (.tryO (.cons (.iff (.cmp .eq (.var 0) (.int 0)) (.cons (.ex (.call "ratio" (.cons .own (.ix (.var 1) (.int 0)) (.cons .own (.int 0) .nil)))) .nil) (.cons (.ex (.call "over" (.cons .own (.var 1) (.cons .own (.tup (.cons (.int 0) (.cons (.int 1) .nil))) .nil)))) .nil)) .nil) "BadRatio" (.bl true)) (.cons (.ret (.bl false)) .nil))⟩
local macro_rules | `(tactic| trivial) => `(tactic| (simp only [E.sem, mk3, mkV, mkT, rdP, Es.vals, Es.valp, As.args, hasL, hasL.isPl, Bool.false_or, Bool.or_false, ctx_call, out_ok, rv, pr, fz_v, fz_ml, fz_md, bi_gcd, bi_abs, bi_int, bi_len, bi_lent, neg_i, tr_b, tup_1, tup_2, tup_3, fix_v, ix_t0, ix_t1, bin_add, bin_sub, cmp_lt, cmp_le, cmp_gt, cmp_ge, cmp_eq, cmp_ne,
  Option.bind_some, Option.map_some, Option.join_some, List.getElem?_cons_zero, List.getElem?_cons_succ, List.map_cons, List.map_nil, List.cons_append, List.nil_append, List.replicate, decide_true, decide_false, Bool.not_true, Bool.not_false, if_true, if_false, Bool.false_eq_true, not_true_eq_false, not_false_eq_true, *]; done))
theorem sz_add {p q : Rat} {k l : Nat} (hp : Sz k p) (hq : Sz l q) : Sz (k + l + 1) (p + q) := by
  rw [← add_divInt]
  have a1 : ((p.den : Int)).natAbs < 2 ^ k := by rw [Int.natAbs_natCast]; exact hp.2
  have a2 : ((q.den : Int)).natAbs < 2 ^ l := by rw [Int.natAbs_natCast]; exact hq.2
  refine sz_divInt (den_mul_ne p q) (abs_add_lt (abs_mul_lt hp.1 a2) ?_) (Nat.lt_of_lt_of_le (abs_mul_lt a1 a2) (Nat.pow_le_pow_right (by decide) (by omega)))
  have := abs_mul_lt hq.1 a1
  rwa [Nat.add_comm] at this
theorem sz_sub {p q : Rat} {k l : Nat} (hp : Sz k p) (hq : Sz l q) : Sz (k + l + 1) (p - q) := by
  rw [← sub_divInt]
  have a1 : ((p.den : Int)).natAbs < 2 ^ k := by rw [Int.natAbs_natCast]; exact hp.2
  have a2 : ((q.den : Int)).natAbs < 2 ^ l := by rw [Int.natAbs_natCast]; exact hq.2
  refine sz_divInt (den_mul_ne p q) (abs_sub_lt (abs_mul_lt hp.1 a2) ?_) (Nat.lt_of_lt_of_le (abs_mul_lt a1 a2) (Nat.pow_le_pow_right (by decide) (by omega)))
  have := abs_mul_lt hq.1 a1
  rwa [Nat.add_comm] at this
theorem sz_mul {p q : Rat} {k l : Nat} (hp : Sz k p) (hq : Sz l q) : Sz (k + l) (p * q) := by
  rw [← mul_divInt]
  have a1 : ((p.den : Int)).natAbs < 2 ^ k := by rw [Int.natAbs_natCast]; exact hp.2
  have a2 : ((q.den : Int)).natAbs < 2 ^ l := by rw [Int.natAbs_natCast]; exact hq.2
  exact sz_divInt (den_mul_ne p q) (abs_mul_lt hp.1 hq.1) (abs_mul_lt a1 a2)
theorem sz_div {p q : Rat} {k l : Nat} (hp : Sz k p) (hq : Sz l q) (h0 : q ≠ 0) : Sz (k + l) (p / q) := by
  rw [← div_divInt p h0]
  have a1 : ((p.den : Int)).natAbs < 2 ^ k := by rw [Int.natAbs_natCast]; exact hp.2
  have a2 : ((q.den : Int)).natAbs < 2 ^ l := by rw [Int.natAbs_natCast]; exact hq.2
  exact sz_divInt (Int.mul_ne_zero (by have := p.den_nz; omega) (num_ne0 h0)) (abs_mul_lt hp.1 a2) (abs_mul_lt a1 hq.1)
/-! ### the law's gcd -/
theorem gcdI_step {a b : Int} (ha : 0 ≤ a) (hb : 0 < b) : gcdI b (a.fmod b) = gcdI a b := by
  unfold gcdI
  rw [Int.fmod_eq_emod_of_nonneg _ (by omega)]
  congr 1
  obtain ⟨x, rfl⟩ := Int.eq_ofNat_of_zero_le ha
  obtain ⟨y, rfl⟩ := Int.eq_ofNat_of_zero_le (by omega : 0 ≤ b)
  have : ((x : Int) % (y : Int)).natAbs = x % y := by
    rw [← Int.natCast_emod, Int.natAbs_natCast]
  rw [this, Int.natAbs_natCast, Int.natAbs_natCast, Nat.gcd_comm y, ← Nat.gcd_rec, Nat.gcd_comm]
def gcdBody : Ss := (.cons (.iff (.cmp .eq (.var 1) (.int 0)) (.cons (.ret (.var 0)) .nil) .nil) (.cons (.asg (.tup (.cons (.var 0) (.cons (.var 1) .nil))) (.tup (.cons (.var 1) (.cons (.bin .mod (.var 0) (.var 1)) .nil)))) .nil))
def GInv (g : Int) (r : List Val) (σ : Env) : Prop := ∃ (a b : Int) (o : Option Slot) (m : Nat), σ = [some (.v (.int a)), some (.v (.int b)), o] ∧ 0 ≤ a ∧ 0 ≤ b ∧ gcdI a b = g ∧ a * b < 2 ^ m ∧ ((b ≤ a ∧ m + 1 ≤ r.length) ∨ m + 2 ≤ r.length)
theorem gcd_turn {P : Prog} {n : Nat} (g : Int) (x : Val) (r : List Val) (σ : Env) (h : GInv g (x :: r) σ) :
    (∃ σ', (stepF (ctxF P n []) (.var 2) gcdBody x σ = .next σ' ∨ stepF (ctxF P n []) (.var 2) gcdBody x σ = .cnt σ') ∧ GInv g r σ') ∨ ∃ s σ', stepF (ctxF P n []) (.var 2) gcdBody x σ = .ret s σ' ∧ s = .v (.int g) := by
  obtain ⟨a, b, o, m, rfl, ha, hb, hg, hm, hl⟩ := h
  by_cases h0 : b = 0
  · right
    refine ⟨.v (.int a), [none, some (.v (.int b)), some (.v x)], ?_, ?_⟩
    · show gcdBody.runs (ctxF P n []) [some (.v (.int a)), some (.v (.int b)), some (.v x)] = _
      exact run_ifR (by trivial) (run_retv rfl rfl) nofun
    · rw [← hg, h0]
      unfold gcdI
      simp only [Int.natAbs_zero, Nat.gcd_zero_right]
      congr 2
      omega
  · left
    have hbp : 0 < b := by omega
    have h0' : (b = 0) = False := by simpa using h0
    have md := bin_mod (i := a) h0
    refine ⟨[some (.v (.int b)), some (.v (.int (a.fmod b))), some (.v x)], .inl ?_, ?_⟩
    · show gcdBody.runs (ctxF P n []) [some (.v (.int a)), some (.v (.int b)), some (.v x)] = _
      refine run_skip (by trivial) (run_asg (s := .v (pr b (a.fmod b))) (by trivial) rfl rfl run_nil)
    · have e : a.fmod b = a % b := Int.fmod_eq_emod_of_nonneg _ (by omega)
      have r1 := Int.emod_nonneg a h0
      have r2 := Int.emod_lt_of_pos a hbp
      rcases hl with ⟨hle, hl⟩ | hl
      · have hm' : 0 < m := by
          rcases Nat.eq_zero_or_pos m with z | z
          · subst z
            have : (1 : Int) * 1 ≤ a * b := Int.mul_le_mul (by omega) (by omega) (by decide) (by omega)
            simp at hm
            omega
          · exact z
        refine ⟨b, a.fmod b, _, m - 1, rfl, by omega, by rw [e]; exact r1, by rw [gcdI_step ha hbp]; exact hg, ?_, .inl ⟨by rw [e]; omega, by simp only [List.length_cons] at hl; omega⟩⟩
        have hq : 1 ≤ a / b := by
          have := Int.le_ediv_of_mul_le hbp (a := 1) (b := a) (by omega)
          exact this
        have ed := Int.emod_def a b
        have h3 : b ≤ b * (a / b) := by
          have := Int.mul_le_mul_of_nonneg_left hq (by omega : (0 : Int) ≤ b)
          omega
        have h4 : 2 * (a % b) < a := by omega
        have h5 : b * (2 * (a % b)) ≤ b * a := Int.mul_le_mul_of_nonneg_left (by omega) (by omega)
        have h6 : (2 : Int) ^ m = 2 * 2 ^ (m - 1) := by
          conv => lhs; rw [show m = (m - 1) + 1 by omega, Int.pow_succ]
          omega
        rw [e]
        have h7 : b * (2 * (a % b)) = 2 * (b * (a % b)) := by rw [← Int.mul_assoc, Int.mul_comm b 2, Int.mul_assoc]
        have h8 : b * a = a * b := Int.mul_comm _ _
        omega
      · refine ⟨b, a.fmod b, _, m, rfl, by omega, by rw [e]; exact r1, by rw [gcdI_step ha hbp]; exact hg, ?_, .inl ⟨by rw [e]; omega, by simp only [List.length_cons] at hl; omega⟩⟩
        rw [e]
        have h9 : a % b ≤ a := by
          have := Int.emod_def a b
          have := Int.mul_nonneg hb (Int.ediv_nonneg ha hb)
          omega
        have h10 : b * (a % b) ≤ b * a := Int.mul_le_mul_of_nonneg_left h9 (by omega)
        have h8 : b * a = a * b := Int.mul_comm _ _
        omega
theorem gcdI_abs (a b : Int) : gcdI (if a < 0 then -a else a) (if b < 0 then -b else b) = gcdI a b := by
  unfold gcdI
  congr 2
  · split <;> omega
  · split <;> omega
theorem rangeL_len (a b : Int) : (rangeL a b).length = (b - a).toNat := by simp [rangeL]
theorem lgcd_ok {P : Prog} (h : P.fn "_law_gcd" = some d__law_gcd) (n : Nat) {a b : Int} {k l : Nat} (ha : a.natAbs < 2 ^ k) (hb : b.natAbs < 2 ^ l) (hk : k + l ≤ 2990) : callF P (n + 1) "_law_gcd" [.v (.int a), .v (.int b)] = .ok (.v (.int (gcdI a b))) [] := by
  have inv : GInv (gcdI a b) (rangeL 0 3000) [some (.v (.int (if a < 0 then -a else a))), some (.v (.int (if b < 0 then -b else b))), none] := by
    refine ⟨_, _, _, k + l, rfl, by split <;> omega, by split <;> omega, gcdI_abs a b, ?_, .inr (by rw [rangeL_len]; omega)⟩
    have := nat_mul_lt ha hb
    have e : ((if a < 0 then -a else a) * (if b < 0 then -b else b)) = ((a.natAbs * b.natAbs : Nat) : Int) := by
      rw [Int.natCast_mul]
      congr 1
      · split <;> omega
      · split <;> omega
    rw [e]
    exact_mod_cast this
  rcases loop_ret (f := stepF (ctxF P n []) (.var 2) gcdBody) (GInv (gcdI a b)) (fun s => s = .v (.int (gcdI a b))) (gcd_turn _) _ _ inv with ⟨σ', _, ⟨_, _, _, m, _, _, _, _, _, hl⟩⟩ | ⟨s, σ', e, rfl⟩
  · simp at hl
  · refine call_ok (env := [some (.v (.int a)), some (.v (.int b)), none]) (σ := σ') h rfl rfl rfl rfl ?_
    refine run_asg (s := .v (.int (if a < 0 then -a else a))) (σ2 := [some (.v (.int (if a < 0 then -a else a))), some (.v (.int b)), none]) (by trivial) rfl rfl ?_
    refine run_asg (s := .v (.int (if b < 0 then -b else b))) (σ2 := [some (.v (.int (if a < 0 then -a else a))), some (.v (.int (if b < 0 then -b else b))), none]) (by trivial) rfl rfl ?_
    exact run_forR rfl (src_r1 (i := 3000) (by trivial) rfl) e nofun
end PL
/-! M6: the law's own ratios, sums. -/
namespace PL
open PySem (Str)
local macro_rules | `(tactic| trivial) => `(tactic| (simp only [E.sem, mk3, mkV, mkT, rdP, Es.vals, Es.valp, As.args, hasL, hasL.isPl, Bool.false_or, Bool.or_false, ctx_call, out_ok, rv, pr, fz_v, fz_ml, fz_md, bi_gcd, bi_abs, bi_int, bi_len, bi_lent, neg_i, tr_b, tup_1, tup_2, tup_3, fix_v, ix_t0, ix_t1, bin_add, bin_sub, cmp_lt, cmp_le, cmp_gt, cmp_ge, cmp_eq, cmp_ne, Int.zero_sub,
  Option.bind_some, Option.map_some, Option.join_some, List.getElem?_cons_zero, List.getElem?_cons_succ, List.map_cons, List.map_nil, List.cons_append, List.nil_append, List.replicate, decide_true, decide_false, Bool.not_true, Bool.not_false, if_true, if_false, Bool.false_eq_true, not_true_eq_false, not_false_eq_true, *]; done))
theorem lratio_ok {P : Prog} (h : P.fn "_law_ratio" = some d__law_ratio) (hg : P.fn "_law_gcd" = some d__law_gcd) (n : Nat) {a b : Int} {k l : Nat} (hb : b ≠ 0) (ha : a.natAbs < 2 ^ k) (hbl : b.natAbs < 2 ^ l) (hk : k + l ≤ 2990) :
    callF P (n + 2) "_law_ratio" [.v (.int a), .v (.int b)] = .ok (.v (nrm a b)) [] := by
  have hs : b.natAbs.log2 < 9000 := by have := log2_of hbl; omega
  by_cases hneg : b < 0
  · have f1 := fun x => bin_fdiv (i := x) (gcdI_ne (a := -a) (b := -b) (by omega)) (gcdI_log (by omega) (by rw [Int.natAbs_neg]; exact hs))
    have g := lgcd_ok hg n (a := -a) (b := -b) (k := k) (l := l) (by rwa [Int.natAbs_neg]) (by rwa [Int.natAbs_neg]) hk
    refine call_ok (env := [some (.v (.int a)), some (.v (.int b)), none]) h rfl rfl rfl rfl ?_ (σ := [some (.v (.int (-a))), some (.v (.int (-b))), some (.v (.int (gcdI (-a) (-b))))])
    refine run_ifT (σ2 := [some (.v (.int (-a))), some (.v (.int (-b))), none]) (by trivial) ?_ ?_
    · exact run_asg (s := .v (pr (-a) (-b))) (by trivial) rfl rfl run_nil
    refine run_asg (s := .v (.int (gcdI (-a) (-b)))) (σ2 := [some (.v (.int (-a))), some (.v (.int (-b))), some (.v (.int (gcdI (-a) (-b))))]) (by trivial) rfl rfl ?_
    refine run_ret nofun ?_
    rw [nrm, if_pos hneg]
    trivial
  · have f1 := fun x => bin_fdiv (i := x) (gcdI_ne (a := a) hb) (gcdI_log hb hs)
    have g := lgcd_ok hg n (a := a) (b := b) (k := k) (l := l) ha hbl hk
    refine call_ok (env := [some (.v (.int a)), some (.v (.int b)), none]) h rfl rfl rfl rfl (σ := [some (.v (.int a)), some (.v (.int b)), some (.v (.int (gcdI a b)))]) ?_
    refine run_skip (by trivial) ?_
    refine run_asg (s := .v (.int (gcdI a b))) (σ2 := [some (.v (.int a)), some (.v (.int b)), some (.v (.int (gcdI a b)))]) (by trivial) rfl rfl ?_
    refine run_ret nofun ?_
    rw [nrm, if_neg hneg]
    trivial
theorem sum_sz {p q : Rat} {k l : Nat} (hp : Sz k p) (hq : Sz l q) : (p.num * q.den + q.num * p.den).natAbs < 2 ^ (k + l + 1) ∧ (p.num * q.den - q.num * p.den).natAbs < 2 ^ (k + l + 1) ∧ ((p.den : Int) * q.den).natAbs < 2 ^ (k + l) := by
  have a1 : ((p.den : Int)).natAbs < 2 ^ k := by rw [Int.natAbs_natCast]; exact hp.2
  have a2 : ((q.den : Int)).natAbs < 2 ^ l := by rw [Int.natAbs_natCast]; exact hq.2
  have b1 := abs_mul_lt hp.1 a2
  have b2 := abs_mul_lt hq.1 a1
  rw [Nat.add_comm l k] at b2
  exact ⟨abs_add_lt b1 b2, abs_sub_lt b1 b2, abs_mul_lt a1 a2⟩
theorem ladd_ok {P : Prog} (h : P.fn "_law_add" = some d__law_add) (hr : P.fn "_law_ratio" = some d__law_ratio) (hg : P.fn "_law_gcd" = some d__law_gcd) (n : Nat) {p q : Rat} {k l : Nat} (hp : Sz k p) (hq : Sz l q) (hk : k + l < 1490) :
    callF P (n + 3) "_law_add" [.v (rv p), .v (rv q)] = .ok (.v (rv (p + q))) [] := by
  obtain ⟨m1, m2, m3, m4, m5⟩ := muls hp hq (by omega)
  obtain ⟨s1, s2, s3⟩ := sum_sz hp hq
  have r := lratio_ok hr hg n (den_mul_ne p q) s1 s3 (by omega)
  rw [nrm_eq (den_mul_ne p q), add_divInt] at r
  exact call_ok (env := [some (.v (rv p)), some (.v (rv q))]) (σ := [some (.v (rv p)), some (.v (rv q))]) h rfl rfl rfl rfl (run_ret nofun (by trivial))
theorem lsub_ok {P : Prog} (h : P.fn "_law_sub" = some d__law_sub) (hr : P.fn "_law_ratio" = some d__law_ratio) (hg : P.fn "_law_gcd" = some d__law_gcd) (n : Nat) {p q : Rat} {k l : Nat} (hp : Sz k p) (hq : Sz l q) (hk : k + l < 1490) :
    callF P (n + 3) "_law_sub" [.v (rv p), .v (rv q)] = .ok (.v (rv (p - q))) [] := by
  obtain ⟨m1, m2, m3, m4, m5⟩ := muls hp hq (by omega)
  obtain ⟨s1, s2, s3⟩ := sum_sz hp hq
  have r := lratio_ok hr hg n (den_mul_ne p q) s2 s3 (by omega)
  rw [nrm_eq (den_mul_ne p q), sub_divInt] at r
  exact call_ok (env := [some (.v (rv p)), some (.v (rv q))]) (σ := [some (.v (rv p)), some (.v (rv q))]) h rfl rfl rfl rfl (run_ret nofun (by trivial))
/-! ### sums over lists -/
def rsum : List Rat → Rat
  | [] => 0
  | q :: r => q + rsum r
def AllSz (k : Nat) (qs : List Rat) : Prop := ∀ q ∈ qs, Sz k q
def lsumBody : Ss := (.cons (.asg (.var 1) (.call "_law_add" (.cons .own (.var 1) (.cons .own (.var 2) .nil)))) .nil)
def SInv (L : Val) (k : Nat) (tot : Rat) (r : List Val) (σ : Env) : Prop := ∃ (ds : List Rat) (q : Rat) (j : Nat) (o : Option Slot), r = ds.map rv ∧ AllSz k ds ∧ σ = [some (.v L), some (.v (rv q)), o] ∧ Sz j q ∧ q + rsum ds = tot ∧ j + (k + 1) * ds.length + k < 1480
theorem rv0 : rv 0 = pr 0 1 := rfl
theorem lsum_ok {P : Prog} (h : P.fn "_law_sum" = some d__law_sum) (ha : P.fn "_law_add" = some d__law_add) (hr : P.fn "_law_ratio" = some d__law_ratio) (hg : P.fn "_law_gcd" = some d__law_gcd) (n : Nat) {qs : List Rat} {k : Nat} (hq : AllSz k qs) (hk : (k + 1) * qs.length + k < 1470) :
    callF P (n + 4) "_law_sum" [.v (.lst (qs.map rv))] = .ok (.v (rv (rsum qs))) [] := by
  have inv : SInv (.lst (qs.map rv)) k (rsum qs) (qs.map rv) [some (.v (.lst (qs.map rv))), some (.v (rv 0)), none] :=
    ⟨qs, 0, 1, none, rfl, hq, rfl, ⟨by decide, by decide⟩, by grind, by omega⟩
  obtain ⟨σ', e, ds, q, j, o, hd, _, rfl, _, ht, _⟩ := loop_inv (f := stepF (ctxF P (n + 3) []) (.var 2) lsumBody) (SInv (.lst (qs.map rv)) k (rsum qs)) (fun x r σ hi => by
    obtain ⟨ds, q, j, o, hd, hs, rfl, hj, ht, hb⟩ := hi
    cases ds with
    | nil => cases hd
    | cons d ds =>
      simp only [List.map_cons, List.cons.injEq] at hd
      obtain ⟨rfl, rfl⟩ := hd
      have hd1 := hs d (List.mem_cons_self ..)
      simp only [List.length_cons] at hb
      have hb' : j + (k + 1) * ds.length + (k + 1) + k < 1480 := by rw [Nat.mul_succ] at hb; omega
      have c := ladd_ok ha hr hg n hj hd1 (by omega)
      refine ⟨[some (.v (.lst (qs.map rv))), some (.v (rv (q + d))), some (.v (rv d))], .inl ?_, ds, q + d, j + k + 1, _, rfl, fun x hx => hs x (List.mem_cons_of_mem _ hx), rfl, sz_add hj hd1, by simp only [rsum] at ht; grind, by omega⟩
      show lsumBody.runs (ctxF P (n + 3) []) [some (.v (.lst (qs.map rv))), some (.v (rv q)), some (.v (rv d))] = _
      exact run_asg (s := .v (rv (q + d))) (by simp only [rv, pr] at c; trivial) rfl rfl run_nil) _ _ inv
  cases ds with
  | cons _ _ => cases hd
  | nil =>
    clear hd inv
    simp only [rsum] at ht
    have ht : q = rsum qs := by grind
    subst ht
    refine call_ok (env := [some (.v (.lst (qs.map rv))), none, none]) (σ := [some (.v (.lst (qs.map rv))), none, o]) h rfl rfl rfl rfl ?_
    refine run_asg (s := .v (rv 0)) (σ2 := [some (.v (.lst (qs.map rv))), some (.v (rv 0)), none]) (by rw [rv0]; trivial) rfl rfl ?_
    refine run_for (xs := qs.map rv) (σ2 := [some (.v (.lst (qs.map rv))), some (.v (rv (rsum qs))), o]) rfl (src_it (s := .v (.lst (qs.map rv))) (by trivial) rfl) e ?_
    exact run_retv rfl rfl
theorem fdiv_sum {a b : Int} (hb : 0 < b) : a.fdiv (gcdI a b) = (Rat.divInt a b).num ∧ b.fdiv (gcdI a b) = (Rat.divInt a b).den := by
  have := nrm_eq (a := a) (b := b) (by omega)
  rw [nrm, if_neg (by omega)] at this
  simp only [rv, pr, Val.tup.injEq, List.cons.injEq, Val.int.injEq, and_true] at this
  exact this
def sumBody : Ss := (.cons (.asg (.tup (.cons (.var 1) (.cons (.var 2) .nil))) (.tup (.cons (.bin .add (.bin .mul (.var 1) (.ix (.var 3) (.int 1))) (.bin .mul (.ix (.var 3) (.int 0)) (.var 2))) (.cons (.bin .mul (.var 2) (.ix (.var 3) (.int 1))) .nil)))) (.cons (.asg (.var 4) (.bi "gcd" (.cons (.var 1) (.cons (.var 2) .nil)))) (.cons (.asg (.tup (.cons (.var 1) (.cons (.var 2) .nil))) (.tup (.cons (.bin .fdiv (.var 1) (.var 4)) (.cons (.bin .fdiv (.var 2) (.var 4)) .nil)))) .nil)))
def OInv (L : Val) (k : Nat) (tot : Rat) (r : List Val) (σ : Env) : Prop := ∃ (ds : List Rat) (q : Rat) (j : Nat) (o o2 : Option Slot), r = ds.map rv ∧ AllSz k ds ∧ σ = [some (.v L), some (.v (.int q.num)), some (.v (.int q.den)), o, o2] ∧ Sz j q ∧ q + rsum ds = tot ∧ j + (k + 1) * ds.length + k < 7900
theorem sum_of_ok {P : Prog} (h : P.fn "sum_of" = some d_sum_of) (n : Nat) {qs : List Rat} {k : Nat} (hq : AllSz k qs) (hk : (k + 1) * qs.length + k < 7800) :
    callF P (n + 1) "sum_of" [.v (.lst (qs.map rv))] = .ok (.v (rv (rsum qs))) [] := by
  have inv : OInv (.lst (qs.map rv)) k (rsum qs) (qs.map rv) [some (.v (.lst (qs.map rv))), some (.v (.int 0)), some (.v (.int 1)), none, none] :=
    ⟨qs, 0, 1, none, none, rfl, hq, rfl, ⟨by decide, by decide⟩, by grind, by omega⟩
  obtain ⟨σ', e, ds, q, j, o, o2, hd, _, rfl, _, ht, _⟩ := loop_inv (f := stepF (ctxF P n []) (.var 3) sumBody) (OInv (.lst (qs.map rv)) k (rsum qs)) (fun x r σ hi => by
    obtain ⟨ds, q, j, o, o2, hd, hs, rfl, hj, ht, hb⟩ := hi
    cases ds with
    | nil => cases hd
    | cons d ds =>
      simp only [List.map_cons, List.cons.injEq] at hd
      obtain ⟨rfl, rfl⟩ := hd
      have hd1 := hs d (List.mem_cons_self ..)
      simp only [List.length_cons] at hb
      have hb' : j + (k + 1) * ds.length + (k + 1) + k < 7900 := by rw [Nat.mul_succ] at hb; omega
      obtain ⟨m1, m2, m3, m4, m5⟩ := muls hj hd1 (by omega)
      have f1 := fun x => bin_fdiv (i := x) (gcdI_ne (a := q.num * d.den + d.num * q.den) (den_mul_ne q d)) (gcdI_log (den_mul_ne q d) (den_log hj hd1 (by omega)))
      have hpos : (0 : Int) < q.den * d.den := Int.mul_pos (den_pos q) (den_pos d)
      obtain ⟨z1, z2⟩ := fdiv_sum (a := q.num * d.den + d.num * q.den) hpos
      rw [add_divInt] at z1 z2
      refine ⟨[some (.v (.lst (qs.map rv))), some (.v (.int (q + d).num)), some (.v (.int (q + d).den)), some (.v (rv d)), some (.v (.int (gcdI (q.num * d.den + d.num * q.den) (q.den * d.den))))], .inl ?_, ds, q + d, j + k + 1, _, _, rfl, fun x hx => hs x (List.mem_cons_of_mem _ hx), rfl, sz_add hj hd1, by simp only [rsum] at ht; grind, by omega⟩
      show sumBody.runs (ctxF P n []) [some (.v (.lst (qs.map rv))), some (.v (.int q.num)), some (.v (.int q.den)), some (.v (rv d)), o2] = _
      refine run_asg (s := .v (pr (q.num * d.den + d.num * q.den) (q.den * d.den))) (σ2 := [some (.v (.lst (qs.map rv))), some (.v (.int (q.num * d.den + d.num * q.den))), some (.v (.int (q.den * d.den))), some (.v (rv d)), o2]) (by trivial) rfl rfl ?_
      refine run_asg (s := .v (.int (gcdI (q.num * d.den + d.num * q.den) (q.den * d.den)))) (σ2 := [some (.v (.lst (qs.map rv))), some (.v (.int (q.num * d.den + d.num * q.den))), some (.v (.int (q.den * d.den))), some (.v (rv d)), some (.v (.int (gcdI (q.num * d.den + d.num * q.den) (q.den * d.den))))]) (by trivial) rfl rfl ?_
      exact run_asg (s := .v (pr (q + d).num (q + d).den)) (by rw [← z1, ← z2]; clear z1 z2; trivial) rfl rfl run_nil) _ _ inv
  cases ds with
  | cons _ _ => cases hd
  | nil =>
    clear hd inv
    simp only [rsum] at ht
    have ht : q = rsum qs := by grind
    subst ht
    refine call_ok (env := [some (.v (.lst (qs.map rv))), none, none, none, none]) (σ := [some (.v (.lst (qs.map rv))), some (.v (.int (rsum qs).num)), some (.v (.int (rsum qs).den)), o, o2]) h rfl rfl rfl rfl ?_
    refine run_asg (s := .v (.int 0)) (σ2 := [some (.v (.lst (qs.map rv))), some (.v (.int 0)), none, none, none]) (by trivial) rfl rfl ?_
    refine run_asg (s := .v (.int 1)) (σ2 := [some (.v (.lst (qs.map rv))), some (.v (.int 0)), some (.v (.int 1)), none, none]) (by trivial) rfl rfl ?_
    refine run_for (xs := qs.map rv) rfl (src_it (s := .v (.lst (qs.map rv))) (by trivial) rfl) e ?_
    exact run_ret nofun (by trivial)
end PL
/-! M7: the law's numbers. -/
namespace PL
open PySem (Str)
def d__law_numbers : Def := ⟨2, 8, [], (.cons (.asg (.var 2) (.lst .nil)) (.cons (.asg (.var 3) (.int 7)) (.cons (.fr (.var 4) (.it (.var 0)) (.cons (.asg (.var 3) (.bin .mod (.bi "int" (.cons (.bin .add (.bin .mul (.var 3) (.int 31)) (.var 4)) .nil)) (.int 2147483647))) .nil)) (.cons (.asg (.var 5) (.int 0)) (.cons (.iff (.and (.cmp .gt (.bi "len" (.cons (.var 0) .nil)) (.int 0)) (.cmp .ge (.ix (.var 0) (.int 0)) (.int 1000000000000000000))) (.cons (.asg (.var 5) (.ix (.var 0) (.int 0))) .nil) .nil) (.cons (.fr (.var 6) (.r1 (.var 1)) (.cons (.iff (.cmp .gt (.var 5) (.int 0)) (.cons (.app (.var 2) (.bin .mod (.var 5) (.int 10007))) (.cons (.asg (.var 5) (.bin .fdiv (.var 5) (.int 10007))) .nil)) (.cons (.asg (.var 7) (.int 0)) (.cons (.iff (.cmp .gt (.bi "len" (.cons (.var 0) .nil)) (.int 0)) (.cons (.asg (.var 7) (.bi "int" (.cons (.ix (.var 0) (.bin .mod (.var 6) (.bi "len" (.cons (.var 0) .nil)))) .nil))) .nil) .nil) (.cons (.asg (.var 3) (.bin .mod (.bi "int" (.cons (.bin .add (.bin .add (.bin .mul (.var 3) (.int 48271)) (.var 7)) (.var 6)) .nil)) (.int 2147483647))) (.cons (.app (.var 2) (.bin .mod (.bin .fdiv (.bin .mod (.bi "int" (.cons (.bin .add (.bin .mul (.var 3) (.int 69621)) (.bin .mul (.var 6) (.int 16807))) .nil)) (.int 2147483629)) (.int 7)) (.int 10007))) .nil))))) .nil)) (.cons (.ret (.var 2)) .nil)))))))⟩
local macro_rules | `(tactic| trivial) => `(tactic| (simp only [E.sem, mk3, mkV, mkT, rdP, Es.vals, Es.valp, As.args, hasL, hasL.isPl, Bool.false_or, Bool.or_false, ctx_call, out_ok, rv, pr, fz_v, fz_ml, fz_md, bi_gcd, bi_abs, bi_int, bi_len, bi_lent, neg_i, tr_b, tup_1, tup_2, tup_3, fix_v, ix_t0, ix_t1, bin_add, bin_sub, cmp_lt, cmp_le, cmp_gt, cmp_ge, cmp_eq, cmp_ne, Int.zero_sub, List.length_map,
  Option.bind_some, Option.map_some, Option.join_some, List.getElem?_cons_zero, List.getElem?_cons_succ, List.map_cons, List.map_nil, List.cons_append, List.nil_append, List.replicate, decide_true, decide_false, Bool.not_true, Bool.not_false, if_true, if_false, Bool.false_eq_true, not_true_eq_false, not_false_eq_true, *]; done))
abbrev lns (ns : List Int) : Val := .lst (ns.map Val.int)
def M1 : Int := 2147483647
theorem ix_ints {ns : List Int} {k : Int} (h0 : 0 ≤ k) (h1 : k < ns.length) : ∃ x, ns[k.toNat]? = some x ∧ ixV (lns ns) (.int k) = some (.int x) := by
  have hk : k.toNat < ns.length := by omega
  refine ⟨ns[k.toNat], List.getElem?_eq_getElem hk, ?_⟩
  simp only [lns, ixV, ixOf, List.length_map]
  rw [if_pos h0, if_pos h1]
  simp [List.getElem?_map, List.getElem?_eq_getElem hk]
theorem small_mul {a b : Int} (h : a.natAbs < 2 ^ 64) (h' : b.natAbs < 2 ^ 64) : binV .mul (.int a) (.int b) = some (.v (.int (a * b))) := bin_mul (mulOk_of h h' (by decide))
theorem fmod_lt {a b : Int} (h : 0 < b) : 0 ≤ a.fmod b ∧ a.fmod b < b := by
  rw [Int.fmod_eq_emod_of_nonneg _ (by omega)]
  exact ⟨Int.emod_nonneg _ (by omega), Int.emod_lt_of_pos _ h⟩
def nb1 : Ss := (.cons (.asg (.var 3) (.bin .mod (.bi "int" (.cons (.bin .add (.bin .mul (.var 3) (.int 31)) (.var 4)) .nil)) (.int 2147483647))) .nil)
def NI1 (L N : Val) (r : List Val) (σ : Env) : Prop := ∃ (ds : List Int) (s : Int) (o : Option Slot), r = ds.map Val.int ∧ 0 ≤ s ∧ s < M1 ∧ σ = [some (.v L), some (.v N), some (.ml []), some (.v (.int s)), o, none, none, none]
def nb2 : Ss := (.cons (.iff (.cmp .gt (.var 5) (.int 0)) (.cons (.app (.var 2) (.bin .mod (.var 5) (.int 10007))) (.cons (.asg (.var 5) (.bin .fdiv (.var 5) (.int 10007))) .nil)) (.cons (.asg (.var 7) (.int 0)) (.cons (.iff (.cmp .gt (.bi "len" (.cons (.var 0) .nil)) (.int 0)) (.cons (.asg (.var 7) (.bi "int" (.cons (.ix (.var 0) (.bin .mod (.var 6) (.bi "len" (.cons (.var 0) .nil)))) .nil))) .nil) .nil) (.cons (.asg (.var 3) (.bin .mod (.bi "int" (.cons (.bin .add (.bin .add (.bin .mul (.var 3) (.int 48271)) (.var 7)) (.var 6)) .nil)) (.int 2147483647))) (.cons (.app (.var 2) (.bin .mod (.bin .fdiv (.bin .mod (.bi "int" (.cons (.bin .add (.bin .mul (.var 3) (.int 69621)) (.bin .mul (.var 6) (.int 16807))) .nil)) (.int 2147483629)) (.int 7)) (.int 10007))) .nil))))) .nil)
def Row07 (l : List Int) : Prop := ∀ x ∈ l, 0 ≤ x ∧ x < 10007
theorem Row07.app {l : List Int} {x : Int} (h : Row07 l) (hx : 0 ≤ x ∧ x < 10007) : Row07 (l ++ [x]) := fun y hy => by
  rcases List.mem_append.mp hy with z | z
  · exact h y z
  · rw [List.mem_singleton.mp z]; exact hx
/-- behind the first turn's choice -/
theorem nb_rest {P : Prog} {n : Nat} {ns : List Int} {N : Val} {l : List Int} {s i rest : Int} {o o7 : Option Slot} (hl : Row07 l) (hlen : l.length < 16000000) (hs : 0 ≤ s ∧ s < M1) (hi : 0 ≤ i ∧ i < 4000000) :
    ∃ (l' : List Int) (s' : Int) (o7' : Option Slot), Row07 l' ∧ l'.length = l.length + 1 ∧ (0 ≤ s' ∧ s' < M1) ∧
      (Ss.cons (.asg (.var 7) (.int 0)) (.cons (.iff (.cmp .gt (.bi "len" (.cons (.var 0) .nil)) (.int 0)) (.cons (.asg (.var 7) (.bi "int" (.cons (.ix (.var 0) (.bin .mod (.var 6) (.bi "len" (.cons (.var 0) .nil)))) .nil))) .nil) .nil) (.cons (.asg (.var 3) (.bin .mod (.bi "int" (.cons (.bin .add (.bin .add (.bin .mul (.var 3) (.int 48271)) (.var 7)) (.var 6)) .nil)) (.int 2147483647))) (.cons (.app (.var 2) (.bin .mod (.bin .fdiv (.bin .mod (.bi "int" (.cons (.bin .add (.bin .mul (.var 3) (.int 69621)) (.bin .mul (.var 6) (.int 16807))) .nil)) (.int 2147483629)) (.int 7)) (.int 10007))) .nil)))).runs (ctxF P n []) [some (.v (lns ns)), some (.v N), some (.ml (l.map Val.int)), some (.v (.int s)), o, some (.v (.int rest)), some (.v (.int i)), o7] =
        .next [some (.v (lns ns)), some (.v N), some (.ml (l'.map Val.int)), some (.v (.int s')), o, some (.v (.int rest)), some (.v (.int i)), o7'] := by
  have key : ∀ x7 : Int, ∃ (l' : List Int) (s' : Int), Row07 l' ∧ l'.length = l.length + 1 ∧ (0 ≤ s' ∧ s' < M1) ∧
      (Ss.cons (.asg (.var 3) (.bin .mod (.bi "int" (.cons (.bin .add (.bin .add (.bin .mul (.var 3) (.int 48271)) (.var 7)) (.var 6)) .nil)) (.int 2147483647))) (.cons (.app (.var 2) (.bin .mod (.bin .fdiv (.bin .mod (.bi "int" (.cons (.bin .add (.bin .mul (.var 3) (.int 69621)) (.bin .mul (.var 6) (.int 16807))) .nil)) (.int 2147483629)) (.int 7)) (.int 10007))) .nil)).runs (ctxF P n []) [some (.v (lns ns)), some (.v N), some (.ml (l.map Val.int)), some (.v (.int s)), o, some (.v (.int rest)), some (.v (.int i)), some (.v (.int x7))] =
        .next [some (.v (lns ns)), some (.v N), some (.ml (l'.map Val.int)), some (.v (.int s')), o, some (.v (.int rest)), some (.v (.int i)), some (.v (.int x7))] := fun x7 => by
    unfold M1 at hs ⊢
    have m1 : binV .mul (.int s) (.int 48271) = _ := small_mul (by omega) (by decide)
    have md1 := bin_mod (i := s * 48271 + x7 + i) (j := 2147483647) (by decide)
    have s1 := fmod_lt (a := s * 48271 + x7 + i) (b := 2147483647) (by decide)
    generalize hs1 : (s * 48271 + x7 + i).fmod 2147483647 = s' at md1 s1
    have m2 : binV .mul (.int s') (.int 69621) = _ := small_mul (by omega) (by decide)
    have m3 : binV .mul (.int i) (.int 16807) = _ := small_mul (by omega) (by decide)
    have md2 := bin_mod (i := s' * 69621 + i * 16807) (j := 2147483629) (by decide)
    have d2 := bin_fdiv (i := (s' * 69621 + i * 16807).fmod 2147483629) (j := 7) (by decide) (by decide)
    have md3 := bin_mod (i := ((s' * 69621 + i * 16807).fmod 2147483629).fdiv 7) (j := 10007) (by decide)
    have s3 := fmod_lt (a := ((s' * 69621 + i * 16807).fmod 2147483629).fdiv 7) (b := 10007) (by decide)
    refine ⟨l ++ [(((s' * 69621 + i * 16807).fmod 2147483629).fdiv 7).fmod 10007], s', hl.app s3, by simp, s1, ?_⟩
    refine run_asg (s := .v (.int s')) (σ2 := [some (.v (lns ns)), some (.v N), some (.ml (l.map Val.int)), some (.v (.int s')), o, some (.v (.int rest)), some (.v (.int i)), some (.v (.int x7))]) (by clear hs1; trivial) rfl rfl ?_
    rw [List.map_append, List.map_cons, List.map_nil]
    exact run_app (vs := l.map Val.int) rfl (s := .v (.int ((((s' * 69621 + i * 16807).fmod 2147483629).fdiv 7).fmod 10007))) (by clear hs1; trivial) (by rw [List.length_map]; show l.length < 16777216; omega) run_nil
  cases ns with
  | nil =>
    obtain ⟨l', s', h1, h2, h3, h4⟩ := key 0
    refine ⟨l', s', some (.v (.int 0)), h1, h2, h3, ?_⟩
    refine run_asg (s := .v (.int 0)) (σ2 := [some (.v (lns [])), some (.v N), some (.ml (l.map Val.int)), some (.v (.int s)), o, some (.v (.int rest)), some (.v (.int i)), some (.v (.int 0))]) rfl rfl rfl ?_
    exact run_skip rfl h4
  | cons x r =>
    have hp : (0 : Int) < ((x :: r).length : Nat) := by simp <;> omega
    have md := bin_mod (i := i) (j := ((x :: r).length : Nat)) (by omega)
    have b := fmod_lt (a := i) hp
    obtain ⟨y, _, ey⟩ := ix_ints (ns := x :: r) (k := i.fmod ((x :: r).length)) b.1 b.2
    obtain ⟨l', s', h1, h2, h3, h4⟩ := key y
    refine ⟨l', s', some (.v (.int y)), h1, h2, h3, ?_⟩
    generalize hL : (x :: r) = ns at *
    refine run_asg (s := .v (.int 0)) (σ2 := [some (.v (lns ns)), some (.v N), some (.ml (l.map Val.int)), some (.v (.int s)), o, some (.v (.int rest)), some (.v (.int i)), some (.v (.int 0))]) rfl rfl rfl ?_
    refine run_ifT (σ2 := [some (.v (lns ns)), some (.v N), some (.ml (l.map Val.int)), some (.v (.int s)), o, some (.v (.int rest)), some (.v (.int i)), some (.v (.int y))]) (by clear ey h4 key hL; trivial) ?_ h4
    refine run_asg (s := .v (.int y)) (by clear h4 key hL; trivial) rfl rfl run_nil
/-- a turn -/
theorem nb_turn {P : Prog} {n : Nat} {ns : List Int} {N : Val} {l : List Int} {s i rest : Int} {o o6 o7 : Option Slot} (hl : Row07 l) (hlen : l.length < 15000000) (hs : 0 ≤ s ∧ s < M1) (hi : 0 ≤ i ∧ i < 4000000) :
    ∃ (l' : List Int) (s' rest' : Int) (o7' : Option Slot), Row07 l' ∧ l.length + 1 ≤ l'.length ∧ l'.length ≤ l.length + 2 ∧ (0 ≤ s' ∧ s' < M1) ∧
      stepF (ctxF P n []) (.var 6) nb2 (.int i) [some (.v (lns ns)), some (.v N), some (.ml (l.map Val.int)), some (.v (.int s)), o, some (.v (.int rest)), o6, o7] =
        .next [some (.v (lns ns)), some (.v N), some (.ml (l'.map Val.int)), some (.v (.int s')), o, some (.v (.int rest')), some (.v (.int i)), o7'] := by
  by_cases hr : 0 < rest
  · have md := bin_mod (i := rest) (j := 10007) (by decide)
    have dv := bin_fdiv (i := rest) (j := 10007) (by decide) (by decide)
    have b := fmod_lt (a := rest) (b := 10007) (by decide)
    refine ⟨l ++ [rest.fmod 10007], s, rest.fdiv 10007, o7, hl.app b, by simp, by simp, hs, ?_⟩
    show nb2.runs (ctxF P n []) [some (.v (lns ns)), some (.v N), some (.ml (l.map Val.int)), some (.v (.int s)), o, some (.v (.int rest)), some (.v (.int i)), o7] = _
    refine run_ifT (σ2 := [some (.v (lns ns)), some (.v N), some (.ml ((l ++ [rest.fmod 10007]).map Val.int)), some (.v (.int s)), o, some (.v (.int (rest.fdiv 10007))), some (.v (.int i)), o7]) (by trivial) ?_ run_nil
    rw [List.map_append, List.map_cons, List.map_nil]
    exact run_app (vs := l.map Val.int) rfl (s := .v (.int (rest.fmod 10007))) (by trivial) (by rw [List.length_map]; show l.length < 16777216; omega) (run_asg (s := .v (.int (rest.fdiv 10007))) (by trivial) rfl rfl run_nil)
  · obtain ⟨l', s', o7', h1, h2, h3, h4⟩ := nb_rest (P := P) (n := n) (ns := ns) (N := N) (rest := rest) (o := o) (o7 := o7) hl (by omega) hs hi
    refine ⟨l', s', rest, o7', h1, by omega, by omega, h3, ?_⟩
    show nb2.runs (ctxF P n []) [some (.v (lns ns)), some (.v N), some (.ml (l.map Val.int)), some (.v (.int s)), o, some (.v (.int rest)), some (.v (.int i)), o7] = _
    exact run_ifF (by clear h4; trivial) h4 run_nil
def NI2 (ns : List Int) (N : Val) (B : Nat) (r : List Val) (σ : Env) : Prop := ∃ (js : List Int) (l : List Int) (s rest : Int) (o o6 o7 : Option Slot), r = js.map Val.int ∧ (∀ j ∈ js, 0 ≤ j ∧ j < 4000000) ∧ Row07 l ∧ (0 ≤ s ∧ s < M1) ∧ B ≤ l.length + js.length ∧ l.length + 2 * js.length < 14000000 ∧
  σ = [some (.v (lns ns)), some (.v N), some (.ml (l.map Val.int)), some (.v (.int s)), o, some (.v (.int rest)), o6, o7]
theorem numbers_ok {P : Prog} (h : P.fn "_law_numbers" = some d__law_numbers) (n : Nat) (ns : List Int) {N : Int} (hN : 0 ≤ N ∧ N < 1000000) :
    ∃ l : List Int, callF P (n + 1) "_law_numbers" [.v (lns ns), .v (.int N)] = .ok (.ml (l.map Val.int)) [] ∧ Row07 l ∧ N ≤ l.length := by
  obtain ⟨σ1, e1, ds, s, o, hd, hs1, hs2, rfl⟩ := loop_inv (f := stepF (ctxF P n []) (.var 4) nb1) (NI1 (lns ns) (.int N)) (fun x r σ hi => by
    obtain ⟨ds, s, o, hd, h1, h2, rfl⟩ := hi
    cases ds with
    | nil => cases hd
    | cons d ds =>
      simp only [List.map_cons, List.cons.injEq] at hd
      obtain ⟨rfl, rfl⟩ := hd
      unfold M1 at h2
      have m1 : binV .mul (.int s) (.int 31) = _ := small_mul (by omega) (by decide)
      have md1 := bin_mod (i := s * 31 + d) (j := 2147483647) (by decide)
      have s1 := fmod_lt (a := s * 31 + d) (b := 2147483647) (by decide)
      refine ⟨[some (.v (lns ns)), some (.v (.int N)), some (.ml []), some (.v (.int ((s * 31 + d).fmod 2147483647))), some (.v (.int d)), none, none, none], .inl ?_, ds, (s * 31 + d).fmod 2147483647, some (.v (.int d)), rfl, s1.1, s1.2, rfl⟩
      show nb1.runs (ctxF P n []) [some (.v (lns ns)), some (.v (.int N)), some (.ml []), some (.v (.int s)), some (.v (.int d)), none, none, none] = _
      exact run_asg (s := .v (.int ((s * 31 + d).fmod 2147483647))) (by trivial) rfl rfl run_nil) (ns.map Val.int) [some (.v (lns ns)), some (.v (.int N)), some (.ml []), some (.v (.int 7)), none, none, none, none] ⟨ns, 7, none, rfl, by decide, by decide, rfl⟩
  have two : ∀ rest : Int, ∃ (l : List Int) (σ' : Env), loopF (stepF (ctxF P n []) (.var 6) nb2) (rangeL 0 N) [some (.v (lns ns)), some (.v (.int N)), some (.ml []), some (.v (.int s)), o, some (.v (.int rest)), none, none] = .next σ' ∧ (σ'[2]?).join = some (.ml (l.map Val.int)) ∧ Row07 l ∧ N ≤ l.length := fun rest => by
    have hr : rangeL 0 N = ((List.range N.toNat).map fun k => ((k : Nat) : Int)).map Val.int := by
      unfold rangeL
      rw [Int.sub_zero, List.map_map]
      congr 1
      funext k
      simp
    rw [hr]
    obtain ⟨σ2, e2, js, l, s', rest', o', o6, o7, hj, _, h1, _, h3, _, rfl⟩ := loop_inv (f := stepF (ctxF P n []) (.var 6) nb2) (NI2 ns (.int N) N.toNat) (fun x r σ hi => by
      obtain ⟨js, l, s, rest, o, o6, o7, hd, hj, hl, hs, hb, hz, rfl⟩ := hi
      cases js with
      | nil => cases hd
      | cons j js =>
        simp only [List.map_cons, List.cons.injEq] at hd
        obtain ⟨rfl, rfl⟩ := hd
        simp only [List.length_cons] at hb hz
        obtain ⟨l', s', rest', o7', h1, h2, h3, h4, h5⟩ := nb_turn (P := P) (n := n) (ns := ns) (N := .int N) (rest := rest) (o := o) (o6 := o6) (o7 := o7) hl (by omega) hs (hj j (List.mem_cons_self ..))
        exact ⟨_, .inl h5, js, l', s', rest', o, _, o7', rfl, fun x hx => hj x (List.mem_cons_of_mem _ hx), h1, h4, by omega, by omega, rfl⟩) _ [some (.v (lns ns)), some (.v (.int N)), some (.ml []), some (.v (.int s)), o, some (.v (.int rest)), none, none]
      ⟨(List.range N.toNat).map fun k => ((k : Nat) : Int), [], s, rest, o, none, none, rfl, fun j hj => by
        obtain ⟨k, hk, rfl⟩ := List.mem_map.mp hj
        have := List.mem_range.mp hk
        omega, fun _ z => by simp at z, ⟨hs1, hs2⟩, by simp, by simp; omega, rfl⟩
    cases js with
    | cons _ _ => cases hj
    | nil => exact ⟨l, _, e2, rfl, h1, by simp at h3; omega⟩
  have fin : ∀ rest : Int, ∃ l : List Int, Row07 l ∧ N ≤ l.length ∧ ∃ σ', (Ss.cons (.fr (.var 6) (.r1 (.var 1)) nb2) (.cons (.ret (.var 2)) .nil)).runs (ctxF P n []) [some (.v (lns ns)), some (.v (.int N)), some (.ml []), some (.v (.int s)), o, some (.v (.int rest)), none, none] = .ret (.ml (l.map Val.int)) σ' := fun rest => by
    obtain ⟨l, σ', e2, e3, h1, h2⟩ := two rest
    exact ⟨l, h1, h2, _, run_for (xs := rangeL 0 N) rfl (src_r1 (i := N) rfl (by unfold inR; simp; omega)) e2 (run_retv rfl e3)⟩
  have start : ∀ (l : List Int) (σ' : Env), (Ss.cons (.asg (.var 5) (.int 0)) (.cons (.iff (.and (.cmp .gt (.bi "len" (.cons (.var 0) .nil)) (.int 0)) (.cmp .ge (.ix (.var 0) (.int 0)) (.int 1000000000000000000))) (.cons (.asg (.var 5) (.ix (.var 0) (.int 0))) .nil) .nil) (.cons (.fr (.var 6) (.r1 (.var 1)) nb2) (.cons (.ret (.var 2)) .nil)))).runs (ctxF P n []) [some (.v (lns ns)), some (.v (.int N)), some (.ml []), some (.v (.int s)), o, none, none, none] = .ret (.ml (l.map Val.int)) σ' →
      callF P (n + 1) "_law_numbers" [.v (lns ns), .v (.int N)] = .ok (.ml (l.map Val.int)) [] := fun l σ' e => by
    refine call_ok (env := [some (.v (lns ns)), some (.v (.int N)), none, none, none, none, none, none]) h rfl rfl rfl rfl ?_ (σ := σ')
    refine run_asg (s := .ml []) (σ2 := [some (.v (lns ns)), some (.v (.int N)), some (.ml []), none, none, none, none, none]) rfl rfl rfl ?_
    refine run_asg (s := .v (.int 7)) (σ2 := [some (.v (lns ns)), some (.v (.int N)), some (.ml []), some (.v (.int 7)), none, none, none, none]) rfl rfl rfl ?_
    exact run_for (xs := ns.map Val.int) rfl (src_it (s := .v (lns ns)) rfl rfl) e1 e
  cases ns with
  | nil =>
    obtain ⟨l, h1, h2, σ', e⟩ := fin 0
    exact ⟨l, start l σ' (run_asg (s := .v (.int 0)) (σ2 := [some (.v (lns [])), some (.v (.int N)), some (.ml []), some (.v (.int s)), o, some (.v (.int 0)), none, none]) rfl rfl rfl (run_skip rfl e)), h1, h2⟩
  | cons x r =>
    have hp : (0 : Int) < ((x :: r).length : Nat) := by simp <;> omega
    have ix0 : ixV (lns (x :: r)) (.int 0) = some (.int x) := by
      obtain ⟨y, ey, e⟩ := ix_ints (ns := x :: r) (k := 0) (by decide) (by simp <;> omega)
      simp at ey
      subst ey
      exact e
    generalize hL : (x :: r) = ns at *
    by_cases hb : 1000000000000000000 ≤ x
    · obtain ⟨l, h1, h2, σ', e⟩ := fin x
      refine ⟨l, start l σ' (run_asg (s := .v (.int 0)) (σ2 := [some (.v (lns ns)), some (.v (.int N)), some (.ml []), some (.v (.int s)), o, some (.v (.int 0)), none, none]) rfl rfl rfl (run_ifT (σ2 := [some (.v (lns ns)), some (.v (.int N)), some (.ml []), some (.v (.int s)), o, some (.v (.int x)), none, none]) ?_ ?_ e)), h1, h2⟩
      · clear e e1 fin two start hL h hd
        trivial
      · exact run_asg (s := .v (.int x)) (by clear e e1 fin two start hL h hd; trivial) rfl rfl run_nil
    · obtain ⟨l, h1, h2, σ', e⟩ := fin 0
      refine ⟨l, start l σ' (run_asg (s := .v (.int 0)) (σ2 := [some (.v (lns ns)), some (.v (.int N)), some (.ml []), some (.v (.int s)), o, some (.v (.int 0)), none, none]) rfl rfl rfl (run_skip ?_ e)), h1, h2⟩
      clear e e1 fin two start hL h hd
      trivial
end PL
/-! M8: tests of ratios. -/
namespace PL
open PySem (Str)
theorem isi_t {t : String} {v : Val} (h : isiKn v = true) : isiVo t v = some (.v (.bl (isiV v t))) := by unfold isiVo; rw [if_pos h]
theorem isi_int {i : Int} : isiVo "int" (.int i) = some (.v (.bl true)) := rfl
theorem isi_intb {i : Int} : isiVo "bool" (.int i) = some (.v (.bl false)) := rfl
theorem isi_tup {vs : List Val} : isiVo "tuple" (.tup vs) = some (.v (.bl true)) := rfl
theorem isi_bb {b : Bool} : isiVo "bool" (.bl b) = some (.v (.bl true)) := rfl
theorem ty_int {i : Int} : tyIsV true "int" (.int i) = some (.v (.bl false)) := rfl
theorem no_b {b : Bool} : noV (.bl b) = some (.v (.bl (!b))) := rfl
theorem and_t {t : Option Slot} : andS (.v (.bl true)) t = t := rfl
theorem and_f {t : Option Slot} : andS (.v (.bl false)) t = some (.v (.bl false)) := rfl
theorem cmp_eqb {a b : Bool} : cmpV .eq (.bl a) (.bl b) = some (a == b) := rfl
theorem isb_b {n b k : Bool} : isBV n b (.bl k) = some (.v (.bl ((k == b) != n))) := rfl
theorem cmp_ner {p q : Rat} : cmpV .ne (rv p) (rv q) = some (!decide (p = q)) := by
  have : (rv p).eqv (rv q) = decide (p = q) := by
    simp only [rv, pr, Val.eqv, eqvs, Bool.and_true]
    by_cases h : p = q
    · subst h; simp
    · rw [decide_eq_false h]
      simp only [Bool.and_eq_false_iff, beq_eq_false_iff_ne]
      by_cases h1 : p.num = q.num
      · right
        intro z
        exact h (Rat.ext h1 (by omega))
      · exact .inl h1
  simp only [cmpV, valEq]
  rw [show scalP (rv p) (rv q) = false from rfl]
  simp only [Bool.false_eq_true, if_false]
  rw [show (rv p).isD DEP = true from rfl, show (rv q).isD DEP = true from rfl]
  simp only [Bool.and_self, if_true, this, Option.map_some]
local macro_rules | `(tactic| trivial) => `(tactic| (simp only [E.sem, mk3, mkV, mkT, rdP, Es.vals, Es.valp, As.args, hasL, hasL.isPl, Bool.false_or, Bool.or_false, ctx_call, out_ok, rv, pr, fz_v, fz_ml, fz_md, bi_gcd, bi_abs, bi_int, bi_len, bi_lent, neg_i, tr_b, tup_1, tup_2, tup_3, fix_v, ix_t0, ix_t1, bin_add, bin_sub, cmp_lt, cmp_le, cmp_gt, cmp_ge, cmp_eq, cmp_ne, Int.zero_sub, List.length_map,
  isi_int, isi_intb, isi_tup, isi_bb, ty_int, no_b, and_t, and_f, cmp_eqb, isb_b, List.length_cons, List.length_nil,
  Option.bind_some, Option.map_some, Option.join_some, List.getElem?_cons_zero, List.getElem?_cons_succ, List.map_cons, List.map_nil, List.cons_append, List.nil_append, List.replicate, decide_true, decide_false, Bool.not_true, Bool.not_false, if_true, if_false, Bool.false_eq_true, not_true_eq_false, not_false_eq_true, *]; done))
theorem is_int_ok {P : Prog} (h : P.fn "_law_is_int" = some d__law_is_int) (n : Nat) {i : Int} : callF P (n + 1) "_law_is_int" [.v (.int i)] = .ok (.v (.bl true)) [] :=
  call_ok (env := [some (.v (.int i))]) (σ := [some (.v (.int i))]) h rfl rfl rfl rfl (run_ret nofun (by trivial))
theorem same_ok {P : Prog} (h : P.fn "_law_same" = some d__law_same) (n : Nat) {a b : Bool} : callF P (n + 1) "_law_same" [.v (.bl a), .v (.bl b)] = .ok (.v (.bl (a == b))) [] :=
  call_ok (env := [some (.v (.bl a)), some (.v (.bl b))]) (σ := [some (.v (.bl a)), some (.v (.bl b))]) h rfl rfl rfl rfl (run_ret nofun (by trivial))
theorem red_gcd (q : Rat) : gcdI q.num q.den = 1 := by
  unfold gcdI
  rw [Int.natAbs_natCast]
  have := q.reduced
  unfold Nat.Coprime at this
  omega
theorem lis_ratio_ok {P : Prog} (h : P.fn "_law_is_ratio" = some d__law_is_ratio) (hi : P.fn "_law_is_int" = some d__law_is_int) (hg : P.fn "_law_gcd" = some d__law_gcd) (n : Nat) {q : Rat} {k : Nat} (hq : Sz k q) (hk : k + k ≤ 2990) :
    callF P (n + 2) "_law_is_ratio" [.v (rv q)] = .ok (.v (.bl true)) [] := by
  have i1 := is_int_ok hi n (i := q.num)
  have i2 := is_int_ok hi n (i := q.den)
  have g := lgcd_ok hg n (a := q.num) (b := q.den) hq.1 (by rw [Int.natAbs_natCast]; exact hq.2) hk
  rw [red_gcd] at g
  have dp := den_pos q
  have l2 : ((([Val.int q.num, Val.int q.den] : List Val).length : Nat) : Int) = 2 := rfl
  refine call_ok (env := [some (.v (rv q))]) (σ := [some (.v (rv q))]) h rfl rfl rfl rfl ?_
  refine run_skip ?_ (run_ret nofun (by trivial))
  have c2 : cmpV .ne (.int ((([Val.int q.num, Val.int q.den] : List Val).length : Nat) : Int)) (.int 2) = some false := rfl
  simp only [E.sem, mk3, mkV, mkT, rdP, Es.vals, Es.valp, As.args, hasL, hasL.isPl, ctx_call, rv, pr, fz_v, isi_tup, tr_b, no_b, Option.bind_some, Option.map_some, Option.join_some, List.getElem?_cons_zero, bi_lent, c2, ix_t0, ix_t1, i1, i2, out_ok, Bool.not_true, Bool.false_eq_true, if_false, Bool.false_or]
theorem is_ratio_ok {P : Prog} (h : P.fn "is_ratio" = some d_is_ratio) (n : Nat) {q : Rat} : callF P (n + 1) "is_ratio" [.v (rv q)] = .ok (.v (.bl true)) [] := by
  have g := red_gcd q
  have dp : (((q.den : Nat) : Int) < 1) = False := by have := den_pos q; simp; omega
  have c2 : cmpV .ne (.int ((([Val.int q.num, Val.int q.den] : List Val).length : Nat) : Int)) (.int 2) = some false := rfl
  refine call_ok (env := [some (.v (rv q)), none, none]) (σ := [some (.v (rv q)), some (.v (.int q.num)), some (.v (.int q.den))]) h rfl rfl rfl rfl ?_
  refine run_skip (by simp only [E.sem, mk3, mkV, mkT, rdP, Es.valp, rv, pr, fz_v, isi_tup, tr_b, no_b, Option.bind_some, Option.map_some, Option.join_some, List.getElem?_cons_zero, bi_lent, c2, Bool.not_true, Bool.false_eq_true, if_false]) ?_
  refine run_asg (s := .v (rv q)) (σ2 := [some (.v (rv q)), some (.v (.int q.num)), some (.v (.int q.den))]) (by trivial) rfl rfl ?_
  refine run_skip (by trivial) (run_ret nofun (by trivial))
/-! ### a call that raises -/
theorem ev_callX {X : Ctx} {σ : Env} {f c : String} {as : As} {ss : List Slot} (h : as.args X σ = some ss) (hc : X.call f ss = .exc c []) : (E.call f as).ev X σ = .exc c σ := by
  obtain ⟨ps, e1, a1, a2, a3, a4⟩ := args_pres h
  simp only [E.ev, e1, R.bind, a1, hc, afterC, a3]
theorem run_retX {X : Ctx} {σ σ' : Env} {c : String} {e : E} {ss : Ss} (hv : ∀ i, e ≠ .var i) (h : e.ev X σ = .exc c σ') : (Ss.cons (.ret e) ss).runs X σ = .exc c σ' := by
  cases e <;> first | exact absurd rfl (hv _) | (simp only [Ss.runs, S.run, h]; rfl)
theorem over_bad {P : Prog} (h : P.fn "over" = some d_over) (hr : P.fn "ratio" = some d_ratio) (n : Nat) {p : Rat} {k : Nat} (hp : Sz k p) (hk : k < 8000) : callF P (n + 2) "over" [.v (rv p), .v (rv 0)] = .exc "BadRatio" [] := by
  have m1 : binV .mul (.int p.num) (.int 1) = some (.v (.int (p.num * 1))) := bin_mul (mulOk_of hp.1 (l := 1) (by decide) (by omega))
  have m2 : binV .mul (.int p.den) (.int 0) = some (.v (.int (p.den * 0))) := bin_mul (mulOk_of (by rw [Int.natAbs_natCast]; exact hp.2) (l := 1) (by decide) (by omega))
  rw [Int.mul_zero] at m2
  refine call_exc (env := [some (.v (rv p)), some (.v (rv 0))]) (σ := [some (.v (rv p)), some (.v (rv 0))]) h rfl rfl rfl rfl (run_retX nofun (ev_callX (ss := [.v (.int (p.num * 1)), .v (.int 0)]) ?_ (ratio_bad hr n)))
  rw [rv0]
  trivial
end PL
/-! M9: law k00, its parts. -/
namespace PL
open PySem (Str)
local macro_rules | `(tactic| trivial) => `(tactic| (simp only [E.sem, mk3, mkV, mkT, rdP, Es.vals, Es.valp, As.args, hasL, hasL.isPl, Bool.false_or, Bool.or_false, ctx_call, out_ok, rv, pr, fz_v, fz_ml, fz_md, bi_gcd, bi_abs, bi_int, bi_len, bi_lent, neg_i, tr_b, tup_1, tup_2, tup_3, fix_v, ix_t0, ix_t1, bin_add, bin_sub, cmp_lt, cmp_le, cmp_gt, cmp_ge, cmp_eq, cmp_ne, Int.zero_sub, List.length_map,
  isi_int, isi_intb, isi_tup, isi_bb, ty_int, no_b, and_t, and_f, cmp_eqb, isb_b, List.length_cons, List.length_nil,
  Option.bind_some, Option.map_some, Option.join_some, List.getElem?_cons_zero, List.getElem?_cons_succ, List.map_cons, List.map_nil, List.cons_append, List.nil_append, List.replicate, decide_true, decide_false, Bool.not_true, Bool.not_false, if_true, if_false, Bool.false_eq_true, not_true_eq_false, not_false_eq_true, *]; done))
theorem cross {p : Rat} {a b : Int} (hb : b ≠ 0) (h : Rat.divInt a b = p) : p.num * b = a * p.den := by
  have h1 := den_ne p
  have e1 := rat_self p
  have hb' : (b : Rat) ≠ 0 := fun z => hb (Rat.intCast_inj.mp z)
  rw [Rat.divInt_eq_div] at h
  have : (p.num : Rat) * b = a * ((p.den : Int) : Rat) := by
    have h2 : (p.num : Rat) = p * ((p.den : Int) : Rat) := by grind
    rw [h2, ← h]
    grind
  rw [← Rat.intCast_mul, ← Rat.intCast_mul] at this
  exact Rat.intCast_inj.mp this
theorem lis_sum_ok {P : Prog} (h : P.fn "_law_is_sum" = some d__law_is_sum) (hq' : P.fn "_law_is_ratio" = some d__law_is_ratio) (hi : P.fn "_law_is_int" = some d__law_is_int) (hg : P.fn "_law_gcd" = some d__law_gcd) (n : Nat) {p q : Rat} {k l : Nat} (hp : Sz k p) (hq : Sz l q) (hk : k + l < 1400) :
    callF P (n + 3) "_law_is_sum" [.v (rv p), .v (rv q), .v (rv (p + q))] = .ok (.v (.bl true)) [] := by
  have hs := sz_add hp hq
  have i1 := lis_ratio_ok hq' hi hg n hs (by omega)
  have c := cross (den_mul_ne p q) (add_divInt p q)
  obtain ⟨m1, m2, m3, m4, m5⟩ := muls hp hq (by omega)
  obtain ⟨s1, s2, s3⟩ := sum_sz hp hq
  have a1 : ((p.den : Int)).natAbs < 2 ^ k := by rw [Int.natAbs_natCast]; exact hp.2
  have a2 : ((q.den : Int)).natAbs < 2 ^ l := by rw [Int.natAbs_natCast]; exact hq.2
  have a3 : (((p + q).den : Int)).natAbs < 2 ^ (k + l + 1) := by rw [Int.natAbs_natCast]; exact hs.2
  have m6 := bin_mul (mulOk_of hs.1 a1 (by omega))
  have m7 := bin_mul (mulOk_of (abs_mul_lt hs.1 a1) a2 (by omega))
  have m8 := bin_mul (mulOk_of s1 a3 (by omega))
  rw [← Int.mul_assoc] at c
  have c' : ((p + q).num * p.den * q.den = (p.num * q.den + q.num * p.den) * (p + q).den) = True := eq_true c
  refine call_ok (env := [some (.v (rv p)), some (.v (rv q)), some (.v (rv (p + q)))]) (σ := [some (.v (rv p)), some (.v (rv q)), some (.v (rv (p + q)))]) h rfl rfl rfl rfl (run_ret nofun ?_)
  clear c s1 s2 s3 a1 a2 a3
  simp only [rv, pr] at i1
  trivial
theorem refuses_ok {P : Prog} (h : P.fn "_law_refuses" = some d__law_refuses) (ho : P.fn "over" = some d_over) (hr : P.fn "ratio" = some d_ratio) (hsub : P.sub "BadRatio" "BadRatio" = some true) (n : Nat) {p : Rat} {k : Nat} {w : Int} (hp : Sz k p) (hk : k < 8000) :
    callF P (n + 3) "_law_refuses" [.v (.int w), .v (rv p)] = .ok (.v (.bl true)) [] := by
  refine call_ok (env := [some (.v (.int w)), some (.v (rv p))]) (σ := [some (.v (.int w)), some (.v (rv p))]) h rfl rfl rfl rfl ?_
  refine run_tryX (σ' := [some (.v (.int w)), some (.v (rv p))]) (d := "BadRatio") ?_ hsub rfl
  by_cases hw : w = 0
  · have hw' := eq_true hw
    refine run_ifR (by trivial) (run_exX (ev_callX (ss := [.v (.int p.num), .v (.int 0)]) (by trivial) (ratio_bad hr (n + 1)))) nofun
  · have hw' := eq_false hw
    refine run_ifRe (by trivial) (run_exX (ev_callX (ss := [.v (rv p), .v (rv 0)]) ?_ (over_bad ho hr n hp hk))) nofun
    rw [rv0]
    trivial
def wrongs : List Val := [pr 6 4, pr 1 0, pr 1 (-2), .lst [.int 1, .int 2], .tup [.int 1], .tup [.int 1, .int 2, .int 3], .tup [.bl true, .int 2], .tup [.str "1", .int 2], .non, .tup [.int 2, .bl true]]
theorem wrong_ok {P : Prog} (h : P.fn "is_ratio" = some d_is_ratio) (n : Nat) {w : Val} (hw : w ∈ wrongs) : callF P (n + 1) "is_ratio" [.v w] = .ok (.v (.bl false)) [] := by
  have one : ∀ w, ((E.or (.no (.isi (.var 0) "tuple")) (.cmp .ne (.bi "len" (.cons (.var 0) .nil)) (.int 2))).sem (ctxF P n []) [some (.v w), none, none]).t = some true → callF P (n + 1) "is_ratio" [.v w] = .ok (.v (.bl false)) [] := fun w e =>
    call_ok (env := [some (.v w), none, none]) (σ := [some (.v w), none, none]) h rfl rfl rfl rfl (run_ifR e (run_ret nofun rfl) nofun)
  have two : ∀ a b, ((E.or (.tyIs true "int" (.var 1)) (.or (.tyIs true "int" (.var 2)) (.cmp .lt (.var 2) (.int 1)))).sem (ctxF P n []) [some (.v (.tup [a, b])), some (.v a), some (.v b)]).t = some true → callF P (n + 1) "is_ratio" [.v (.tup [a, b])] = .ok (.v (.bl false)) [] := fun a b e =>
    call_ok (env := [some (.v (.tup [a, b])), none, none]) (σ := [some (.v (.tup [a, b])), some (.v a), some (.v b)]) h rfl rfl rfl rfl (run_skip rfl (run_asg (s := .v (.tup [a, b])) (σ2 := [some (.v (.tup [a, b])), some (.v a), some (.v b)]) rfl rfl rfl (run_ifR e (run_ret nofun rfl) nofun)))
  simp only [wrongs, List.mem_cons, List.mem_nil_iff, or_false] at hw
  rcases hw with rfl | rfl | rfl | rfl | rfl | rfl | rfl | rfl | rfl | rfl
  · exact call_ok (env := [some (.v (pr 6 4)), none, none]) (σ := [some (.v (pr 6 4)), some (.v (.int 6)), some (.v (.int 4))]) h rfl rfl rfl rfl (run_skip rfl (run_asg (s := .v (pr 6 4)) (σ2 := [some (.v (pr 6 4)), some (.v (.int 6)), some (.v (.int 4))]) rfl rfl rfl (run_skip rfl (run_ret nofun rfl))))
  · exact two _ _ rfl
  · exact two _ _ rfl
  · exact one _ rfl
  · exact one _ rfl
  · exact one _ rfl
  · exact two _ _ rfl
  · exact two _ _ rfl
  · exact one _ rfl
  · exact two _ _ rfl
end PL
/-! M10: law k00. -/
namespace PL
open PySem (Str)
def d_law00 : Def := ⟨1, 13, [], (.cons (.asg (.var 1) (.call "_law_numbers" (.cons .own (.var 0) (.cons .own (.int 20) .nil)))) (.cons (.asg (.var 2) (.ix (.lst (.cons (.int 1) (.cons (.int 1000000000000000000007) .nil))) (.bin .mod (.ix (.var 1) (.int 0)) (.int 2)))) (.cons (.asg (.var 3) (.bin .add (.bin .mul (.bin .sub (.bin .add (.bin .mul (.ix (.var 1) (.int 1)) (.int 10007)) (.ix (.var 1) (.int 2))) (.int 50000000)) (.var 2)) (.bin .mod (.ix (.var 1) (.int 0)) (.int 2)))) (.cons (.asg (.var 4) (.bin .add (.bin .mul (.bin .mul (.int 2) (.bin .sub (.ix (.var 1) (.int 3)) (.int 5000))) (.var 2)) (.int 1))) (.cons (.asg (.var 5) (.bin .sub (.ix (.var 1) (.int 4)) (.int 5000))) (.cons (.asg (.var 6) (.bin .mul (.bin .add (.bin .add (.bin .mul (.ix (.var 1) (.int 5)) (.int 10007)) (.ix (.var 1) (.int 6))) (.int 1)) (.bin .sub (.int 1) (.bin .mul (.int 2) (.bin .mod (.ix (.var 1) (.int 7)) (.int 2)))))) (.cons (.asg (.var 7) (.call "_law_ratio" (.cons .own (.var 3) (.cons .own (.var 4) .nil)))) (.cons (.asg (.var 8) (.call "_law_ratio" (.cons .own (.var 5) (.cons .own (.var 6) .nil)))) (.cons (.iff (.or (.cmp .ne (.call "ratio" (.cons .own (.var 3) (.cons .own (.var 4) .nil))) (.var 7)) (.or (.cmp .ne (.call "ratio" (.cons .own (.var 5) (.cons .own (.var 6) .nil))) (.var 8)) (.cmp .ne (.call "ratio" (.cons .own (.int 0) (.cons .own (.var 6) .nil))) (.tup (.cons (.int 0) (.cons (.int 1) .nil)))))) (.cons (.ret (.bl false)) .nil) .nil) (.cons (.iff (.or (.no (.call "_law_is_sum" (.cons .own (.var 7) (.cons .own (.var 8) (.cons .own (.call "plus" (.cons .own (.var 7) (.cons .own (.var 8) .nil))) .nil))))) (.or (.cmp .ne (.call "minus" (.cons .own (.var 7) (.cons .own (.var 8) .nil))) (.call "_law_sub" (.cons .own (.var 7) (.cons .own (.var 8) .nil)))) (.cmp .ne (.call "plus" (.cons .own (.call "minus" (.cons .own (.var 7) (.cons .own (.var 8) .nil))) (.cons .own (.var 8) .nil))) (.var 7)))) (.cons (.ret (.bl false)) .nil) .nil) (.cons (.asg (.var 9) (.call "by" (.cons .own (.var 7) (.cons .own (.var 8) .nil)))) (.cons (.iff (.or (.no (.call "_law_is_ratio" (.cons .own (.var 9) .nil))) (.cmp .ne (.bin .mul (.bin .mul (.ix (.var 9) (.int 0)) (.ix (.var 7) (.int 1))) (.ix (.var 8) (.int 1))) (.bin .mul (.bin .mul (.ix (.var 7) (.int 0)) (.ix (.var 8) (.int 0))) (.ix (.var 9) (.int 1))))) (.cons (.ret (.bl false)) .nil) .nil) (.cons (.iff (.and (.cmp .ne (.ix (.var 8) (.int 0)) (.int 0)) (.or (.cmp .ne (.call "by" (.cons .own (.call "over" (.cons .own (.var 7) (.cons .own (.var 8) .nil))) (.cons .own (.var 8) .nil))) (.var 7)) (.no (.call "_law_is_ratio" (.cons .own (.call "over" (.cons .own (.var 7) (.cons .own (.var 8) .nil))) .nil))))) (.cons (.ret (.bl false)) .nil) .nil) (.cons (.iff (.or (.no (.call "_law_same" (.cons .own (.call "below" (.cons .own (.var 7) (.cons .own (.var 8) .nil))) (.cons .own (.cmp .lt (.bin .mul (.ix (.var 7) (.int 0)) (.ix (.var 8) (.int 1))) (.bin .mul (.ix (.var 8) (.int 0)) (.ix (.var 7) (.int 1)))) .nil)))) (.isB true false (.call "below" (.cons .own (.var 7) (.cons .own (.var 7) .nil))))) (.cons (.ret (.bl false)) .nil) .nil) (.cons (.asg (.var 10) (.lst .nil)) (.cons (.fr (.var 11) (.r1 (.bin .mod (.ix (.var 1) (.int 8)) (.int 9))) (.cons (.app (.var 10) (.call "_law_ratio" (.cons .own (.bin .sub (.ix (.var 1) (.bin .add (.int 9) (.var 11))) (.int 5000)) (.cons .own (.bin .add (.int 1) (.bin .mod (.ix (.var 1) (.bin .add (.int 10) (.var 11))) (.int 30))) .nil)))) .nil)) (.cons (.iff (.cmp .ne (.call "sum_of" (.cons .own (.bi "list" (.cons (.var 10) .nil)) .nil)) (.call "_law_sum" (.cons .lend (.var 10) .nil))) (.cons (.ret (.bl false)) .nil) .nil) (.cons (.asg (.var 12) (.ix (.lst (.cons (.tup (.cons (.int 6) (.cons (.int 4) .nil))) (.cons (.tup (.cons (.int 1) (.cons (.int 0) .nil))) (.cons (.tup (.cons (.int 1) (.cons (.bin .sub (.int 0) (.int 2)) .nil))) (.cons (.lst (.cons (.int 1) (.cons (.int 2) .nil))) (.cons (.tup (.cons (.int 1) .nil)) (.cons (.tup (.cons (.int 1) (.cons (.int 2) (.cons (.int 3) .nil)))) (.cons (.tup (.cons (.bl true) (.cons (.int 2) .nil))) (.cons (.tup (.cons (.str "1") (.cons (.int 2) .nil))) (.cons .non (.cons (.tup (.cons (.int 2) (.cons (.bl true) .nil))) .nil))))))))))) (.bin .mod (.ix (.var 1) (.int 9)) (.int 10)))) (.cons (.ret (.and (.isB false true (.call "is_ratio" (.cons .own (.var 7) .nil))) (.and (.isB false false (.call "is_ratio" (.cons .own (.var 12) .nil))) (.call "_law_refuses" (.cons .own (.bin .mod (.ix (.var 1) (.int 10)) (.int 2)) (.cons .own (.var 7) .nil)))))) .nil)))))))))))))))))))⟩
def wlist : E := (.lst (.cons (.tup (.cons (.int 6) (.cons (.int 4) .nil))) (.cons (.tup (.cons (.int 1) (.cons (.int 0) .nil))) (.cons (.tup (.cons (.int 1) (.cons (.bin .sub (.int 0) (.int 2)) .nil))) (.cons (.lst (.cons (.int 1) (.cons (.int 2) .nil))) (.cons (.tup (.cons (.int 1) .nil)) (.cons (.tup (.cons (.int 1) (.cons (.int 2) (.cons (.int 3) .nil)))) (.cons (.tup (.cons (.bl true) (.cons (.int 2) .nil))) (.cons (.tup (.cons (.str "1") (.cons (.int 2) .nil))) (.cons .non (.cons (.tup (.cons (.int 2) (.cons (.bl true) .nil))) .nil)))))))))))
def lb00 : Ss := (.cons (.app (.var 10) (.call "_law_ratio" (.cons .own (.bin .sub (.ix (.var 1) (.bin .add (.int 9) (.var 11))) (.int 5000)) (.cons .own (.bin .add (.int 1) (.bin .mod (.ix (.var 1) (.bin .add (.int 10) (.var 11))) (.int 30))) .nil)))) .nil)
theorem ix_rv0 {q : Rat} : ixV (rv q) (.int 0) = some (.int q.num) := rfl
theorem ix_rv1 {q : Rat} : ixV (rv q) (.int 1) = some (.int q.den) := rfl
theorem ne_rv {q : Rat} : cmpV .ne (rv q) (rv q) = some false := by rw [cmp_ner]; simp
theorem ne_rv0 : cmpV .ne (rv 0) (.tup [.int 0, .int 1]) = some false := ne_rv (q := 0)
theorem ne_int {i : Int} : cmpV .ne (.int i) (.int i) = some false := by rw [cmp_ne]; simp
theorem lst_2 {a b : Val} : lstS [a, b] = some (.ml [a, b]) := rfl
theorem bi_list {vs : List Val} : biV "list" [.lst vs] = some (.ml vs) := rfl
theorem isb_tt : isBV false true (.bl true) = some (.v (.bl true)) := rfl
theorem isb_ff : isBV false false (.bl false) = some (.v (.bl true)) := rfl
theorem isb_tf : isBV true false (.bl false) = some (.v (.bl false)) := rfl
theorem out_lend {q : Rat} : outS true (.ok (.v (rv q)) []) = some (.v (rv q)) := rfl
local macro_rules | `(tactic| trivial) => `(tactic| (simp only [E.sem, mk3, mkV, mkT, rdP, Es.vals, Es.valp, As.args, hasL, hasL.isPl, Bool.false_or, Bool.or_false, Bool.true_or, ctx_call, out_ok, out_lend, fz_v, fz_ml, fz_md, bi_gcd, bi_abs, bi_int, bi_len, bi_lent, bi_list, neg_i, tr_b, tup_1, tup_2, tup_3, fix_v, ix_rv0, ix_rv1, ne_rv, ne_rv0, lst_2, bin_add, bin_sub, cmp_lt, cmp_le, cmp_gt, cmp_ge, cmp_eq, cmp_ne, Int.zero_sub, List.length_map,
  isi_int, isi_intb, isi_tup, isi_bb, ty_int, no_b, and_t, and_f, cmp_eqb, isb_tt, isb_ff, isb_tf, List.length_cons, List.length_nil,
  Option.bind_some, Option.map_some, Option.join_some, List.getElem?_cons_zero, List.getElem?_cons_succ, List.map_cons, List.map_nil, List.cons_append, List.nil_append, List.replicate, decide_true, decide_false, Bool.not_true, Bool.not_false, if_true, if_false, Bool.false_eq_true, not_true_eq_false, not_false_eq_true, beq_self_eq_true, *]; done))
structure F00 (P : Prog) : Prop where
  ratio : P.fn "ratio" = some d_ratio
  is_ratio : P.fn "is_ratio" = some d_is_ratio
  plus : P.fn "plus" = some d_plus
  minus : P.fn "minus" = some d_minus
  by_ : P.fn "by" = some d_by
  over : P.fn "over" = some d_over
  below : P.fn "below" = some d_below
  sum_of : P.fn "sum_of" = some d_sum_of
  numbers : P.fn "_law_numbers" = some d__law_numbers
  is_int : P.fn "_law_is_int" = some d__law_is_int
  same : P.fn "_law_same" = some d__law_same
  gcd : P.fn "_law_gcd" = some d__law_gcd
  lratio : P.fn "_law_ratio" = some d__law_ratio
  ladd : P.fn "_law_add" = some d__law_add
  lsub : P.fn "_law_sub" = some d__law_sub
  lsum : P.fn "_law_sum" = some d__law_sum
  lis_ratio : P.fn "_law_is_ratio" = some d__law_is_ratio
  is_sum : P.fn "_law_is_sum" = some d__law_is_sum
  refuses : P.fn "_law_refuses" = some d__law_refuses
  law : P.fn "law" = some d_law00
  sub : P.sub "BadRatio" "BadRatio" = some true
theorem get20 {l : List Int} (h : Row07 l) (hl : 20 ≤ l.length) (k : Int) (h0 : 0 ≤ k) (h1 : k < 20) : ∃ x, (0 ≤ x ∧ x < 10007) ∧ ixV (.lst (l.map Val.int)) (.int k) = some (.int x) := by
  obtain ⟨x, e1, e2⟩ := ix_ints (ns := l) (k := k) h0 (by omega)
  exact ⟨x, h x (List.mem_of_getElem? e1), e2⟩
theorem big_ok {r : Int} (h0 : 0 ≤ r) (h1 : r < 2) : ∃ b : Int, ixV (.lst [.int 1, .int 1000000000000000000007]) (.int r) = some (.int b) ∧ (b = 1 ∨ b = 1000000000000000000007) := by
  have : r = 0 ∨ r = 1 := by omega
  rcases this with rfl | rfl
  · exact ⟨1, rfl, .inl rfl⟩
  · exact ⟨_, rfl, .inr rfl⟩
theorem wrong_in {j : Int} (h0 : 0 ≤ j) (h1 : j < 10) : ∃ w, ixV (.lst wrongs) (.int j) = some w ∧ w ∈ wrongs := by
  have hl : wrongs.length = 10 := rfl
  have hj : j.toNat < wrongs.length := by omega
  refine ⟨wrongs[j.toNat], ?_, List.getElem_mem hj⟩
  simp only [ixV, ixOf]
  rw [if_pos h0, if_pos (by omega)]
  simp [List.getElem?_eq_getElem hj]
def LI (P : Prog) (l : List Int) (e : Env) (r : List Val) (σ : Env) : Prop := ∃ (js : List Int) (qs : List Rat) (o : Option Slot), r = js.map Val.int ∧ (∀ j ∈ js, 0 ≤ j ∧ j < 9) ∧ AllSz 14 qs ∧ qs.length + js.length ≤ 8 ∧ σ = e ++ [some (.ml (qs.map rv)), o, none]
theorem loop00 {P : Prog} (F : F00 P) (n : Nat) {l : List Int} (hl : Row07 l) (h20 : 20 ≤ l.length) {s0 s2 s3 s4 s5 s6 s7 s8 s9 : Option Slot} {m : Int} (hm : 0 ≤ m ∧ m < 9) :
    ∃ (qs : List Rat) (o : Option Slot), AllSz 14 qs ∧ qs.length ≤ 8 ∧ loopF (stepF (ctxF P (n + 2) []) (.var 11) lb00) (rangeL 0 m) [s0, some (.ml (l.map Val.int)), s2, s3, s4, s5, s6, s7, s8, s9, some (.ml []), none, none] = .next [s0, some (.ml (l.map Val.int)), s2, s3, s4, s5, s6, s7, s8, s9, some (.ml (qs.map rv)), o, none] := by
  have hr : rangeL 0 m = ((List.range m.toNat).map fun k => ((k : Nat) : Int)).map Val.int := by
    unfold rangeL
    rw [Int.sub_zero, List.map_map]
    congr 1
    funext k
    simp
  rw [hr]
  obtain ⟨σ2, e2, js, qs, o, hj, _, h1, h2, rfl⟩ := loop_inv (f := stepF (ctxF P (n + 2) []) (.var 11) lb00) (LI P l [s0, some (.ml (l.map Val.int)), s2, s3, s4, s5, s6, s7, s8, s9]) (fun x r σ hi => by
    obtain ⟨js, qs, o, hd, hj, hs, hb, rfl⟩ := hi
    cases js with
    | nil => cases hd
    | cons j js =>
      simp only [List.map_cons, List.cons.injEq] at hd
      obtain ⟨rfl, rfl⟩ := hd
      obtain ⟨j0, j9⟩ := hj j (List.mem_cons_self ..)
      obtain ⟨x, hx, ex⟩ := get20 hl h20 (9 + j) (by omega) (by omega)
      obtain ⟨y, hy, ey⟩ := get20 hl h20 (10 + j) (by omega) (by omega)
      have md := bin_mod (i := y) (j := 30) (by decide)
      have bd := fmod_lt (a := y) (b := 30) (by decide)
      have hden : (1 + y.fmod 30) ≠ 0 := by omega
      have c := lratio_ok F.lratio F.gcd n (a := x - 5000) (b := 1 + y.fmod 30) (k := 14) (l := 14) hden (by omega) (by omega) (by decide)
      rw [nrm_eq hden] at c
      have sz : Sz 14 (Rat.divInt (x - 5000) (1 + y.fmod 30)) := sz_divInt hden (by omega) (by omega)
      simp only [List.length_cons] at hb
      refine ⟨_, .inl ?_, js, qs ++ [Rat.divInt (x - 5000) (1 + y.fmod 30)], some (.v (.int j)), rfl, fun z hz => hj z (List.mem_cons_of_mem _ hz), fun q hq => ?_, by simp; omega, rfl⟩
      · show lb00.runs (ctxF P (n + 2) []) [s0, some (.ml (l.map Val.int)), s2, s3, s4, s5, s6, s7, s8, s9, some (.ml (qs.map rv)), some (.v (.int j)), none] = _
        rw [List.map_append, List.map_cons, List.map_nil]
        exact run_app (vs := qs.map rv) rfl (s := .v (rv (Rat.divInt (x - 5000) (1 + y.fmod 30)))) (by clear hj hs hb sz; trivial) (by rw [List.length_map]; show qs.length < 16777216; omega) run_nil
      · rcases List.mem_append.mp hq with z | z
        · exact hs q z
        · rw [List.mem_singleton.mp z]; exact sz) _ ([s0, some (.ml (l.map Val.int)), s2, s3, s4, s5, s6, s7, s8, s9] ++ [some (.ml ([].map rv)), none, none]) ⟨(List.range m.toNat).map fun k => ((k : Nat) : Int), [], none, rfl, fun j hj => by
      obtain ⟨k, hk, rfl⟩ := List.mem_map.mp hj
      have := List.mem_range.mp hk
      omega, fun _ z => by simp at z, by simp; omega, rfl⟩
  cases js with
  | cons _ _ => cases hj
  | nil => exact ⟨qs, o, h1, by simpa using h2, e2⟩
theorem k00_law {P : Prog} (F : F00 P) (n : Nat) (ns : List Int) : callF P (n + 6) "law" [.v (lns ns)] = .ok (.v (.bl true)) [] := by
  obtain ⟨l, cn, hl, h20⟩ := numbers_ok F.numbers (n + 4) ns (N := 20) (by decide)
  have h20 : 20 ≤ l.length := by omega
  obtain ⟨x0, b0, e0⟩ := get20 hl h20 0 (by decide) (by decide)
  obtain ⟨x1, b1, e1⟩ := get20 hl h20 1 (by decide) (by decide)
  obtain ⟨x2, b2, e2⟩ := get20 hl h20 2 (by decide) (by decide)
  obtain ⟨x3, b3, e3⟩ := get20 hl h20 3 (by decide) (by decide)
  obtain ⟨x4, b4, e4⟩ := get20 hl h20 4 (by decide) (by decide)
  obtain ⟨x5, b5, e5⟩ := get20 hl h20 5 (by decide) (by decide)
  obtain ⟨x6, b6, e6⟩ := get20 hl h20 6 (by decide) (by decide)
  obtain ⟨x7, b7, e7⟩ := get20 hl h20 7 (by decide) (by decide)
  obtain ⟨x8, b8, e8⟩ := get20 hl h20 8 (by decide) (by decide)
  obtain ⟨x9, b9, e9⟩ := get20 hl h20 9 (by decide) (by decide)
  obtain ⟨x10, b10, e10⟩ := get20 hl h20 10 (by decide) (by decide)
  have d0 := bin_mod (i := x0) (j := 2) (by decide)
  have r0 := fmod_lt (a := x0) (b := 2) (by decide)
  generalize x0.fmod 2 = m0 at d0 r0
  have d7 := bin_mod (i := x7) (j := 2) (by decide)
  have r7 := fmod_lt (a := x7) (b := 2) (by decide)
  generalize x7.fmod 2 = m7 at d7 r7
  have d8 := bin_mod (i := x8) (j := 9) (by decide)
  have r8 := fmod_lt (a := x8) (b := 9) (by decide)
  generalize x8.fmod 9 = m8 at d8 r8
  have d9 := bin_mod (i := x9) (j := 10) (by decide)
  have r9 := fmod_lt (a := x9) (b := 10) (by decide)
  generalize x9.fmod 10 = m9 at d9 r9
  have d10 := bin_mod (i := x10) (j := 2) (by decide)
  generalize x10.fmod 2 = m10 at d10
  obtain ⟨big, eb, hb⟩ := big_ok r0.1 r0.2
  have bb : big.natAbs < 2 ^ 70 := by rcases hb with rfl | rfl <;> decide
  have q1 : binV .mul (.int x1) (.int 10007) = _ := small_mul (by omega) (by decide)
  have q2 : binV .mul (.int (x1 * 10007 + x2 - 50000000)) (.int big) = _ := bin_mul (mulOk_of (k := 64) (by omega) bb (by decide))
  have q3 : binV .mul (.int 2) (.int (x3 - 5000)) = _ := small_mul (by decide) (by omega)
  have q4 : binV .mul (.int (2 * (x3 - 5000))) (.int big) = _ := bin_mul (mulOk_of (k := 64) (by omega) bb (by decide))
  have q5 : binV .mul (.int x5) (.int 10007) = _ := small_mul (by omega) (by decide)
  have q6 : binV .mul (.int 2) (.int m7) = _ := small_mul (by decide) (by omega)
  have q7 : binV .mul (.int (x5 * 10007 + x6 + 1)) (.int (1 - 2 * m7)) = _ := small_mul (by omega) (by omega)
  generalize ha : (x1 * 10007 + x2 - 50000000) * big + m0 = a
  generalize hbb : 2 * (x3 - 5000) * big + 1 = b
  generalize hc : x4 - 5000 = c
  generalize hd : (x5 * 10007 + x6 + 1) * (1 - 2 * m7) = d at q7
  have za : a.natAbs < 2 ^ 100 := by rcases hb with rfl | rfl <;> omega
  have zb : b.natAbs < 2 ^ 100 := by rcases hb with rfl | rfl <;> omega
  have nb : b ≠ 0 := by rcases hb with rfl | rfl <;> omega
  have zc : c.natAbs < 2 ^ 30 := by omega
  have hm7 : m7 = 0 ∨ m7 = 1 := by omega
  have zd : d.natAbs < 2 ^ 30 := by rcases hm7 with rfl | rfl <;> omega
  have nd : d ≠ 0 := by rcases hm7 with rfl | rfl <;> omega
  have s1 := sz_divInt nb za zb
  have s2 := sz_divInt nd zc zd
  have c1 := lratio_ok F.lratio F.gcd (n + 3) (a := a) (b := b) nb za zb (by decide)
  have c2 := lratio_ok F.lratio F.gcd (n + 3) (a := c) (b := d) nd zc zd (by decide)
  have c3 := ratio_ok F.ratio (n + 4) (a := a) (b := b) nb (by have := log2_of zb; omega)
  have c4 := ratio_ok F.ratio (n + 4) (a := c) (b := d) nd (by have := log2_of zd; omega)
  have c5 := ratio_ok F.ratio (n + 4) (a := 0) (b := d) nd (by have := log2_of zd; omega)
  rw [nrm_eq nb] at c1 c3
  rw [nrm_eq nd] at c2 c4 c5
  rw [show Rat.divInt 0 d = 0 from by rw [Rat.divInt_eq_div]; grind] at c5
  generalize Rat.divInt a b = one at s1 c1 c3
  generalize Rat.divInt c d = two at s2 c2 c4
  have f1 := plus_ok F.plus F.ratio (n + 3) s1 s2 (by decide)
  have f2 := lis_sum_ok F.is_sum F.lis_ratio F.is_int F.gcd (n + 2) s1 s2 (by decide)
  have f3 := minus_ok F.minus F.ratio (n + 3) s1 s2 (by decide)
  have f4 := lsub_ok F.lsub F.lratio F.gcd (n + 2) s1 s2 (by decide)
  have f5 := plus_ok F.plus F.ratio (n + 3) (sz_sub s1 s2) s2 (by decide)
  rw [show one - two + two = one from by grind] at f5
  have f6 := by_ok F.by_ F.ratio (n + 3) s1 s2 (by decide)
  have f7 := lis_ratio_ok F.lis_ratio F.is_int F.gcd (n + 3) (sz_mul s1 s2) (by decide)
  have f8 := below_ok F.below (n + 4) s1 s2 (by decide)
  have f9 := below_ok F.below (n + 4) s1 s1 (by decide)
  have f10 := fun x y => same_ok F.same (n + 4) (a := x) (b := y)
  have f11 := is_ratio_ok F.is_ratio (n + 4) (q := one)
  have f12 := refuses_ok F.refuses F.over F.ratio F.sub (n + 2) (w := m10) s1 (by decide)
  obtain ⟨w, ew, hw⟩ := wrong_in r9.1 r9.2
  have f13 := wrong_ok F.is_ratio (n + 4) hw
  obtain ⟨qs, o, z1, z2, lp⟩ := loop00 F (n + 3) hl h20 (s0 := some (.v (lns ns))) (s2 := some (.v (.int big))) (s3 := some (.v (.int a))) (s4 := some (.v (.int b))) (s5 := some (.v (.int c))) (s6 := some (.v (.int d))) (s7 := some (.v (rv one))) (s8 := some (.v (rv two))) (s9 := some (.v (rv (one * two)))) r8
  have f14 := sum_of_ok F.sum_of (n + 4) z1 (by omega)
  have f15 := lsum_ok F.lsum F.ladd F.lratio F.gcd (n + 1) z1 (by omega)
  have eqlt : decide (one < two) = decide (one.num * two.den < two.num * one.den) := decide_eq_decide.mpr (Rat.lt_iff one two)
  have irr : decide (one < one) = false := decide_eq_false (by grind)
  rw [irr] at f9
  obtain ⟨m1, m2, m3, m4, m5⟩ := muls s1 s2 (by decide)
  have s12 := sz_mul s1 s2
  have a1 : ((one.den : Int)).natAbs < 2 ^ 100 := by rw [Int.natAbs_natCast]; exact s1.2
  have a2 : ((two.den : Int)).natAbs < 2 ^ 30 := by rw [Int.natAbs_natCast]; exact s2.2
  have a3 : (((one * two).den : Int)).natAbs < 2 ^ (100 + 30) := by rw [Int.natAbs_natCast]; exact s12.2
  have m6 := bin_mul (mulOk_of s12.1 a1 (by decide))
  have m7' := bin_mul (mulOk_of (abs_mul_lt s12.1 a1) a2 (by decide))
  have m8' := bin_mul (mulOk_of (abs_mul_lt s1.1 s2.1) a3 (by decide))
  have cr := cross (den_mul_ne one two) (mul_divInt one two)
  rw [← Int.mul_assoc] at cr
  clear hl h20 b0 b1 b2 b3 b4 b5 b6 b7 b9 b10 hw bb r0 r7 r9 za zb zc zd a1 a2 a3 z1 z2
  have L0 : ∀ (X : Ctx) (σ : Env), (wlist.sem X σ).v = some (.lst wrongs) := fun X σ => rfl
  have fin : (Ss.cons (.asg (.var 12) (.ix wlist (.bin .mod (.ix (.var 1) (.int 9)) (.int 10)))) (.cons (.ret (.and (.isB false true (.call "is_ratio" (.cons .own (.var 7) .nil))) (.and (.isB false false (.call "is_ratio" (.cons .own (.var 12) .nil))) (.call "_law_refuses" (.cons .own (.bin .mod (.ix (.var 1) (.int 10)) (.int 2)) (.cons .own (.var 7) .nil)))))) .nil)).runs (ctxF P (n + 5) []) [some (.v (lns ns)), some (.ml (l.map Val.int)), some (.v (.int big)), some (.v (.int a)), some (.v (.int b)), some (.v (.int c)), some (.v (.int d)), some (.v (rv one)), some (.v (rv two)), some (.v (rv (one * two))), some (.ml (qs.map rv)), o, none] =
      .ret (.v (.bl true)) [some (.v (lns ns)), some (.ml (l.map Val.int)), some (.v (.int big)), some (.v (.int a)), some (.v (.int b)), some (.v (.int c)), some (.v (.int d)), some (.v (rv one)), some (.v (rv two)), some (.v (rv (one * two))), some (.ml (qs.map rv)), o, some (.v w)] := by
    clear cr m6 m7' m8' m1 m2 m3 m4 m5 eqlt f14 f15 lp ha hbb hc hd q1 q2 q3 q4 q5 q6 q7 hb hm7 cn
    have t1 : ((true == true) != false) = true := rfl
    have t2 : ((false == false) != false) = true := rfl
    refine run_asg (s := .v w) (σ2 := [some (.v (lns ns)), some (.ml (l.map Val.int)), some (.v (.int big)), some (.v (.int a)), some (.v (.int b)), some (.v (.int c)), some (.v (.int d)), some (.v (rv one)), some (.v (rv two)), some (.v (rv (one * two))), some (.ml (qs.map rv)), o, some (.v w)]) ?_ rfl rfl ?_
    · rw [E.sem, L0]
      trivial
    · exact run_ret nofun (by trivial)
  refine call_ok (env := [some (.v (lns ns)), none, none, none, none, none, none, none, none, none, none, none, none]) F.law rfl rfl rfl rfl ?_ (σ := [some (.v (lns ns)), some (.ml (l.map Val.int)), some (.v (.int big)), some (.v (.int a)), some (.v (.int b)), some (.v (.int c)), some (.v (.int d)), some (.v (rv one)), some (.v (rv two)), some (.v (rv (one * two))), some (.ml (qs.map rv)), o, some (.v w)])
  refine run_asg (s := .ml (l.map Val.int)) (σ2 := [some (.v (lns ns)), some (.ml (l.map Val.int)), none, none, none, none, none, none, none, none, none, none, none]) (by clear fin lp f14 f15 L0 cr; trivial) rfl rfl ?_
  clear cn
  refine run_asg (s := .v (.int big)) (σ2 := [some (.v (lns ns)), some (.ml (l.map Val.int)), some (.v (.int big)), none, none, none, none, none, none, none, none, none, none]) (by clear fin lp f14 f15 L0 cr; trivial) rfl rfl ?_
  refine run_asg (s := .v (.int a)) (σ2 := [some (.v (lns ns)), some (.ml (l.map Val.int)), some (.v (.int big)), some (.v (.int a)), none, none, none, none, none, none, none, none, none]) (by clear fin lp f14 f15 L0 cr; trivial) rfl rfl ?_
  refine run_asg (s := .v (.int b)) (σ2 := [some (.v (lns ns)), some (.ml (l.map Val.int)), some (.v (.int big)), some (.v (.int a)), some (.v (.int b)), none, none, none, none, none, none, none, none]) (by clear fin lp f14 f15 L0 cr; trivial) rfl rfl ?_
  refine run_asg (s := .v (.int c)) (σ2 := [some (.v (lns ns)), some (.ml (l.map Val.int)), some (.v (.int big)), some (.v (.int a)), some (.v (.int b)), some (.v (.int c)), none, none, none, none, none, none, none]) (by clear fin lp f14 f15 L0 cr; trivial) rfl rfl ?_
  refine run_asg (s := .v (.int d)) (σ2 := [some (.v (lns ns)), some (.ml (l.map Val.int)), some (.v (.int big)), some (.v (.int a)), some (.v (.int b)), some (.v (.int c)), some (.v (.int d)), none, none, none, none, none, none]) (by clear fin lp f14 f15 L0 cr; trivial) rfl rfl ?_
  clear ha hbb hc hd q1 q2 q3 q4 q5 q6 q7 eb
  refine run_asg (s := .v (rv one)) (σ2 := [some (.v (lns ns)), some (.ml (l.map Val.int)), some (.v (.int big)), some (.v (.int a)), some (.v (.int b)), some (.v (.int c)), some (.v (.int d)), some (.v (rv one)), none, none, none, none, none]) (by clear fin lp f14 f15 L0 cr; trivial) rfl rfl ?_
  refine run_asg (s := .v (rv two)) (σ2 := [some (.v (lns ns)), some (.ml (l.map Val.int)), some (.v (.int big)), some (.v (.int a)), some (.v (.int b)), some (.v (.int c)), some (.v (.int d)), some (.v (rv one)), some (.v (rv two)), none, none, none, none]) (by clear fin lp f14 f15 L0 cr; trivial) rfl rfl ?_
  refine run_skip (by clear fin lp f14 f15 L0 cr; trivial) ?_
  refine run_skip (by clear fin lp f14 f15 L0 cr; trivial) ?_
  refine run_asg (s := .v (rv (one * two))) (σ2 := [some (.v (lns ns)), some (.ml (l.map Val.int)), some (.v (.int big)), some (.v (.int a)), some (.v (.int b)), some (.v (.int c)), some (.v (.int d)), some (.v (rv one)), some (.v (rv two)), some (.v (rv (one * two))), none, none, none]) (by clear fin lp f14 f15 L0 cr; trivial) rfl rfl ?_
  refine run_skip ?_ ?_
  · have cr' : ((one * two).num * one.den * two.den = one.num * two.num * (one * two).den) = True := eq_true cr
    clear fin lp f14 f15 L0 cr
    trivial
  refine run_skip ?_ ?_
  · by_cases hz : two = 0
    · have hn : (two.num = 0) = True := eq_true (by rw [hz]; rfl)
      clear fin lp f14 f15 L0 cr hz
      trivial
    · have hn : (two.num = 0) = False := eq_false (num_ne0 hz)
      have g1 := over_ok F.over F.ratio (n + 3) s1 s2 (by decide) hz
      have sd := sz_div s1 s2 hz
      have g2 := by_ok F.by_ F.ratio (n + 3) sd s2 (by decide)
      rw [show one / two * two = one from by grind] at g2
      have g3 := lis_ratio_ok F.lis_ratio F.is_int F.gcd (n + 3) sd (by decide)
      clear fin lp f14 f15 L0 cr hz sd
      trivial
  refine run_skip ?_ ?_
  · have t3 : ((false == false) != true) = false := rfl
    clear fin lp f14 f15 L0 cr
    trivial
  refine run_asg (s := .ml []) (σ2 := [some (.v (lns ns)), some (.ml (l.map Val.int)), some (.v (.int big)), some (.v (.int a)), some (.v (.int b)), some (.v (.int c)), some (.v (.int d)), some (.v (rv one)), some (.v (rv two)), some (.v (rv (one * two))), some (.ml []), none, none]) rfl rfl rfl ?_
  refine run_for (xs := rangeL 0 m8) (σ2 := [some (.v (lns ns)), some (.ml (l.map Val.int)), some (.v (.int big)), some (.v (.int a)), some (.v (.int b)), some (.v (.int c)), some (.v (.int d)), some (.v (rv one)), some (.v (rv two)), some (.v (rv (one * two))), some (.ml (qs.map rv)), o, none]) rfl (src_r1 (i := m8) (by clear fin lp f14 f15 L0 cr; trivial) (by unfold inR; simp; omega)) lp ?_
  refine run_skip ?_ fin
  clear fin lp L0 cr
  trivial
end PL
namespace Lw
open PySem PySem.W PySem.Calls PyProof.Rows PL
abbrev lw : PySem.W.OpenLaw := PySem.Challenge.rw_verdictcheaply_k00_ratios_reckoned
abbrev rw : PySem.W.OpenRow := OpenLaw.row lw
abbrev vw : PySem.Program := view rw.prog [0, 25]
def names0 : List PySem.Str := ["VerdictError", "BadRatio", "ratio", "is_ratio", "plus", "minus", "by", "over", "below", "sum_of", "_law_numbers", "_law_is_int", "_law_same", "_law_gcd", "_law_ratio", "_law_add"]
def names1 : List PySem.Str := ["_law_sub", "_law_sum", "_law_is_ratio", "_law_is_sum", "_law_refuses"]
def names : List PySem.Str := names0 ++ names1
abbrev top (i : Nat) : PySem.Stmt := rw.prog.main.body.getD i (.Pass ⟨0, 0, 0, 0⟩)
def d_ratio : Def := ⟨2, 3, [], (.cons (.iff (.cmp .eq (.var 1) (.int 0)) (.cons (.raise "BadRatio") .nil) .nil) (.cons (.iff (.cmp .lt (.var 1) (.int 0)) (.cons (.asg (.tup (.cons (.var 0) (.cons (.var 1) .nil))) (.tup (.cons (.neg (.var 0)) (.cons (.neg (.var 1)) .nil)))) .nil) .nil) (.cons (.asg (.var 2) (.bi "gcd" (.cons (.var 0) (.cons (.var 1) .nil)))) (.cons (.ret (.tup (.cons (.bin .fdiv (.var 0) (.var 2)) (.cons (.bin .fdiv (.var 1) (.var 2)) .nil)))) .nil))))⟩
def d_is_ratio : Def := ⟨1, 3, [], (.cons (.iff (.or (.no (.isi (.var 0) "tuple")) (.cmp .ne (.bi "len" (.cons (.var 0) .nil)) (.int 2))) (.cons (.ret (.bl false)) .nil) .nil) (.cons (.asg (.tup (.cons (.var 1) (.cons (.var 2) .nil))) (.var 0)) (.cons (.iff (.or (.tyIs true "int" (.var 1)) (.or (.tyIs true "int" (.var 2)) (.cmp .lt (.var 2) (.int 1)))) (.cons (.ret (.bl false)) .nil) .nil) (.cons (.ret (.cmp .eq (.bi "gcd" (.cons (.var 1) (.cons (.var 2) .nil))) (.int 1))) .nil))))⟩
def d_plus : Def := ⟨2, 2, [], (.cons (.ret (.call "ratio" (.cons .own (.bin .add (.bin .mul (.ix (.var 0) (.int 0)) (.ix (.var 1) (.int 1))) (.bin .mul (.ix (.var 1) (.int 0)) (.ix (.var 0) (.int 1)))) (.cons .own (.bin .mul (.ix (.var 0) (.int 1)) (.ix (.var 1) (.int 1))) .nil)))) .nil)⟩
def d_minus : Def := ⟨2, 2, [], (.cons (.ret (.call "ratio" (.cons .own (.bin .sub (.bin .mul (.ix (.var 0) (.int 0)) (.ix (.var 1) (.int 1))) (.bin .mul (.ix (.var 1) (.int 0)) (.ix (.var 0) (.int 1)))) (.cons .own (.bin .mul (.ix (.var 0) (.int 1)) (.ix (.var 1) (.int 1))) .nil)))) .nil)⟩
def d_by : Def := ⟨2, 2, [], (.cons (.ret (.call "ratio" (.cons .own (.bin .mul (.ix (.var 0) (.int 0)) (.ix (.var 1) (.int 0))) (.cons .own (.bin .mul (.ix (.var 0) (.int 1)) (.ix (.var 1) (.int 1))) .nil)))) .nil)⟩
def d_over : Def := ⟨2, 2, [], (.cons (.ret (.call "ratio" (.cons .own (.bin .mul (.ix (.var 0) (.int 0)) (.ix (.var 1) (.int 1))) (.cons .own (.bin .mul (.ix (.var 0) (.int 1)) (.ix (.var 1) (.int 0))) .nil)))) .nil)⟩
def d_below : Def := ⟨2, 2, [], (.cons (.ret (.cmp .lt (.bin .mul (.ix (.var 0) (.int 0)) (.ix (.var 1) (.int 1))) (.bin .mul (.ix (.var 1) (.int 0)) (.ix (.var 0) (.int 1))))) .nil)⟩
def d_sum_of : Def := ⟨1, 5, [], (.cons (.asg (.var 1) (.int 0)) (.cons (.asg (.var 2) (.int 1)) (.cons (.fr (.var 3) (.it (.var 0)) (.cons (.asg (.tup (.cons (.var 1) (.cons (.var 2) .nil))) (.tup (.cons (.bin .add (.bin .mul (.var 1) (.ix (.var 3) (.int 1))) (.bin .mul (.ix (.var 3) (.int 0)) (.var 2))) (.cons (.bin .mul (.var 2) (.ix (.var 3) (.int 1))) .nil)))) (.cons (.asg (.var 4) (.bi "gcd" (.cons (.var 1) (.cons (.var 2) .nil)))) (.cons (.asg (.tup (.cons (.var 1) (.cons (.var 2) .nil))) (.tup (.cons (.bin .fdiv (.var 1) (.var 4)) (.cons (.bin .fdiv (.var 2) (.var 4)) .nil)))) .nil)))) (.cons (.ret (.tup (.cons (.var 1) (.cons (.var 2) .nil)))) .nil))))⟩
def d__law_numbers : Def := ⟨2, 8, [], (.cons (.asg (.var 2) (.lst .nil)) (.cons (.asg (.var 3) (.int 7)) (.cons (.fr (.var 4) (.it (.var 0)) (.cons (.asg (.var 3) (.bin .mod (.bi "int" (.cons (.bin .add (.bin .mul (.var 3) (.int 31)) (.var 4)) .nil)) (.int 2147483647))) .nil)) (.cons (.asg (.var 5) (.int 0)) (.cons (.iff (.and (.cmp .gt (.bi "len" (.cons (.var 0) .nil)) (.int 0)) (.cmp .ge (.ix (.var 0) (.int 0)) (.int 1000000000000000000))) (.cons (.asg (.var 5) (.ix (.var 0) (.int 0))) .nil) .nil) (.cons (.fr (.var 6) (.r1 (.var 1)) (.cons (.iff (.cmp .gt (.var 5) (.int 0)) (.cons (.app (.var 2) (.bin .mod (.var 5) (.int 10007))) (.cons (.asg (.var 5) (.bin .fdiv (.var 5) (.int 10007))) .nil)) (.cons (.asg (.var 7) (.int 0)) (.cons (.iff (.cmp .gt (.bi "len" (.cons (.var 0) .nil)) (.int 0)) (.cons (.asg (.var 7) (.bi "int" (.cons (.ix (.var 0) (.bin .mod (.var 6) (.bi "len" (.cons (.var 0) .nil)))) .nil))) .nil) .nil) (.cons (.asg (.var 3) (.bin .mod (.bi "int" (.cons (.bin .add (.bin .add (.bin .mul (.var 3) (.int 48271)) (.var 7)) (.var 6)) .nil)) (.int 2147483647))) (.cons (.app (.var 2) (.bin .mod (.bin .fdiv (.bin .mod (.bi "int" (.cons (.bin .add (.bin .mul (.var 3) (.int 69621)) (.bin .mul (.var 6) (.int 16807))) .nil)) (.int 2147483629)) (.int 7)) (.int 10007))) .nil))))) .nil)) (.cons (.ret (.var 2)) .nil)))))))⟩
def d__law_is_int : Def := ⟨1, 1, [], (.cons (.ret (.and (.isi (.var 0) "int") (.no (.isi (.var 0) "bool")))) .nil)⟩
def d__law_same : Def := ⟨2, 2, [], (.cons (.ret (.and (.isi (.var 0) "bool") (.cmp .eq (.var 0) (.var 1)))) .nil)⟩
def d__law_gcd : Def := ⟨2, 3, [], (.cons (.asg (.var 0) (.bi "abs" (.cons (.var 0) .nil))) (.cons (.asg (.var 1) (.bi "abs" (.cons (.var 1) .nil))) (.cons (.fr (.var 2) (.r1 (.int 3000)) (.cons (.iff (.cmp .eq (.var 1) (.int 0)) (.cons (.ret (.var 0)) .nil) .nil) (.cons (.asg (.tup (.cons (.var 0) (.cons (.var 1) .nil))) (.tup (.cons (.var 1) (.cons (.bin .mod (.var 0) (.var 1)) .nil)))) .nil))) (.cons (.ret (.var 0)) .nil))))⟩
def d__law_ratio : Def := ⟨2, 3, [], (.cons (.iff (.cmp .lt (.var 1) (.int 0)) (.cons (.asg (.tup (.cons (.var 0) (.cons (.var 1) .nil))) (.tup (.cons (.bin .sub (.int 0) (.var 0)) (.cons (.bin .sub (.int 0) (.var 1)) .nil)))) .nil) .nil) (.cons (.asg (.var 2) (.call "_law_gcd" (.cons .own (.var 0) (.cons .own (.var 1) .nil)))) (.cons (.ret (.tup (.cons (.bin .fdiv (.var 0) (.var 2)) (.cons (.bin .fdiv (.var 1) (.var 2)) .nil)))) .nil)))⟩
def d__law_add : Def := ⟨2, 2, [], (.cons (.ret (.call "_law_ratio" (.cons .own (.bin .add (.bin .mul (.ix (.var 0) (.int 0)) (.ix (.var 1) (.int 1))) (.bin .mul (.ix (.var 1) (.int 0)) (.ix (.var 0) (.int 1)))) (.cons .own (.bin .mul (.ix (.var 0) (.int 1)) (.ix (.var 1) (.int 1))) .nil)))) .nil)⟩
def d__law_sub : Def := ⟨2, 2, [], (.cons (.ret (.call "_law_ratio" (.cons .own (.bin .sub (.bin .mul (.ix (.var 0) (.int 0)) (.ix (.var 1) (.int 1))) (.bin .mul (.ix (.var 1) (.int 0)) (.ix (.var 0) (.int 1)))) (.cons .own (.bin .mul (.ix (.var 0) (.int 1)) (.ix (.var 1) (.int 1))) .nil)))) .nil)⟩
def d__law_sum : Def := ⟨1, 3, [], (.cons (.asg (.var 1) (.tup (.cons (.int 0) (.cons (.int 1) .nil)))) (.cons (.fr (.var 2) (.it (.var 0)) (.cons (.asg (.var 1) (.call "_law_add" (.cons .own (.var 1) (.cons .own (.var 2) .nil)))) .nil)) (.cons (.ret (.var 1)) .nil)))⟩
def d__law_is_ratio : Def := ⟨1, 1, [], (.cons (.iff (.or (.no (.isi (.var 0) "tuple")) (.or (.cmp .ne (.bi "len" (.cons (.var 0) .nil)) (.int 2)) (.or (.no (.call "_law_is_int" (.cons .own (.ix (.var 0) (.int 0)) .nil))) (.no (.call "_law_is_int" (.cons .own (.ix (.var 0) (.int 1)) .nil)))))) (.cons (.ret (.bl false)) .nil) .nil) (.cons (.ret (.and (.cmp .gt (.ix (.var 0) (.int 1)) (.int 0)) (.cmp .eq (.call "_law_gcd" (.cons .own (.ix (.var 0) (.int 0)) (.cons .own (.ix (.var 0) (.int 1)) .nil))) (.int 1)))) .nil))⟩
def d__law_is_sum : Def := ⟨3, 3, [], (.cons (.ret (.and (.call "_law_is_ratio" (.cons .own (.var 2) .nil)) (.cmp .eq (.bin .mul (.bin .mul (.ix (.var 2) (.int 0)) (.ix (.var 0) (.int 1))) (.ix (.var 1) (.int 1))) (.bin .mul (.bin .add (.bin .mul (.ix (.var 0) (.int 0)) (.ix (.var 1) (.int 1))) (.bin .mul (.ix (.var 1) (.int 0)) (.ix (.var 0) (.int 1)))) (.ix (.var 2) (.int 1)))))) .nil)⟩
def d__law_refuses : Def := ⟨2, 2, [], (.cons (.tryO (.cons (.iff (.cmp .eq (.var 0) (.int 0)) (.cons (.ex (.call "ratio" (.cons .own (.ix (.var 1) (.int 0)) (.cons .own (.int 0) .nil)))) .nil) (.cons (.ex (.call "over" (.cons .own (.var 1) (.cons .own (.tup (.cons (.int 0) (.cons (.int 1) .nil))) .nil)))) .nil)) .nil) "BadRatio" (.bl true)) (.cons (.ret (.bl false)) .nil))⟩
def d_law : Def := ⟨1, 13, [], (.cons (.asg (.var 1) (.call "_law_numbers" (.cons .own (.var 0) (.cons .own (.int 20) .nil)))) (.cons (.asg (.var 2) (.ix (.lst (.cons (.int 1) (.cons (.int 1000000000000000000007) .nil))) (.bin .mod (.ix (.var 1) (.int 0)) (.int 2)))) (.cons (.asg (.var 3) (.bin .add (.bin .mul (.bin .sub (.bin .add (.bin .mul (.ix (.var 1) (.int 1)) (.int 10007)) (.ix (.var 1) (.int 2))) (.int 50000000)) (.var 2)) (.bin .mod (.ix (.var 1) (.int 0)) (.int 2)))) (.cons (.asg (.var 4) (.bin .add (.bin .mul (.bin .mul (.int 2) (.bin .sub (.ix (.var 1) (.int 3)) (.int 5000))) (.var 2)) (.int 1))) (.cons (.asg (.var 5) (.bin .sub (.ix (.var 1) (.int 4)) (.int 5000))) (.cons (.asg (.var 6) (.bin .mul (.bin .add (.bin .add (.bin .mul (.ix (.var 1) (.int 5)) (.int 10007)) (.ix (.var 1) (.int 6))) (.int 1)) (.bin .sub (.int 1) (.bin .mul (.int 2) (.bin .mod (.ix (.var 1) (.int 7)) (.int 2)))))) (.cons (.asg (.var 7) (.call "_law_ratio" (.cons .own (.var 3) (.cons .own (.var 4) .nil)))) (.cons (.asg (.var 8) (.call "_law_ratio" (.cons .own (.var 5) (.cons .own (.var 6) .nil)))) (.cons (.iff (.or (.cmp .ne (.call "ratio" (.cons .own (.var 3) (.cons .own (.var 4) .nil))) (.var 7)) (.or (.cmp .ne (.call "ratio" (.cons .own (.var 5) (.cons .own (.var 6) .nil))) (.var 8)) (.cmp .ne (.call "ratio" (.cons .own (.int 0) (.cons .own (.var 6) .nil))) (.tup (.cons (.int 0) (.cons (.int 1) .nil)))))) (.cons (.ret (.bl false)) .nil) .nil) (.cons (.iff (.or (.no (.call "_law_is_sum" (.cons .own (.var 7) (.cons .own (.var 8) (.cons .own (.call "plus" (.cons .own (.var 7) (.cons .own (.var 8) .nil))) .nil))))) (.or (.cmp .ne (.call "minus" (.cons .own (.var 7) (.cons .own (.var 8) .nil))) (.call "_law_sub" (.cons .own (.var 7) (.cons .own (.var 8) .nil)))) (.cmp .ne (.call "plus" (.cons .own (.call "minus" (.cons .own (.var 7) (.cons .own (.var 8) .nil))) (.cons .own (.var 8) .nil))) (.var 7)))) (.cons (.ret (.bl false)) .nil) .nil) (.cons (.asg (.var 9) (.call "by" (.cons .own (.var 7) (.cons .own (.var 8) .nil)))) (.cons (.iff (.or (.no (.call "_law_is_ratio" (.cons .own (.var 9) .nil))) (.cmp .ne (.bin .mul (.bin .mul (.ix (.var 9) (.int 0)) (.ix (.var 7) (.int 1))) (.ix (.var 8) (.int 1))) (.bin .mul (.bin .mul (.ix (.var 7) (.int 0)) (.ix (.var 8) (.int 0))) (.ix (.var 9) (.int 1))))) (.cons (.ret (.bl false)) .nil) .nil) (.cons (.iff (.and (.cmp .ne (.ix (.var 8) (.int 0)) (.int 0)) (.or (.cmp .ne (.call "by" (.cons .own (.call "over" (.cons .own (.var 7) (.cons .own (.var 8) .nil))) (.cons .own (.var 8) .nil))) (.var 7)) (.no (.call "_law_is_ratio" (.cons .own (.call "over" (.cons .own (.var 7) (.cons .own (.var 8) .nil))) .nil))))) (.cons (.ret (.bl false)) .nil) .nil) (.cons (.iff (.or (.no (.call "_law_same" (.cons .own (.call "below" (.cons .own (.var 7) (.cons .own (.var 8) .nil))) (.cons .own (.cmp .lt (.bin .mul (.ix (.var 7) (.int 0)) (.ix (.var 8) (.int 1))) (.bin .mul (.ix (.var 8) (.int 0)) (.ix (.var 7) (.int 1)))) .nil)))) (.isB true false (.call "below" (.cons .own (.var 7) (.cons .own (.var 7) .nil))))) (.cons (.ret (.bl false)) .nil) .nil) (.cons (.asg (.var 10) (.lst .nil)) (.cons (.fr (.var 11) (.r1 (.bin .mod (.ix (.var 1) (.int 8)) (.int 9))) (.cons (.app (.var 10) (.call "_law_ratio" (.cons .own (.bin .sub (.ix (.var 1) (.bin .add (.int 9) (.var 11))) (.int 5000)) (.cons .own (.bin .add (.int 1) (.bin .mod (.ix (.var 1) (.bin .add (.int 10) (.var 11))) (.int 30))) .nil)))) .nil)) (.cons (.iff (.cmp .ne (.call "sum_of" (.cons .own (.bi "list" (.cons (.var 10) .nil)) .nil)) (.call "_law_sum" (.cons .lend (.var 10) .nil))) (.cons (.ret (.bl false)) .nil) .nil) (.cons (.asg (.var 12) (.ix (.lst (.cons (.tup (.cons (.int 6) (.cons (.int 4) .nil))) (.cons (.tup (.cons (.int 1) (.cons (.int 0) .nil))) (.cons (.tup (.cons (.int 1) (.cons (.bin .sub (.int 0) (.int 2)) .nil))) (.cons (.lst (.cons (.int 1) (.cons (.int 2) .nil))) (.cons (.tup (.cons (.int 1) .nil)) (.cons (.tup (.cons (.int 1) (.cons (.int 2) (.cons (.int 3) .nil)))) (.cons (.tup (.cons (.bl true) (.cons (.int 2) .nil))) (.cons (.tup (.cons (.str "1") (.cons (.int 2) .nil))) (.cons .non (.cons (.tup (.cons (.int 2) (.cons (.bl true) .nil))) .nil))))))))))) (.bin .mod (.ix (.var 1) (.int 9)) (.int 10)))) (.cons (.ret (.and (.isB false true (.call "is_ratio" (.cons .own (.var 7) .nil))) (.and (.isB false false (.call "is_ratio" (.cons .own (.var 12) .nil))) (.call "_law_refuses" (.cons .own (.bin .mod (.ix (.var 1) (.int 10)) (.int 2)) (.cons .own (.var 7) .nil)))))) .nil)))))))))))))))))))⟩
def dd_ratio : He.DefD := ⟨("ratio", none), "ratio", "ratio", L2.defArgs (top 5), L2.defBody (top 5), L2.defScope (top 5), [], []⟩
def dd_is_ratio : He.DefD := ⟨("is_ratio", none), "is_ratio", "is_ratio", L2.defArgs (top 6), L2.defBody (top 6), L2.defScope (top 6), [], []⟩
def dd_plus : He.DefD := ⟨("plus", none), "plus", "plus", L2.defArgs (top 7), L2.defBody (top 7), L2.defScope (top 7), [], []⟩
def dd_minus : He.DefD := ⟨("minus", none), "minus", "minus", L2.defArgs (top 8), L2.defBody (top 8), L2.defScope (top 8), [], []⟩
def dd_by : He.DefD := ⟨("by", none), "by", "by", L2.defArgs (top 9), L2.defBody (top 9), L2.defScope (top 9), [], []⟩
def dd_over : He.DefD := ⟨("over", none), "over", "over", L2.defArgs (top 10), L2.defBody (top 10), L2.defScope (top 10), [], []⟩
def dd_below : He.DefD := ⟨("below", none), "below", "below", L2.defArgs (top 11), L2.defBody (top 11), L2.defScope (top 11), [], []⟩
def dd_sum_of : He.DefD := ⟨("sum_of", none), "sum_of", "sum_of", L2.defArgs (top 12), L2.defBody (top 12), L2.defScope (top 12), [], []⟩
def dd__law_numbers : He.DefD := ⟨("_law_numbers", none), "_law_numbers", "_law_numbers", L2.defArgs (top 14), L2.defBody (top 14), L2.defScope (top 14), [], []⟩
def dd__law_is_int : He.DefD := ⟨("_law_is_int", none), "_law_is_int", "_law_is_int", L2.defArgs (top 15), L2.defBody (top 15), L2.defScope (top 15), [], []⟩
def dd__law_same : He.DefD := ⟨("_law_same", none), "_law_same", "_law_same", L2.defArgs (top 16), L2.defBody (top 16), L2.defScope (top 16), [], []⟩
def dd__law_gcd : He.DefD := ⟨("_law_gcd", none), "_law_gcd", "_law_gcd", L2.defArgs (top 17), L2.defBody (top 17), L2.defScope (top 17), [], []⟩
def dd__law_ratio : He.DefD := ⟨("_law_ratio", none), "_law_ratio", "_law_ratio", L2.defArgs (top 18), L2.defBody (top 18), L2.defScope (top 18), [], []⟩
def dd__law_add : He.DefD := ⟨("_law_add", none), "_law_add", "_law_add", L2.defArgs (top 19), L2.defBody (top 19), L2.defScope (top 19), [], []⟩
def dd__law_sub : He.DefD := ⟨("_law_sub", none), "_law_sub", "_law_sub", L2.defArgs (top 20), L2.defBody (top 20), L2.defScope (top 20), [], []⟩
def dd__law_sum : He.DefD := ⟨("_law_sum", none), "_law_sum", "_law_sum", L2.defArgs (top 21), L2.defBody (top 21), L2.defScope (top 21), [], []⟩
def dd__law_is_ratio : He.DefD := ⟨("_law_is_ratio", none), "_law_is_ratio", "_law_is_ratio", L2.defArgs (top 22), L2.defBody (top 22), L2.defScope (top 22), [], []⟩
def dd__law_is_sum : He.DefD := ⟨("_law_is_sum", none), "_law_is_sum", "_law_is_sum", L2.defArgs (top 23), L2.defBody (top 23), L2.defScope (top 23), [], []⟩
def dd__law_refuses : He.DefD := ⟨("_law_refuses", none), "_law_refuses", "_law_refuses", L2.defArgs (top 24), L2.defBody (top 24), L2.defScope (top 24), [], []⟩
def dd_law : He.DefD := ⟨("law", none), "law", "law", L2.defArgs (top 25), L2.defBody (top 25), L2.defScope (top 25), [], []⟩
def r_ratio : PL.Row := ⟨"ratio", d_ratio, dd_ratio, (["above", "below", "shared"] : List PySem.Str)⟩
def r_is_ratio : PL.Row := ⟨"is_ratio", d_is_ratio, dd_is_ratio, (["value", "above", "below"] : List PySem.Str)⟩
def r_plus : PL.Row := ⟨"plus", d_plus, dd_plus, (["one", "two"] : List PySem.Str)⟩
def r_minus : PL.Row := ⟨"minus", d_minus, dd_minus, (["one", "two"] : List PySem.Str)⟩
def r_by : PL.Row := ⟨"by", d_by, dd_by, (["one", "two"] : List PySem.Str)⟩
def r_over : PL.Row := ⟨"over", d_over, dd_over, (["one", "two"] : List PySem.Str)⟩
def r_below : PL.Row := ⟨"below", d_below, dd_below, (["one", "two"] : List PySem.Str)⟩
def r_sum_of : PL.Row := ⟨"sum_of", d_sum_of, dd_sum_of, (["rows", "above", "under", "one", "shared"] : List PySem.Str)⟩
def r__law_numbers : PL.Row := ⟨"_law_numbers", d__law_numbers, dd__law_numbers, (["script", "count", "found", "seed", "cell", "digits_left", "k", "own"] : List PySem.Str)⟩
def r__law_is_int : PL.Row := ⟨"_law_is_int", d__law_is_int, dd__law_is_int, (["value"] : List PySem.Str)⟩
def r__law_same : PL.Row := ⟨"_law_same", d__law_same, dd__law_same, (["value", "due"] : List PySem.Str)⟩
def r__law_gcd : PL.Row := ⟨"_law_gcd", d__law_gcd, dd__law_gcd, (["a", "b", "step"] : List PySem.Str)⟩
def r__law_ratio : PL.Row := ⟨"_law_ratio", d__law_ratio, dd__law_ratio, (["above", "under", "shared"] : List PySem.Str)⟩
def r__law_add : PL.Row := ⟨"_law_add", d__law_add, dd__law_add, (["one", "two"] : List PySem.Str)⟩
def r__law_sub : PL.Row := ⟨"_law_sub", d__law_sub, dd__law_sub, (["one", "two"] : List PySem.Str)⟩
def r__law_sum : PL.Row := ⟨"_law_sum", d__law_sum, dd__law_sum, (["rows", "found", "one"] : List PySem.Str)⟩
def r__law_is_ratio : PL.Row := ⟨"_law_is_ratio", d__law_is_ratio, dd__law_is_ratio, (["value"] : List PySem.Str)⟩
def r__law_is_sum : PL.Row := ⟨"_law_is_sum", d__law_is_sum, dd__law_is_sum, (["one", "two", "told"] : List PySem.Str)⟩
def r__law_refuses : PL.Row := ⟨"_law_refuses", d__law_refuses, dd__law_refuses, (["kind", "one"] : List PySem.Str)⟩
def r_law : PL.Row := ⟨"law", d_law, dd_law, (["script", "numbers", "big", "a", "b", "c", "d", "one", "two", "told", "rows", "k", "wrong"] : List PySem.Str)⟩
def rows : List PL.Row := [r_ratio, r_is_ratio, r_plus, r_minus, r_by, r_over, r_below, r_sum_of, r__law_numbers, r__law_is_int, r__law_same, r__law_gcd, r__law_ratio, r__law_add, r__law_sub, r__law_sum] ++ [r__law_is_ratio, r__law_is_sum, r__law_refuses, r_law]
def fnL : List String := (["ratio", "is_ratio", "plus", "minus", "by", "over", "below", "sum_of", "_law_numbers", "_law_is_int", "_law_same", "_law_gcd", "_law_ratio", "_law_add", "_law_sub", "_law_sum"] : List String) ++ (["_law_is_ratio", "_law_is_sum", "_law_refuses", "law"] : List String)
def T : Txt := ⟨["len", "abs", "int", "list", "tuple", "range", "isinstance", "type", "bool"], fnL, ["BadRatio"], ["BadRatio"], true, ["BadRatio"], [("BadRatio", "BadRatio", true)]⟩
def glob (f : String) : Option Val := match f with
  | _ => none
def P : Prog := ⟨fnOfRows rows, glob, subOf T.subs, 100000⟩
theorem chk : rows.all (chkRow P T) = true := by kernel_rfl
abbrev hk : PySem.W.Hook := hookP 4 (exB rows T) (rows.map (·.dd))
def ob (s : PySem.W.SharedT) : AlP := obsPG 4 (exB rows T) (rows.map (·.dd)) (HandSHeadRun.getT s)
theorem ob_eq (s : PySem.W.SharedT) : ob s = hk.obs s.abs := obsPG_eq (HandSHeadRun.getT_eq s)
theorem run (w : PySem.World) : HandSHeadRun.RunEqI rw vw hk ob 8000 names w := by
  unfold HandSHeadRun.RunEqI
  kernel_rfl
end Lw
namespace LwEnd
open PL
theorem facts : F00 Lw.P := ⟨rfl, rfl, rfl, rfl, rfl, rfl, rfl, rfl, rfl, rfl, rfl, rfl, rfl, rfl, rfl, rfl, rfl, rfl, rfl, rfl, rfl⟩
theorem plain (ns : List Int) (_ : ns.length ≤ 63) : callF Lw.P 12 "law" [.v (.lst (ns.map Val.int))] = .ok (.v (.bl true)) [] := k00_law facts 6 ns
end LwEnd

open PySem PySem.W PySem.Calls PyProof.Rows
set_option maxRecDepth 100000 in
set_option maxHeartbeats 8000000 in
theorem PySem.Challenge.cw_verdictcheaply_k00_ratios_reckoned_holds : PySem.Challenge.rw_verdictcheaply_k00_ratios_reckoned.Holds := by
  w_on
  o_law
  refine HandSHeadRun.head_imp (r := Lw.rw) (q := Lw.vw) (H := Lw.hk) (ob := Lw.ob) (M := 8000) (loose := Lw.names) (d := HandSHeadRun.topDef Lw.rw.prog 25) (kwd := []) Lw.ob_eq Lw.run
    (by kernel_rfl) (by kernel_rfl) (by kernel_rfl) (by rfl) (by first | assumption | decide +kernel) (by decide +kernel) ⟨rfl, rfl, rfl, rfl, rfl, by decide +kernel⟩ ?hw ?hc
  case hw => w_witness2
  case hc => exact PL.walk_P (n := 63) (k := 12) (r := Lw.r_law) (x := "script") rfl (by decide) (by kernel_rfl) (by kernel_rfl) ⟨rfl, by decide, by decide⟩ rfl rfl Lw.chk (by kernel_rfl) (by kernel_rfl) (by kernel_rfl) (by kernel_rfl) LwEnd.plain

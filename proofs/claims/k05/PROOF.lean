import PyProof.Rows.All
import Wide.All
import OpenK.AllK
import Wide.FinOn
import HandS.ForMost
import HandS.Wide
import HandS.WideBits
import HandS.IsInst
import HandS.FStr
import HandS.Star
import HandS.TupAny
import HandS.TupMul
import HandS.Walk
import HandS.Zip
import HandS.Property
import HandS.RaiseMore
import HandS.Style
import HandS.Conv
import HandS.SortInts
import HandS.Text
import HandS.OwnEq
import HandS.ClsMeth
import KE.GoesMore
import PyProof.ReprRoads
import KE.KIntText
import PySem.Challenge.RW_linecents_k05_texts_read_back
set_option Elab.async false
set_option linter.all false
set_option maxRecDepth 100000
set_option maxHeartbeats 4000000

/-! # LcA: values, the store, what a term of the small language means -/
namespace LC
open PySem

/-- a value: what never changes is told whole; a thing that changes is a place of the store -/
inductive D where
  | non | bl (b : Bool) | int (i : Int) | str (s : Str)
  | tup (xs : List D) | lst (xs : List D) | scr (ns : List Int)
  | ref (n : Nat) | glb (x : Str) | ty (n : String)
  deriving Inhabited

/-- what stands at a place of the store -/
inductive Ob where
  | lst (xs : List D)
  | ins (C : Str) (fs : List (Str × D))
  deriving Inhabited

abbrev Sto := List Ob
abbrev Env := List (Option D)

inductive Out (α : Type) where
  | ok (a : α) (m : Sto)
  | exc (C : Str) (fs : List (Str × D)) (m : Sto)
  | bad

abbrev M (α : Type) := Sto → Out α

def ret {α : Type} (a : α) : M α := fun m => .ok a m
def bad {α : Type} : M α := fun _ => .bad
def bnd {α β : Type} (x : M α) (f : α → M β) : M β := fun m => match x m with
  | .ok a m' => f a m'
  | .exc C fs m' => .exc C fs m'
  | .bad => .bad
/-- a new place -/
def new (o : Ob) : M D := fun m => .ok (.ref m.length) (m ++ [o])

inductive Flow where
  | nx (r : Env) | rt (d : D) | bk (r : Env) | ct (r : Env)

/-- what a loop walks: known things, or the list at a place as it stands -/
inductive Src where
  | fix (ds : List D) | live (n : Nat)

mutual
def D.py : D → Option PyData
  | .non => some .none
  | .bl b => some (.bool b)
  | .int i => some (.int i)
  | .str s => some (.str s)
  | .tup xs => (D.pys xs).map .tuple
  | .lst xs => (D.pys xs).map .list
  | .scr _ => none
  | .ref _ => none
  | .glb _ => none
  | .ty _ => none
def D.pys : List D → Option (List PyData)
  | [] => some []
  | d :: ds => match D.py d, D.pys ds with
    | some x, some xs => some (x :: xs)
    | _, _ => none
end

/-- a list at a place, read -/
def topR (d : D) : Option Ob → D
  | some (.lst xs) => .lst xs
  | _ => d
def top (m : Sto) (d : D) : D := match d with
  | .ref n => topR d m[n]?
  | _ => d

def LIM : Nat := 16777216
def mulOk (i j : Int) : Bool := decide (-(2 ^ 64) < i ∧ i < 2 ^ 64) || decide (-(2 ^ 64) < j ∧ j < 2 ^ 64) || decide (i.natAbs.log2 + j.natAbs.log2 < 1000000)
def divOk (j : Int) : Bool := decide (0 < j) && decide (j.natAbs.log2 < 9000)
def strLt (a b : Str) : Bool := decide (a.cps.toList < b.cps.toList)

/-! ### operators -/
def opBin (mu : Bool) (o : Operator) (x y : D) : M D := fun m =>
  match o, x, y with
  | .Add, .int i, .int j => .ok (.int (i + j)) m
  | .Sub, .int i, .int j => .ok (.int (i - j)) m
  | .Mult, .int i, .int j => if mulOk i j then .ok (.int (i * j)) m else .bad
  | .FloorDiv, .int i, .int j => if divOk j then .ok (.int (i / j)) m else .bad
  | .Mod, .int i, .int j => if decide (0 < j) then .ok (.int (i % j)) m else .bad
  | .Pow, .int i, .int j => if decide (0 ≤ j ∧ j ≤ 1000000 ∧ i.natAbs < 2 ^ 64) then .ok (.int (i ^ j.toNat)) m else .bad
  | .Add, .str a, .str b => if decide (a.length + b.length ≤ LIM) then .ok (.str (a ++ b)) m else .bad
  | .Add, .tup a, .tup b => if decide (a.length + b.length ≤ LIM) then .ok (.tup (a ++ b)) m else .bad
  | .Add, x, y => match top m x, top m y with
    | .lst a, .lst b => if decide (a.length + b.length ≤ LIM) then (if mu then new (.lst (a ++ b)) m else .ok (.lst (a ++ b)) m) else .bad
    | _, _ => .bad
  | .Mult, .tup a, .int k => if decide (1 ≤ k ∧ k ≤ 1000 ∧ a ≠ [] ∧ a.length ≤ 1000) then .ok (.tup (List.replicate k.toNat a).flatten) m else .bad
  | .Mult, x, .int k => match top m x with
    | .lst a => if decide (-(2 ^ 63) ≤ k ∧ k < 2 ^ 63 ∧ a.length * k.toNat ≤ LIM) then (if mu then new (.lst (List.replicate k.toNat a).flatten) m else .ok (.lst (List.replicate k.toNat a).flatten) m) else .bad
    | _ => .bad
  | _, _, _ => .bad

def fitD (a : PyData) : Bool := a.canLay0 && decide (a.depth ≤ 64)
/-- == of data -/
def eqD (m : Sto) (x y : D) : Option Bool := match (top m x).py, (top m y).py with
  | some a, some b => if fitD a && fitD b then some (PyData.eqv a b) else none
  | _, _ => none
def D.flat : D → Bool
  | .non => true | .bl _ => true | .int _ => true | .str _ => true | _ => false
/-- == of flat values -/
def eqF : D → D → Bool
  | .non, .non => true
  | .bl a, .bl b => a == b
  | .bl a, .int b => (if a then 1 else 0) == b
  | .int a, .bl b => a == (if b then 1 else 0)
  | .int a, .int b => a == b
  | .str a, .str b => a == b
  | _, _ => false
/-- x in y -/
def inD (m : Sto) (x y : D) : Option Bool := match x, y with
  | .str a, .str z => if a.cps.size = 1 then some (decide (a.cps.getD 0 0 ∈ z.cps.toList)) else some (!(Builtin.Str.occurrences z a 0 z.length 1).isEmpty)
  | _, _ => match top m y with
    | .tup ys => if x.flat && ys.all D.flat then some (ys.any fun z => eqF z x) else none
    | .lst ys => if x.flat && ys.all D.flat then some (ys.any fun z => eqF z x) else none
    | _ => none
def bOut (o : Option Bool) : M D := fun m => match o with
  | some b => .ok (.bl b) m
  | none => .bad
def opCmp (o : CmpOp) (x y : D) : M D := fun m =>
  match o with
  | .Eq => bOut (eqD m x y) m
  | .NotEq => bOut ((eqD m x y).map not) m
  | .Lt => match x, y with
    | .int i, .int j => .ok (.bl (decide (i < j))) m
    | .str i, .str j => .ok (.bl (strLt i j)) m
    | _, _ => .bad
  | .LtE => match x, y with
    | .int i, .int j => .ok (.bl (decide (i ≤ j))) m
    | _, _ => .bad
  | .Gt => match x, y with
    | .int i, .int j => .ok (.bl (decide (j < i))) m
    | _, _ => .bad
  | .GtE => match x, y with
    | .int i, .int j => .ok (.bl (decide (j ≤ i))) m
    | _, _ => .bad
  | .Is => match y with
    | .non => match x with
      | .non => .ok (.bl true) m
      | _ => .ok (.bl false) m
    | _ => .bad
  | .IsNot => match y with
    | .non => match x with
      | .non => .ok (.bl false) m
      | _ => .ok (.bl true) m
    | _ => .bad
  | .In => bOut (inD m x y) m
  | .NotIn => bOut ((inD m x y).map not) m

/-- truth -/
def tru (d : D) : M Bool := fun m => match top m d with
  | .non => .ok false m
  | .bl b => .ok b m
  | .int i => .ok (i != 0) m
  | .str s => if decide (s.length ≤ LIM) then .ok ((s.length : Int) != 0) m else .bad
  | .tup xs => .ok (!xs.isEmpty) m
  | .lst xs => .ok (!xs.isEmpty) m
  | _ => .bad
def asB (d : D) : M Bool := fun m => match d with
  | .bl b => .ok b m
  | _ => .bad

def ixN (n : Nat) (i : Int) : Option Nat := if 0 ≤ i then (if i < n then some i.toNat else none) else if -(n : Int) ≤ i then some (i + n).toNat else none
def atI {α : Type} (xs : List α) (i : Int) : Option α := (ixN xs.length i).bind fun j => xs[j]?
def oOut (o : Option D) : M D := fun m => match o with
  | some d => .ok d m
  | none => .bad
/-- x[y] -/
def opIx (x y : D) : M D := fun m => match top m x, y with
  | .tup xs, .int i => oOut (atI xs i) m
  | .lst xs, .int i => oOut (atI xs i) m
  | .scr ns, .int i => oOut ((atI ns i).map .int) m
  | .str s, .int i => if decide (s.length ≤ LIM) then oOut ((atI s.cps.toList i).map fun c => .str ⟨#[c]⟩) m else .bad
  | _, _ => .bad
def sIx (n d : Nat) : Option Int → Nat
  | none => d
  | some i => if i < 0 then (i + n).toNat else min i.toNat n
def cut {α : Type} (xs : List α) (lo hi : Option Int) : List α := (xs.drop (sIx xs.length 0 lo)).take (sIx xs.length xs.length hi - sIx xs.length 0 lo)
def opSl (mu : Bool) (x : D) (lo hi : Option Int) : M D := fun m => match top m x with
  | .tup xs => .ok (.tup (cut xs lo hi)) m
  | .lst xs => if mu then new (.lst (cut xs lo hi)) m else .ok (.lst (cut xs lo hi)) m
  | .scr ns => .ok (.lst (cut (ns.map .int) lo hi)) m
  | .str s => if decide (s.length ≤ LIM) then .ok (.str ⟨(cut s.cps.toList lo hi).toArray⟩) m else .bad
  | _ => .bad
def opRv (mu : Bool) (x : D) : M D := fun m => match top m x with
  | .lst xs => if mu then new (.lst xs.reverse) m else .ok (.lst xs.reverse) m
  | .tup xs => .ok (.tup xs.reverse) m
  | _ => .bad
/-- x[y] = v -/
def opSet (x y v : D) : M Unit := fun m => match x, y with
  | .ref n, .int i => match m[n]? with
    | some (.lst xs) => match ixN xs.length i with
      | some j => .ok () (m.set n (.lst (xs.set j v)))
      | none => .bad
    | _ => .bad
  | _, _ => .bad

/-! ### classes and what stands at the top -/
structure Cls where
  name : Str
  init : Option Nat
  meths : List (Str × Nat)
  props : List (Str × Nat)
  flds : List Str
  cms : List (Str × Nat) := []
structure Phi where
  call : Nat → List D → M D
  W : Nat
  cls : List Cls
  glob : List (Str × D)
def Phi.cl (P : Phi) (C : Str) : Option Cls := P.cls.find? fun c => c.name == C

def putF (f : Str) (v : D) : List (Str × D) → List (Str × D)
  | [] => [(f, v)]
  | (g, x) :: r => if g = f then (g, v) :: r else (g, x) :: putF f v r
/-- o.f -/
def opAt (P : Phi) (f : Str) (x : D) : M D := fun m => match x with
  | .ref n => match m[n]? with
    | some (.ins C fs) => match P.cl C with
      | some c => if c.flds.contains f then oOut (fs.lookup f) m
        else match c.props.lookup f with
          | some k => P.call k [x] m
          | none => .bad
      | none => .bad
    | _ => .bad
  | _ => .bad
/-- o.f = v -/
def opFld (P : Phi) (f : Str) (x v : D) : M Unit := fun m => match x with
  | .ref n => match m[n]? with
    | some (.ins C fs) => match P.cl C with
      | some c => if c.flds.contains f && decide (fs.length < 1000) then .ok () (m.set n (.ins C (putF f v fs))) else .bad
      | none => .bad
    | _ => .bad
  | _ => .bad
/-- o.m(..) -/
def opMe (P : Phi) (f : Str) (x : D) (as : List D) : M D := fun m => match x with
  | .ref n => match m[n]? with
    | some (.ins C fs) => match P.cl C with
      | some c => match c.meths.lookup f with
        | some k => if (fs.lookup f).isNone then P.call k (x :: as) m else .bad
        | none => .bad
      | none => .bad
    | _ => .bad
  | _ => .bad
/-- C(..), the arguments put in order by g -/
def opMkK (P : Phi) (C : Str) (g : List D → List D → M (List D)) (as bs : List D) : M D := fun m => match P.cl C with
  | some c => match c.init with
    | some k => bnd (bnd (g (.ref m.length :: as) bs) (P.call k)) (fun d m' => match d with
        | .non => .ok (.ref m.length) m'
        | _ => .bad) (m ++ [.ins C []])
    | none => .bad
  | none => .bad
def opMk (P : Phi) (C : Str) (as : List D) : M D := opMkK P C (fun l _ => ret l) as []

/-! ### built-in functions -/
def asInts : List D → Option (List Int)
  | [] => some []
  | .int i :: r => (asInts r).map (i :: ·)
  | _ :: _ => none
def asBools : List D → Option (List Bool)
  | [] => some []
  | .bl i :: r => (asBools r).map (i :: ·)
  | _ :: _ => none
def asStrs : List D → Option (List Str)
  | [] => some []
  | .str i :: r => (asStrs r).map (i :: ·)
  | _ :: _ => none
def most : List Int → Int
  | [] => 0
  | [x] => x
  | x :: r => max x (most r)
def least : List Int → Int
  | [] => 0
  | [x] => x
  | x :: r => min x (least r)
/-- the items of a list or tuple -/
def seqOf (m : Sto) (d : D) : Option (List D) := match top m d with
  | .tup xs => some xs
  | .lst xs => some xs
  | .scr ns => some (ns.map .int)
  | _ => none
/-- the built-in type's name of a value -/
def tyOf (m : Sto) (d : D) : Option String := match top m d with
  | .non => some "NoneType"
  | .bl _ => some "bool"
  | .int _ => some "int"
  | .str _ => some "str"
  | .tup _ => some "tuple"
  | .lst _ => some "list"
  | .scr _ => some "list"
  | _ => none
/-- the own __eq__ of an instance -/
def eqOf (P : Phi) (m : Sto) (d : D) : Option (Str × Nat) := match d with
  | .ref j => match m[j]? with
    | some (.ins C _) => match P.cl C with
      | some c => (c.meths.lookup ("__eq__" : Str)).map fun k => (C, k)
      | none => none
    | _ => none
  | _ => none
def notB (ne : Bool) (d : D) : M D := fun m => match d with
  | .bl b => .ok (.bl (b != ne)) m
  | _ => .bad
def insOf (m : Sto) (d : D) : Option Str := match d with
  | .ref j => match m[j]? with
    | some (.ins C _) => some C
    | _ => none
  | _ => none
def opOwn (P : Phi) (ne : Bool) (x y : D) : M D := fun m => match eqOf P m x with
  | some (C, k) => if (tyOf m y).isSome || insOf m y == some C then bnd (P.call k [x, y]) (notB ne) m else .bad
  | none => match eqOf P m y with
    | some (_, k) => if !ne && (tyOf m x).isSome then bnd (P.call k [y, x]) (notB false) m else .bad
    | none => opCmp (if ne then .NotEq else .Eq) x y m
/-- bool(o), o an instance that has no truth of its own -/
def opBo (P : Phi) (x : D) : M D := fun m => match x with
  | .ref j => match m[j]? with
    | some (.ins C _) => match P.cl C with
      | some c => if c.flds.contains ("__bool__" : Str) && c.flds.contains ("__len__" : Str) then .ok (.bl true) m else .bad
      | none => .bad
    | _ => .bad
  | _ => .bad
def tBo (P : Phi) (as : List D) : M D := match as with
  | [d] => opBo P d
  | _ => fun _ => .bad
/-- str(o), o an instance with its own __str__ -/
def strB (d : D) : M D := fun m => match d with
  | .str s => .ok (.str s) m
  | _ => .bad
def opSo (P : Phi) (x : D) : M D := fun m => match x with
  | .ref j => match m[j]? with
    | some (.ins C _) => match P.cl C with
      | some c => match c.meths.lookup ("__str__" : Str) with
        | some k => bnd (P.call k [x]) strB m
        | none => .bad
      | none => .bad
    | _ => .bad
  | _ => .bad
def tSo (P : Phi) (as : List D) : M D := match as with
  | [d] => opSo P d
  | _ => fun _ => .bad
/-- the built-in classes that laws ask for -/
def tyIs (a : String) (b : String) : Bool := a == b || (a == "bool" && b == "int")
def knownTy (b : String) : Bool := b == "int" || b == "bool" || b == "str" || b == "tuple" || b == "list" || b == "dict"
def isInst1 (P : Phi) (m : Sto) (d c : D) : Option Bool := match c with
  | .ty b => if knownTy b then (match d with
      | .ref n => match m[n]? with
        | some (.ins C' _) => if (P.cl C').isSome then some false else none
        | some (.lst _) => some (tyIs "list" b)
        | none => none
      | _ => (tyOf m d).map fun a => tyIs a b) else none
  | .glb C => if (P.cl C).isSome then (match d with
    | .ref n => match m[n]? with
      | some (.ins C' _) => if (P.cl C').isSome then some (C' == C) else none
      | some (.lst _) => some false
      | none => none
    | _ => (tyOf m d).map fun _ => false) else none
  | _ => none
def showOk (a : PyData) : Bool := a.showable && decide (a.depth ≤ 64) && decide (a.shown.length ≤ LIM)
def bRepr (P : Phi) (d : D) : M D := fun m => match (top m d).py with
  | some a => if showOk a then .ok (.str a.shown) m else .bad
  | none => match d with
    | .ref n => match m[n]? with
      | some (.ins C fs) => match P.cl C with
        | some c => match c.meths.lookup ("__repr__" : Str) with
          | some k => if (fs.lookup ("__repr__" : Str)).isNone then bnd (P.call k [d]) (fun r m' => match r with
            | .str s => .ok (.str s) m'
            | _ => .bad) m else .bad
          | none => .bad
        | none => .bad
      | _ => .bad
    | _ => .bad
/-- the built-in functions that are known; types that are called; methods of lists and texts -/
inductive B where
  | len | abs | max | min | sum | all | any | divmod | isinst | repr | sorted
  deriving DecidableEq
inductive Ty where
  | int | str | bool | tuple | list
  deriving DecidableEq
inductive Bm where
  | append | extend
  deriving DecidableEq
def bLen (as : List D) : M D := fun m => match as with
  | [d] => match top m d with
    | .str s => if decide (s.length ≤ LIM) then .ok (.int s.length) m else .bad
    | _ => match seqOf m d with
      | some xs => .ok (.int xs.length) m
      | none => .bad
  | _ => .bad
def bAbs (as : List D) : M D := fun m => match as with
  | [.int i] => .ok (.int (if i < 0 then -i else i)) m
  | _ => .bad
def bMax (as : List D) : M D := fun m => match as with
  | [.int i, .int j] => .ok (.int (if j > i then j else i)) m
  | [d] => match top m d with
    | .lst xs => match asInts xs with
      | some (n :: ns) => .ok (.int (most (n :: ns))) m
      | _ => .bad
    | _ => .bad
  | _ => .bad
def bMin (as : List D) : M D := fun m => match as with
  | [.int i, .int j] => .ok (.int (if j < i then j else i)) m
  | [d] => match top m d with
    | .lst xs => match asInts xs with
      | some (n :: ns) => .ok (.int (least (n :: ns))) m
      | _ => .bad
    | _ => .bad
  | _ => .bad
def bSum (as : List D) : M D := fun m => match as with
  | [d] => match top m d with
    | .lst xs => match asInts xs with
      | some ns => .ok (.int ns.sum) m
      | _ => .bad
    | _ => .bad
  | _ => .bad
def bAll (as : List D) : M D := fun m => match as with
  | [d] => match top m d with
    | .lst xs => match asBools xs with
      | some ns => .ok (.bl (ns.all id)) m
      | _ => .bad
    | _ => .bad
  | _ => .bad
def bAny (as : List D) : M D := fun m => match as with
  | [d] => match top m d with
    | .lst xs => match asBools xs with
      | some ns => .ok (.bl (ns.any id)) m
      | _ => .bad
    | _ => .bad
  | _ => .bad
def bDivmod (as : List D) : M D := fun m => match as with
  | [.int i, .int j] => if divOk j then .ok (.tup [.int (i / j), .int (i % j)]) m else .bad
  | _ => .bad
def bIsinst (P : Phi) (as : List D) : M D := fun m => match as with
  | [d, c] => bOut (isInst1 P m d c) m
  | _ => .bad
def bRep (P : Phi) (as : List D) : M D := fun m => match as with
  | [d] => bRepr P d m
  | _ => .bad
/-- ints in order -/
def insI (x : Int) : List Int → List Int
  | [] => [x]
  | y :: ys => if x ≤ y then x :: y :: ys else y :: insI x ys
def sortI : List Int → List Int
  | [] => []
  | x :: xs => insI x (sortI xs)
def bSorted (as : List D) : M D := fun m => match as with
  | [d] => match top m d with
    | .lst xs => match asInts xs with
      | some ns => .ok (.lst ((sortI ns).map .int)) m
      | _ => .bad
    | _ => .bad
  | _ => .bad
def callB (P : Phi) (f : B) (as : List D) : M D := match f with
  | .len => bLen as | .abs => bAbs as | .max => bMax as | .min => bMin as | .sum => bSum as | .all => bAll as | .any => bAny as | .divmod => bDivmod as | .isinst => bIsinst P as | .repr => bRep P as | .sorted => bSorted as
def tInt (as : List D) : M D := fun m => match as with
  | [.int i] => .ok (.int i) m
  | [.bl b] => .ok (.int (if b then 1 else 0)) m
  | [.str s] => match PySem.intText? s with
    | some n => if decide (s.length ≤ 640) then .ok (.int n) m else .bad
    | none => .bad
  | _ => .bad
def tStr (as : List D) : M D := fun m => match as with
  | [.int i] => if decide (i.natAbs.log2 < 1920) then .ok (.str (toString i)) m else .bad
  | [.str s] => .ok (.str s) m
  | _ => .bad
def tBool (as : List D) : M D := fun m => match as with
  | [.int i] => .ok (.bl (i != 0)) m
  | [.bl b] => .ok (.bl b) m
  | _ => .bad
def tTuple (as : List D) : M D := fun m => match as with
  | [d] => match top m d with
    | .lst xs => .ok (.tup xs) m
    | .tup xs => .ok (.tup xs) m
    | _ => .bad
  | _ => .bad
def tList (mu : Bool) (as : List D) : M D := fun m => match as with
  | [d] => match top m d with
    | .lst xs => if mu then new (.lst xs) m else .ok (.lst xs) m
    | .tup xs => if mu then new (.lst xs) m else .ok (.lst xs) m
    | _ => .bad
  | _ => .bad
def callT (mu : Bool) (f : Ty) (as : List D) : M D := match f with
  | .int => tInt as | .str => tStr as | .bool => tBool as | .tuple => tTuple as | .list => tList mu as
def mAppend (x : D) (as : List D) : M D := fun m => match x, as with
  | .ref n, [d] => match m[n]? with
    | some (.lst xs) => if decide (xs.length < LIM) then .ok .non (m.set n (.lst (xs ++ [d]))) else .bad
    | _ => .bad
  | _, _ => .bad
def mExtend (x : D) (as : List D) : M D := fun m => match x, as with
  | .ref n, [d] => match m[n]?, top m d with
    | some (.lst xs), .lst ys => if decide (xs.length + ys.length ≤ LIM) then .ok .non (m.set n (.lst (xs ++ ys))) else .bad
    | some (.lst xs), .tup ys => if decide (xs.length + ys.length ≤ LIM) then .ok .non (m.set n (.lst (xs ++ ys))) else .bad
    | _, _ => .bad
  | _, _ => .bad
def callM (f : Bm) (x : D) (as : List D) : M D := match f with
  | .append => mAppend x as | .extend => mExtend x as
/-- o[i] of o[i] op= e -/
def opGet (x y : D) : M D := fun m => match x, y with
  | .ref n, .int i => match m[n]? with
    | some (.lst xs) => oOut (atI xs i) m
    | _ => .bad
  | _, _ => .bad
/-- x.join(y) -/
def joinD (a : Str) (xs : List D) : M D := fun m => match asStrs xs with
  | some ys => if decide ((ys.map (·.length)).sum + ys.length * a.length ≤ LIM) then .ok (.str (Str.join a ys)) m else .bad
  | none => .bad
def opJoin (x y : D) : M D := fun m => match x with
  | .str a => match top m y with
    | .lst xs => joinD a xs m
    | .tup xs => joinD a xs m
    | _ => .bad
  | _ => .bad
/-- x.split(y), x.partition(y) -/
def opSplit (x y : D) : M D := fun m => match x, y with
  | .str a, .str b => if decide (b.length ≠ 0 ∧ a.length + 2 ≤ LIM) then .ok (.lst ((Txt.split a b).map .str)) m else .bad
  | _, _ => .bad
def opPart (x y : D) : M D := fun m => match x, y with
  | .str a, .str b => if decide (b.length ≠ 0 ∧ a.length ≤ LIM) then .ok (.tup [.str (Txt.partition a b).1, .str (Txt.partition a b).2.1, .str (Txt.partition a b).2.2]) m else .bad
  | _, _ => .bad
/-- C.f(..), f a classmethod of C; cls(..), cls the class that such a one got -/
def opCm (P : Phi) (C f : Str) (as : List D) : M D := fun m => match P.cl C with
  | some c => match c.cms.lookup f with
    | some k => P.call k (.glb C :: as) m
    | none => .bad
  | none => .bad
def opCmK (P : Phi) (C f : Str) (g : List D → List D → M (List D)) (bs : List D) : M D := fun m => match P.cl C with
  | some c => match c.cms.lookup f with
    | some k => bnd (g [.glb C] bs) (P.call k) m
    | none => .bad
  | none => .bad
def opMv (P : Phi) (d : D) (as : List D) : M D := match d with
  | .glb C => opMk P C as
  | _ => fun _ => .bad
/-- list(range(..)) -/
def rgOk (a b : Int) : Bool := decide (-(2 ^ 62) ≤ a ∧ a < 2 ^ 62 ∧ -(2 ^ 62) ≤ b ∧ b < 2 ^ 62 ∧ (b - a).toNat ≤ LIM)
def rngL (a b : Int) : List D := (List.range (b - a).toNat).map fun k => .int (a + (k : Nat))
def mkRg (mu : Bool) (a b : Int) : M D := fun m => if rgOk a b then (if mu then new (.lst (rngL a b)) m else .ok (.lst (rngL a b)) m) else .bad
def opRg1 (mu : Bool) (x : D) : M D := fun m => match x with
  | .int j => mkRg mu 0 j m
  | _ => .bad
def opRg2 (mu : Bool) (x y : D) : M D := fun m => match x, y with
  | .int i, .int j => mkRg mu i j m
  | _, _ => .bad
/-- x.index(y), of flat values -/
def findD (y : D) : List D → Option Nat
  | [] => none
  | x :: xs => if eqF x y then some 0 else (findD y xs).map (· + 1)
def preT (x : D) : M Unit := fun m => match top m x with
  | .lst _ => .ok () m
  | _ => .bad
def opIdx (x y : D) : M D := fun m => match top m x with
  | .lst xs => if y.flat && xs.all D.flat then (match findD y xs with
      | some k => .ok (.int (k : Nat)) m
      | none => .bad) else .bad
  | _ => .bad
end LC

/-! # LcB: terms of the small language, and what they mean -/
namespace LC
open PySem

inductive T where
  -- values
  | v (k : Nat) | g (x : Str) | bt (x : String) | i (n : Int) | s (x : Str) | b (k : Bool) | n
  | bin (mu : Bool) (o : Operator) (x y : T) | neg (x : T)
  | cmp (o : CmpOp) (x y : T) | chn (o o2 : CmpOp) (x y z : T)
  | an (x y : T) | or (x y : T) | nt (x : T) | ife (c x y : T)
  | tup (es : T) | ls (mu : Bool) (es : T) | ix (x y : T) | sl (mu : Bool) (x lo hi : T) | rv (mu : Bool) (x : T)
  | at (f : Str) (x : T) | fs (es : T) | fv (x : T)
  | lc (mu : Bool) (own : List Nat) (e g it c : T)
  | call (k : Nat) (es : T) | callk (k : Nat) (es : T) (ks : List Str) (ws : T) (pm : List Nat)
  | mk (C : Str) (es : T) | mkk (C : Str) (es : T) (ks : List Str) (ws : T) (pm : List Nat)
  | me (f : Str) (x es : T) | mek (f : Str) (x es : T) (ks : List Str) (ws : T) (pm : List Nat)
  | bi (f : B) (es : T) | ty (f : Ty) (mu : Bool) (es : T) | bm (f : Bm) (x es : T)
  | eo (ne : Bool) (x y : T) | te (ne : Bool) (x y : T) | bo (es : T) | so (es : T)
  | sp (x y : T) | pt (x y : T) | cm (C f : Str) (es : T) | cmk (C f : Str) (ks : List Str) (ws : T) (pm : List Nat) | mv (k : Nat) (es : T)
  | jn (x y : T) | rl (mu : Bool) (x : T) | rl2 (mu : Bool) (x y : T) | li (x y : T)
  -- rows of them
  | nil | cons (x y : T) | star (x y : T)
  -- tests
  | tc (o : CmpOp) (x y : T) | tch (o o2 : CmpOp) (x y z : T) | ta (x y : T) | to (x y : T) | tn (x : T) | tv (x : T)
  -- what is walked
  | itr (es : T) | ite (es : T) | itz (es : T) | itv (x : T)
  -- targets
  | gv (k : Nat) | gt (es : T) | gs (x y : T) | ga (f : Str) (x : T)
  -- statements
  | ret0 | ret (x : T) | ex1 (x : T) | pass | brk | cnt | ifs (c x y : T) | whl (c x : T) | fr (g it x : T) | bad
  | aug (k : Nat) (o : Operator) (x : T) | augs (x y : T) (o : Operator) (z : T) | try1 (x : T)
  | set (k : Nat) (x : T) | setc (k : Nat) (x : T) | par (ks : List Nat) (es : T) | asg (g x : T)

structure Den where
  e : Env → M D := fun _ => LC.bad
  t : Env → M Bool := fun _ => LC.bad
  a : Env → M (List D) := fun _ => LC.bad
  j : Str → Env → M Str := fun _ _ => LC.bad
  q : Env → M Src := fun _ => LC.bad
  g : D → Env → M Env := fun _ _ => LC.bad
  gs : List D → Env → M Env := fun _ _ => LC.bad
  w : List Nat := []
  s : Env → M Flow := fun _ => LC.bad

def getV (k : Nat) (r : Env) : M D := fun m => match r[k]? with
  | some (some d) => .ok d m
  | _ => .bad
def asI (d : D) : M (Option Int) := fun m => match d with
  | .int i => .ok (some i) m
  | _ => .bad
def asS (d : D) : M Str := fun m => match d with
  | .str i => .ok i m
  | _ => .bad
/-- a tuple, a list of these -/
def mkTup (ds : List D) : M D := fun m => if decide (ds.length ≤ LIM) then .ok (.tup ds) m else .bad
def mkLst (mu : Bool) (ds : List D) : M D := fun m => if decide (ds.length ≤ LIM) then (if mu then new (.lst ds) m else .ok (.lst ds) m) else .bad
/-- the items of a starred value -/
def starred (d : D) : M (List D) := fun m => match top m d with
  | .tup xs => .ok xs m
  | .lst xs => .ok xs m
  | _ => .bad
/-- {x} -/
def fmt (d : D) : M D := fun m => match d with
  | .str y => if decide (y.length ≤ LIM) then .ok (.str y) m else .bad
  | .int i => if decide (i.natAbs.log2 < 1920) then .ok (.str (toString i)) m else .bad
  | _ => .bad
def small62 (i : Int) : Bool := decide (-(2 ^ 62) ≤ i ∧ i < 2 ^ 62)
def rangeL (lo hi : Int) : List D := (List.range (hi - lo).toNat).map fun k => .int (lo + (k : Nat))
/-- range(i, j, c) -/
def rgOk3 (i j c : Int) : Bool := decide (c ≠ 0) && decide (c.natAbs < 1073741824) && PySem.Builtin.Range.small i j c && decide (0 ≤ PySem.Builtin.Range.rangeSize i j c)
def rangeC (i j c : Int) : List D := (List.range (PySem.Builtin.Range.rangeSize i j c).toNat).map fun k => .int (i + (k : Nat) * c)
def srcR (as : List D) : M Src := fun m => match as with
  | [.int j] => if small62 j then .ok (.fix (rangeL 0 j)) m else .bad
  | [.int i, .int j] => if small62 i && small62 j then .ok (.fix (rangeL i j)) m else .bad
  | [.int i, .int j, .int c] => if rgOk3 i j c then .ok (.fix (rangeC i j c)) m else .bad
  | _ => .bad
def srcE (as : List D) : M Src := fun m => match as with
  | [.tup xs] => .ok (.fix ((List.range xs.length).zip xs |>.map fun p => .tup [.int (p.1 : Nat), p.2])) m
  | [.lst xs] => .ok (.fix ((List.range xs.length).zip xs |>.map fun p => .tup [.int (p.1 : Nat), p.2])) m
  | _ => .bad
def srcZ (as : List D) : M Src := fun m => match as with
  | [.tup xs, .tup ys] => .ok (.fix ((xs.zip ys).map fun p => .tup [p.1, p.2])) m
  | [.lst xs, .lst ys] => .ok (.fix ((xs.zip ys).map fun p => .tup [p.1, p.2])) m
  | _ => .bad
def srcV (d : D) : M Src := fun m => match d with
  | .tup xs => .ok (.fix xs) m
  | .lst xs => .ok (.fix xs) m
  | .scr ns => .ok (.fix (ns.map .int)) m
  | .str z => .ok (.fix (z.cps.toList.map fun c => .str ⟨#[c]⟩)) m
  | .ref n => match m[n]? with
    | some (.lst _) => .ok (.live n) m
    | _ => .bad
  | _ => .bad

/-- a for: the body for each item -/
def forL (body : D → Env → M Flow) : List D → Env → M Flow
  | [], r => LC.ret (.nx r)
  | d :: ds, r => fun m => match body d r m with
    | .ok (.nx r') m' => forL body ds r' m'
    | .ok (.ct r') m' => forL body ds r' m'
    | .ok (.bk r') m' => .ok (.nx r') m'
    | .ok (.rt x) m' => .ok (.rt x) m'
    | .exc C fs m' => .exc C fs m'
    | .bad => .bad
def forV (body : D → Env → M Flow) (n : Nat) : Nat → Nat → Env → M Flow
  | 0, _, _ => LC.bad
  | w + 1, k, r => fun m => match m[n]? with
    | some (.lst xs) => match xs[k]? with
      | none => .ok (.nx r) m
      | some d => match body d r m with
        | .ok (.nx r') m' => forV body n w (k + 1) r' m'
        | .ok (.ct r') m' => forV body n w (k + 1) r' m'
        | .ok (.bk r') m' => .ok (.nx r') m'
        | .ok (.rt x) m' => .ok (.rt x) m'
        | .exc C fs m' => .exc C fs m'
        | .bad => .bad
    | _ => .bad
def whileM (c : Env → M Bool) (body : Env → M Flow) : Nat → Env → M Flow
  | 0, _ => LC.bad
  | w + 1, r => fun m => match c r m with
    | .ok false m' => .ok (.nx r) m'
    | .ok true m' => match body r m' with
      | .ok (.nx r') m2 => whileM c body w r' m2
      | .ok (.ct r') m2 => whileM c body w r' m2
      | .ok (.bk r') m2 => .ok (.nx r') m2
      | .ok (.rt x) m2 => .ok (.rt x) m2
      | .exc C fs m2 => .exc C fs m2
      | .bad => .bad
    | .exc C fs m' => .exc C fs m'
    | .bad => .bad
/-- a comprehension: each item in an environment of its own -/
def lcL (turn : D → M (Option D)) : List D → List D → M (List D)
  | [], acc => LC.ret acc
  | d :: ds, acc => fun m => match turn d m with
    | .ok none m' => lcL turn ds acc m'
    | .ok (some x) m' => if decide (acc.length < LIM) then lcL turn ds (acc ++ [x]) m' else .bad
    | .exc C fs m' => .bad
    | .bad => .bad
def lcV (turn : D → M (Option D)) (n : Nat) : Nat → Nat → List D → M (List D)
  | 0, _, _ => LC.bad
  | w + 1, k, acc => fun m => match m[n]? with
    | some (.lst xs) => match xs[k]? with
      | none => .ok acc m
      | some d => match turn d m with
        | .ok none m' => lcV turn n w (k + 1) acc m'
        | .ok (some x) m' => if decide (acc.length < LIM) then lcV turn n w (k + 1) (acc ++ [x]) m' else .bad
        | .exc C fs m' => .bad
        | .bad => .bad
    | _ => .bad
def wipeE (r : Env) : List Nat → Env
  | [] => r
  | k :: ks => (wipeE r ks).set k none
/-- the method's def -/
def preMe (P : Phi) (f : Str) (x : D) : M Nat := fun m => match x with
  | .ref n => match m[n]? with
    | some (.ins C fs) => match P.cl C with
      | some c => match c.meths.lookup f with
        | some k => if (fs.lookup f).isNone then .ok k m else .bad
        | none => .bad
      | none => .bad
    | _ => .bad
  | _ => .bad
/-- a list that changes -/
def preL (x : D) : M Unit := fun m => match x with
  | .ref n => match m[n]? with
    | some (.lst _) => .ok () m
    | _ => .bad
  | _ => .bad
/-- a op= b of numbers and texts -/
def opAug (o : Operator) (x y : D) : M D := fun m => match o, x, y with
  | .Add, .int i, .int j => .ok (.int (i + j)) m
  | .Sub, .int i, .int j => .ok (.int (i - j)) m
  | .Add, .str a, .str b => if decide (a.length + b.length ≤ LIM) then .ok (.str (a ++ b)) m else .bad
  | _, _, _ => .bad
/-- the arguments by the parameters' order: n by place, m by name -/
def pick {α : Type} (pm : List Nat) (l : List α) : Option (List α) := pm.mapM fun k => l[k]?
def permK (n m : Nat) (pm : List Nat) (as bs : List D) : M (List D) := fun s => if as.length = n ∧ bs.length = m then (match pick pm (as ++ bs) with
  | some l => .ok l s
  | none => .bad) else .bad
/-- a op= b -/
def setAll : List Nat → List D → Env → M Env
  | [], [], r => LC.ret r
  | k :: ks, d :: ds, r => setAll ks ds (r.set k (some d))
  | _, _, _ => LC.bad
def isGn : T → Bool
  | .gv _ => true
  | _ => false

def seqF (fl : Flow) (k : Env → M Flow) : M Flow := match fl with
  | .nx r => k r
  | .rt d => LC.ret (.rt d)
  | .bk r => LC.ret (.bk r)
  | .ct r => LC.ret (.ct r)
/-- one turn of a comprehension -/
def lcTurn (g : D → Env → M Env) (t : Env → M Bool) (e : Env → M D) (r : Env) (d : D) : M (Option D) :=
  bnd (g d r) fun r2 => bnd (t r2) fun k => if k then bnd (e r2) fun x => LC.ret (some x) else LC.ret none

/-- a comprehension's test, if it has one -/
def ifT (c : T) (t : Env → M Bool) : Env → M Bool := match c with
  | .nil => fun _ => LC.ret true
  | _ => t

def den (P : Phi) : T → Den
  | .v k => { e := getV k }
  | .g x => { e := fun _ => oOut (P.glob.lookup x) }
  | .bt x => { e := fun _ => LC.ret (.ty x) }
  | .i n => { e := fun _ => LC.ret (.int n) }
  | .s x => { e := fun _ => LC.ret (.str x) }
  | .b k => { e := fun _ => LC.ret (.bl k) }
  | .n => { e := fun _ => LC.ret .non }
  | .bin mu o x y => { e := fun r => bnd ((den P x).e r) fun p => bnd ((den P y).e r) fun q => opBin mu o p q }
  | .neg x => { e := fun r => bnd ((den P x).e r) fun p => bnd (asI p) fun k => LC.ret (.int (-(k.getD 0))) }
  | .cmp o x y => { e := fun r => bnd ((den P x).e r) fun p => bnd ((den P y).e r) fun q => opCmp o p q }
  | .chn o o2 x y z => { e := fun r => bnd ((den P x).e r) fun p => bnd ((den P y).e r) fun q => bnd (opCmp o p q) fun c => bnd (asB c) fun k =>
                                        if k then bnd ((den P z).e r) fun u => opCmp o2 q u else LC.ret (.bl false) }
  | .an x y => { e := fun r => bnd ((den P x).e r) fun p => bnd (asB p) fun k => if k then (den P y).e r else LC.ret (.bl false) }
  | .or x y => { e := fun r => bnd ((den P x).e r) fun p => bnd (asB p) fun k => if k then LC.ret (.bl true) else (den P y).e r }
  | .nt x => { e := fun r => bnd ((den P x).e r) fun p => bnd (asB p) fun k => LC.ret (.bl (!k)) }
  | .ife c x y => { e := fun r => bnd ((den P c).t r) fun k => if k then (den P x).e r else (den P y).e r }
  | .tup es => { e := fun r => bnd ((den P es).a r) mkTup }
  | .ls mu es => { e := fun r => bnd ((den P es).a r) (mkLst mu) }
  | .ix x y => { e := fun r => bnd ((den P x).e r) fun p => bnd ((den P y).e r) fun q => opIx p q }
  | .sl mu x lo hi => { e := fun r => bnd ((den P x).e r) fun p =>
                                        bnd (match lo with | .nil => LC.ret none | _ => bnd ((den P lo).e r) asI) fun l =>
                                        bnd (match hi with | .nil => LC.ret none | _ => bnd ((den P hi).e r) asI) fun h => opSl mu p l h }
  | .rv mu x => { e := fun r => bnd ((den P x).e r) (opRv mu) }
  | .at f x => { e := fun r => bnd ((den P x).e r) (opAt P f) }
  | .fs es => { e := fun r => bnd ((den P es).j Str.empty r) fun z => LC.ret (.str z) }
  | .fv x => { e := fun r => bnd ((den P x).e r) fmt }
  | .lc mu own e g it c => { e := fun r => bnd ((den P it).q r) fun q => bnd (match q with
                                        | .fix ds => lcL (lcTurn (den P g).g (ifT c (den P c).t) (den P e).e (wipeE r own)) ds []
                                        | .live n => lcV (lcTurn (den P g).g (ifT c (den P c).t) (den P e).e (wipeE r own)) n P.W 0 []) fun xs => if mu then new (.lst xs) else LC.ret (.lst xs) }
  | .call k es => { e := fun r => bnd ((den P es).a r) fun as => P.call k as }
  | .callk k es ks ws pm => { e := fun r => bnd ((den P es).a r) fun as => bnd ((den P ws).a r) fun bs => bnd (permK (pm.length - ks.length) ks.length pm as bs) (P.call k) }
  | .mk C es => { e := fun r => bnd ((den P es).a r) (opMk P C) }
  | .mkk C es ks ws pm => { e := fun r => bnd ((den P es).a r) fun as => bnd ((den P ws).a r) fun bs => opMkK P C (permK (pm.length - ks.length) ks.length pm) as bs }
  | .eo ne x y => { e := fun r => bnd ((den P x).e r) fun p => bnd ((den P y).e r) fun q => opOwn P ne p q }
  | .te ne x y => { t := fun r => bnd ((den P x).e r) fun p => bnd ((den P y).e r) fun q => bnd (opOwn P ne p q) asB }
  | .bo es => { e := fun r => bnd ((den P es).a r) (tBo P) }
  | .so es => { e := fun r => bnd ((den P es).a r) (tSo P) }
  | .sp x y => { e := fun r => bnd ((den P x).e r) fun p => bnd ((den P y).e r) fun q => opSplit p q }
  | .pt x y => { e := fun r => bnd ((den P x).e r) fun p => bnd ((den P y).e r) fun q => opPart p q }
  | .cm C f es => { e := fun r => bnd ((den P es).a r) (opCm P C f) }
  | .cmk C f ks ws pm => { e := fun r => bnd ((den P ws).a r) (opCmK P C f (permK (pm.length - ks.length) ks.length pm)) }
  | .mv k es => { e := fun r => bnd (getV k r) fun d => bnd ((den P es).a r) (opMv P d) }
  | .me f x es => { e := fun r => bnd ((den P x).e r) fun p => bnd (preMe P f p) fun k => bnd ((den P es).a r) fun as => P.call k (p :: as) }
  | .mek f x es ks ws pm => { e := fun r => bnd ((den P x).e r) fun p => bnd (preMe P f p) fun k => bnd ((den P es).a r) fun as => bnd ((den P ws).a r) fun bs => bnd (permK (pm.length - ks.length) ks.length pm (p :: as) bs) (P.call k) }
  | .bi f es => { e := fun r => bnd ((den P es).a r) (callB P f) }
  | .ty f mu es => { e := fun r => bnd ((den P es).a r) (callT mu f) }
  | .bm f x es => { e := fun r => bnd ((den P x).e r) fun p => bnd (preL p) fun _ => bnd ((den P es).a r) fun as => callM f p as }
  | .jn x y => { e := fun r => bnd ((den P x).e r) fun p => bnd ((den P y).e r) fun q => opJoin p q }
  | .rl mu x => { e := fun r => bnd ((den P x).e r) (opRg1 mu) }
  | .rl2 mu x y => { e := fun r => bnd ((den P x).e r) fun p => bnd ((den P y).e r) fun q => opRg2 mu p q }
  | .li x y => { e := fun r => bnd ((den P x).e r) fun p => bnd (preT p) fun _ => bnd ((den P y).e r) fun q => opIdx p q }
  | .nil => { a := fun _ => LC.ret [], j := fun acc _ => LC.ret acc, s := fun r => LC.ret (.nx r), gs := fun ds r => match ds with | [] => LC.ret r | _ => LC.bad }
  | .cons x y => { a := fun r => bnd ((den P x).e r) fun p => bnd ((den P y).a r) fun q => LC.ret (p :: q),
                   j := fun acc r => bnd ((den P x).e r) fun p => bnd (asS p) fun z => if decide ((acc ++ z).length ≤ LIM) then (den P y).j (acc ++ z) r else LC.bad,
                   s := fun r => bnd ((den P x).s r) fun fl => seqF fl (den P y).s,
                   gs := fun ds r => match ds with | d :: ds => bnd ((den P x).g d r) (fun r' => (den P y).gs ds r') | [] => LC.bad,
                   w := (den P x).w ++ (den P y).w }
  | .star x y => { a := fun r => bnd ((den P x).e r) fun p => bnd (starred p) fun l => bnd ((den P y).a r) fun q => LC.ret (l ++ q) }
  | .tc o x y => { t := fun r => bnd ((den P x).e r) fun p => bnd ((den P y).e r) fun q => bnd (opCmp o p q) asB }
  | .tch o o2 x y z => { t := fun r => bnd ((den P x).e r) fun p => bnd ((den P y).e r) fun q => bnd (opCmp o p q) fun c => bnd (asB c) fun k =>
                                        if k then bnd ((den P z).e r) fun u => bnd (opCmp o2 q u) asB else LC.ret false }
  | .ta x y => { t := fun r => bnd ((den P x).t r) fun k => if k then (den P y).t r else LC.ret false }
  | .to x y => { t := fun r => bnd ((den P x).t r) fun k => if k then LC.ret true else (den P y).t r }
  | .tn x => { t := fun r => bnd ((den P x).t r) fun k => LC.ret (!k) }
  | .tv x => { t := fun r => bnd ((den P x).e r) tru }
  | .itr es => { q := fun r => bnd ((den P es).a r) srcR }
  | .ite es => { q := fun r => bnd ((den P es).a r) srcE }
  | .itz es => { q := fun r => bnd ((den P es).a r) srcZ }
  | .itv x => { q := fun r => bnd ((den P x).e r) srcV }
  | .gv k => { g := fun d r => LC.ret (r.set k (some d)), w := [k] }
  | .gt es => { g := fun d r => match d with | .tup xs => (den P es).gs xs r | _ => LC.bad, w := (den P es).w }
  | .gs x y => { g := fun d r => bnd ((den P x).e r) fun p => bnd ((den P y).e r) fun q => bnd (opSet p q d) fun _ => LC.ret r }
  | .ga f x => { g := fun d r => bnd ((den P x).e r) fun p => bnd (opFld P f p d) fun _ => LC.ret r }
  | .ret0 => { s := fun _ => LC.ret (.rt .non) }
  | .ret x => { s := fun r => bnd ((den P x).e r) fun p => LC.ret (.rt p) }
  | .ex1 x => { s := fun r => bnd ((den P x).e r) fun _ => LC.ret (.nx r) }
  | .pass => { s := fun r => LC.ret (.nx r) }
  | .brk => { s := fun r => LC.ret (.bk r) }
  | .cnt => { s := fun r => LC.ret (.ct r) }
  | .ifs c x y => { s := fun r => bnd ((den P c).t r) fun k => if k then (den P x).s r else (den P y).s r }
  | .whl c x => { s := fun r => whileM (den P c).t (den P x).s P.W r }
  | .fr g it x => { s := fun r => bnd ((den P it).q r) fun q => match q with
                                        | .fix ds => forL (fun d r => bnd ((den P g).g d r) fun r2 => (den P x).s r2) ds r
                                        | .live n => forV (fun d r => bnd ((den P g).g d r) fun r2 => (den P x).s r2) n P.W 0 r }
  | .bad => {}
  | .aug k o x => { s := fun r => bnd (getV k r) fun p => bnd ((den P x).e r) fun q => bnd (opAug o p q) fun z => LC.ret (.nx (r.set k (some z))) }
  | .augs x y o z => { s := fun r => bnd ((den P x).e r) fun p => bnd ((den P y).e r) fun q => bnd (opGet p q) fun u => bnd ((den P z).e r) fun w => bnd (opAug o u w) fun h => bnd (opSet p q h) fun _ => LC.ret (.nx r) }
  | .try1 x => { s := fun r m => match (den P x).s r m with | .exc _ _ _ => .bad | o => o }
  | .set k x => { s := fun r => bnd ((den P x).e r) fun p => LC.ret (.nx (r.set k (some p))) }
  | .setc k x => { s := fun r => bnd ((den P x).e r) fun p => LC.ret (.nx (r.set k (some p))) }
  | .par ks es => { s := fun r => bnd ((den P es).a r) fun ds => bnd (setAll ks ds r) fun r' => LC.ret (.nx r') }
  | .asg g x => { s := fun r => bnd ((den P x).e r) fun p => bnd ((den P g).g p r) fun r' => LC.ret (.nx r') }

/-- a def: how many parameters, how many names, its body -/
structure DefI where
  np : Nat
  ns : Nat
  body : T
def runDef (P : Phi) (d : DefI) (as : List D) : M D := fun m =>
  if as.length = d.np then match (den P d.body).s (as.map some ++ List.replicate (d.ns - d.np) none) m with
    | .ok (.nx _) m' => .ok .non m'
    | .ok (.rt x) m' => .ok x m'
    | .ok _ _ => .bad
    | .exc C fs m' => .exc C fs m'
    | .bad => .bad
  else .bad
structure Prog where
  defs : List DefI
  cls : List Cls
  glob : List (Str × D)
  W : Nat
/-- the program, so many calls deep -/
def callD (G : Prog) : Nat → Nat → List D → M D
  | 0, _, _ => LC.bad
  | n + 1, k, as => match G.defs[k]? with
    | some d => runDef ⟨callD G n, G.W, G.cls, G.glob⟩ d as
    | none => LC.bad
def phi (G : Prog) (n : Nat) : Phi := ⟨callD G n, G.W, G.cls, G.glob⟩
end LC

/-! # LcC: how values and the store stand in the model's heap -/
namespace LC
open PySem PySem.Spec PyProof.Rows L2

/-- a list of ints that is only read: known to the object, or of the written part -/
def SqRead (K : PySem.W.Frag) (H : Hp) (a : Addr) (xs : List V) : Prop :=
  (∃ o, H a = some (.frz o (.lst xs))) ∨
    ∃ (o : Obj) (its : Array Value) (n : Nat), K.lookup a = some o ∧ o.cls = .type "list" ∧ o.dict = none ∧ o.data = .seq its n ∧ its.size ≤ sizeLine ∧ Vals xs its.toList
theorem SqRead.sq {K : PySem.W.Frag} {H : Hp} {a : Addr} {xs : List V} (h : SqRead K H a xs) : SqL K H a xs := by
  rcases h with h | h
  · exact .inl (.inr h)
  · exact .inr h

/-- where the places of the store lie, and lists that are being made -/
structure Pl where
  f : Nat → Addr
  z : Addr → Prop
instance : CoeFun Pl fun _ => Nat → Addr := ⟨Pl.f⟩
section
variable (K : PySem.W.Frag) (mg : Str → Option Value) (io : Pl) (N : Nat) (H : Hp)
/-- no place, no list that is being made -/
def Nowhere (a : Addr) : Prop := (∀ n, n < N → a ≠ io n) ∧ ¬ io.z a
mutual
def RepV : D → V → Prop
  | .non, v => v = .non
  | .bl b, v => v = .bl b
  | .int i, v => v = .int i
  | .str s, v => v = .str s
  | .tup ds, v => ∃ a vs, v = .ref a ∧ SqT K H a vs ∧ RepVs ds vs
  | .lst ds, v => ∃ a vs, v = .ref a ∧ H a = some (.lst vs) ∧ Nowhere io N a ∧ RepVs ds vs
  | .scr ns, v => ∃ a, v = .ref a ∧ SqRead K H a (ns.map V.int)
  | .ref n, v => n < N ∧ v = .ref (io n)
  | .glb x, v => ∃ a, mg x = some (.ref a) ∧ v = .ref a
  | .ty n, v => v = .ty n
def RepVs : List D → List V → Prop
  | [], vs => vs = []
  | d :: ds, vs => ∃ v r, vs = v :: r ∧ RepV d v ∧ RepVs ds r
end
def RepF : List (Str × D) → List (Str × V) → Prop
  | [], l => l = []
  | p :: ps, l => ∃ v r, l = (p.1, v) :: r ∧ RepV K mg io N H p.2 v ∧ RepF ps r
def RepO (a : Addr) : Ob → Prop
  | .lst ds => ∃ vs, H a = some (.lst vs) ∧ RepVs K mg io N H ds vs
  | .ins C fs => ∃ Ca dx fvs, mg C = some (.ref Ca) ∧ H a = some (.ins Ca dx fvs) ∧ RepF K mg io N H fs fvs
end

structure ExtW (io : Pl) (N : Nat) (H : Hp) (io' : Pl) (N' : Nat) (H' : Hp) : Prop where
  le : N ≤ N'
  ag : ∀ n, n < N → io' n = io n
  fr : ∀ n, N ≤ n → n < N' → H (io' n) = none
  kp : ∀ a o, H a = some o → Nowhere io N a → H' a = some o
  zf : ∀ a, io'.z a → io.z a ∨ H a = none
structure Ext (io : Pl) (N : Nat) (H : Hp) (io' : Pl) (N' : Nat) (H' : Hp) : Prop extends ExtW io N H io' N' H' where
  th : ∀ n, n < N → H (io n) ≠ none → H' (io n) ≠ none
  kz : ∀ a, io.z a → H a ≠ none → H' a = H a
  zz : io'.z = io.z

section
variable {K : PySem.W.Frag} {mg : Str → Option Value} {io io' io2 : Pl} {N N' N2 : Nat} {H H' H2 : Hp} {m m' : Sto}
theorem Ext.refl : Ext io N H io N H := ⟨⟨Nat.le_refl _, fun _ _ => rfl, fun n a b => absurd a (by omega), fun _ _ e _ => e, fun _ z => .inl z⟩, fun _ _ e => e, fun _ _ _ => rfl, rfl⟩
theorem Ext.trans (x : Ext io N H io' N' H') (y : Ext io' N' H' io2 N2 H2) : Ext io N H io2 N2 H2 where
  le := Nat.le_trans x.le y.le
  ag := fun n h => (y.ag n (by have := x.le; omega)).trans (x.ag n h)
  fr := fun n h1 h2 => by
    by_cases hn : n < N'
    · rw [y.ag n hn]; exact x.fr n h1 hn
    · have z := y.fr n (by omega) h2
      cases e : H (io2 n) with
      | none => rfl
      | some o =>
        by_cases hm : ∃ k, k < N ∧ io2 n = io k
        · obtain ⟨k, hk, ek⟩ := hm
          have t := x.th k hk (by rw [← ek, e]; simp)
          rw [← ek] at t; exact absurd z t
        · by_cases hz : io.z (io2 n)
          · have q := x.kz _ hz (by rw [e]; simp)
            rw [q, e] at z; cases z
          · have q := x.kp _ _ e ⟨fun k hk ek => hm ⟨k, hk, ek⟩, hz⟩
            rw [q] at z; cases z
  zz := y.zz.trans x.zz
  zf := fun a z => .inl (by rw [← x.zz, ← y.zz]; exact z)
  kz := fun a h e => by
    have e1 := x.kz a h e
    exact (y.kz a (by rw [x.zz]; exact h) (by rw [e1]; exact e)).trans e1
  kp := fun a o e h => y.kp a o (x.kp a o e h) ⟨(fun n hn en => by
    by_cases hm : n < N
    · exact h.1 n hm (en.trans (x.ag n hm))
    · have z := x.fr n (by omega) hn
      rw [← en, e] at z; cases z), (by rw [x.zz]; exact h.2)⟩
  th := fun n h e => by
    have z := x.th n h e
    have y' := y.th n (by have := x.le; omega)
    rw [x.ag n h] at y'
    exact y' z

structure SRel (K : PySem.W.Frag) (mg : Str → Option Value) (io : Pl) (m : Sto) (H : Hp) : Prop where
  inj : ∀ j k, j < m.length → k < m.length → io j = io k → j = k
  ob : ∀ k o, m[k]? = some o → RepO K mg io m.length H (io k) o
  zl : ∀ a, io.z a → ∃ vs, H a = some (.lst vs)
  zn : ∀ n, n < m.length → ¬ io.z (io n)

/-- what stands at a place is a list or an instance -/
theorem SRel.at (S : SRel K mg io m H) {n : Nat} (h : n < m.length) : (∃ vs, H (io n) = some (.lst vs)) ∨ ∃ C dx fs, H (io n) = some (.ins C dx fs) := by
  have r := S.ob n m[n] (List.getElem?_eq_getElem h)
  cases e : m[n] with
  | lst ds => rw [e] at r; obtain ⟨vs, h1, _⟩ := r; exact .inl ⟨vs, h1⟩
  | ins C fs => rw [e] at r; obtain ⟨Ca, dx, fvs, _, h1, _⟩ := r; exact .inr ⟨Ca, dx, fvs, h1⟩
def isPl : HO → Bool
  | .lst _ => true
  | .ins _ _ _ => true
  | _ => false
theorem SRel.ne_tup (S : SRel K mg io m H) {a : Addr} {u : HO} (h : H a = some u) (hu : isPl u = false) : Nowhere io m.length a := by
 refine ⟨fun n hn e => ?_, fun hz => ?_⟩
 rotate_left
 · obtain ⟨vs, q⟩ := S.zl a hz
   rw [h] at q
   rw [Option.some.inj q] at hu
   exact absurd hu (by simp [isPl])
 · rcases S.at hn with ⟨vs, q⟩ | ⟨C, dx, fs, q⟩
   · rw [← e, h] at q
     rw [Option.some.inj q] at hu
     exact absurd hu (by simp [isPl])
   · rw [← e, h] at q
     rw [Option.some.inj q] at hu
     exact absurd hu (by simp [isPl])
theorem SRel.some (S : SRel K mg io m H) {n : Nat} (h : n < m.length) : H (io n) ≠ none := by
  rcases S.at h with ⟨vs, q⟩ | ⟨C, dx, fs, q⟩ <;> (rw [q]; simp)

theorem SqT.keepW (S : SRel K mg io m H) (x : ExtW io m.length H io' N' H') {a : Addr} {vs : List V} (h : SqT K H a vs) : SqT K H' a vs := by
  rcases h with (h | ⟨o, h⟩) | h
  · exact .inl (.inl (x.kp _ _ h (S.ne_tup h rfl)))
  · exact .inl (.inr ⟨o, x.kp _ _ h (S.ne_tup h rfl)⟩)
  · exact .inr h
theorem SqRead.keepW (S : SRel K mg io m H) (x : ExtW io m.length H io' N' H') {a : Addr} {vs : List V} (h : SqRead K H a vs) : SqRead K H' a vs := by
  rcases h with ⟨o, h⟩ | h
  · exact .inl ⟨o, x.kp _ _ h (S.ne_tup h rfl)⟩
  · exact .inr h
mutual
theorem RepV.keepW (S : SRel K mg io m H) (x : ExtW io m.length H io' N' H') : ∀ (d : D) (v : V), RepV K mg io m.length H d v → RepV K mg io' N' H' d v
  | .non, v, h => h
  | .bl b, v, h => h
  | .int i, v, h => h
  | .str s, v, h => h
  | .tup ds, v, h => by
    obtain ⟨a, vs, e, q, r⟩ := h
    exact ⟨a, vs, e, SqT.keepW S x q, RepVs.keepW S x ds vs r⟩
  | .lst ds, v, h => by
    obtain ⟨a, vs, e, q, ne, r⟩ := h
    refine ⟨a, vs, e, x.kp _ _ q ne, ⟨fun n hn en => ?_, fun hz => (x.zf a hz).elim ne.2 fun w => by rw [q] at w; cases w⟩, RepVs.keepW S x ds vs r⟩
    by_cases hm : n < m.length
    · exact ne.1 n hm (en.trans (x.ag n hm))
    · have z := x.fr n (by omega) hn
      rw [← en, q] at z; cases z
  | .scr ns, v, h => by
    obtain ⟨a, e, q⟩ := h
    exact ⟨a, e, SqRead.keepW S x q⟩
  | .ref n, v, h => by
    obtain ⟨hn, e⟩ := h
    exact ⟨Nat.lt_of_lt_of_le hn x.le, by rw [x.ag n hn]; exact e⟩
  | .glb y, v, h => h
  | .ty n, v, h => h
theorem RepVs.keepW (S : SRel K mg io m H) (x : ExtW io m.length H io' N' H') : ∀ (ds : List D) (vs : List V), RepVs K mg io m.length H ds vs → RepVs K mg io' N' H' ds vs
  | [], vs, h => h
  | d :: ds, vs, h => by
    obtain ⟨v, r, e, h1, h2⟩ := h
    exact ⟨v, r, e, RepV.keepW S x d v h1, RepVs.keepW S x ds r h2⟩
end
theorem RepF.keepW (S : SRel K mg io m H) (x : ExtW io m.length H io' N' H') : ∀ (ds : List (Str × D)) (vs : List (Str × V)), RepF K mg io m.length H ds vs → RepF K mg io' N' H' ds vs
  | [], vs, h => h
  | p :: ds, vs, h => by
    obtain ⟨v, r, e, h1, h2⟩ := h
    exact ⟨v, r, e, RepV.keepW S x _ v h1, RepF.keepW S x ds r h2⟩

theorem SqT.keep (S : SRel K mg io m H) (x : Ext io m.length H io' N' H') {a : Addr} {vs : List V} (h : SqT K H a vs) : SqT K H' a vs := SqT.keepW S x.toExtW h
theorem RepV.keep (S : SRel K mg io m H) (x : Ext io m.length H io' N' H') (d : D) (v : V) (h : RepV K mg io m.length H d v) : RepV K mg io' N' H' d v := RepV.keepW S x.toExtW d v h
theorem RepVs.keep (S : SRel K mg io m H) (x : Ext io m.length H io' N' H') (d : List D) (v : List V) (h : RepVs K mg io m.length H d v) : RepVs K mg io' N' H' d v := RepVs.keepW S x.toExtW d v h
theorem RepF.keep (S : SRel K mg io m H) (x : Ext io m.length H io' N' H') (d : List (Str × D)) (v : List (Str × V)) (h : RepF K mg io m.length H d v) : RepF K mg io' N' H' d v := RepF.keepW S x.toExtW d v h

/-! ### lists of values -/
theorem RepVs.length : ∀ {ds : List D} {vs : List V}, RepVs K mg io N H ds vs → ds.length = vs.length
  | [], vs, h => by cases (show vs = [] from h); rfl
  | d :: ds, vs, h => by
    obtain ⟨v, r, e, _, h2⟩ := h
    rw [e, List.length_cons, List.length_cons, RepVs.length h2]
theorem RepVs.get : ∀ {ds : List D} {vs : List V} {k : Nat} {d : D}, RepVs K mg io N H ds vs → ds[k]? = some d → ∃ v, vs[k]? = some v ∧ RepV K mg io N H d v
  | [], _, _, _, _, e => by simp at e
  | d :: ds, vs, 0, d', h, e => by
    obtain ⟨v, r, rfl, h1, _⟩ := h
    simp at e; subst e; exact ⟨v, rfl, h1⟩
  | d :: ds, vs, k + 1, d', h, e => by
    obtain ⟨v, r, rfl, _, h2⟩ := h
    obtain ⟨u, e1, r1⟩ := RepVs.get (k := k) h2 (by simpa using e)
    exact ⟨u, by simpa using e1, r1⟩
theorem RepVs.getV : ∀ {ds : List D} {vs : List V} {k : Nat} {v : V}, RepVs K mg io N H ds vs → vs[k]? = some v → ∃ d, ds[k]? = some d ∧ RepV K mg io N H d v := fun {ds vs k v} h e => by
  have hk : k < vs.length := (List.getElem?_eq_some_iff.mp e).1
  rw [← h.length] at hk
  obtain ⟨u, e1, r1⟩ := h.get (List.getElem?_eq_getElem hk)
  rw [e] at e1; cases e1
  exact ⟨_, List.getElem?_eq_getElem hk, r1⟩
theorem RepVs.none {ds : List D} {vs : List V} {k : Nat} (h : RepVs K mg io N H ds vs) (e : ds[k]? = none) : vs.length ≤ k := by
  rw [← h.length]; exact List.getElem?_eq_none_iff.mp e
theorem RepVs.append : ∀ {ds es : List D} {vs us : List V}, RepVs K mg io N H ds vs → RepVs K mg io N H es us → RepVs K mg io N H (ds ++ es) (vs ++ us)
  | [], es, vs, us, h, q => by rw [show vs = [] from h]; exact q
  | d :: ds, es, vs, us, h, q => by
    obtain ⟨v, r, rfl, h1, h2⟩ := h
    exact ⟨v, r ++ us, rfl, h1, RepVs.append h2 q⟩
theorem RepVs.take : ∀ {ds : List D} {vs : List V} (k : Nat), RepVs K mg io N H ds vs → RepVs K mg io N H (ds.take k) (vs.take k)
  | ds, vs, 0, _ => by simp [RepVs]
  | [], vs, k + 1, h => by cases (show vs = [] from h); rfl
  | d :: ds, vs, k + 1, h => by
    obtain ⟨v, r, rfl, h1, h2⟩ := h
    exact ⟨v, r.take k, rfl, h1, RepVs.take k h2⟩
theorem RepVs.drop : ∀ {ds : List D} {vs : List V} (k : Nat), RepVs K mg io N H ds vs → RepVs K mg io N H (ds.drop k) (vs.drop k)
  | ds, vs, 0, h => h
  | [], vs, k + 1, h => by cases (show vs = [] from h); rfl
  | d :: ds, vs, k + 1, h => by
    obtain ⟨v, r, rfl, h1, h2⟩ := h
    exact RepVs.drop k h2
theorem RepVs.set : ∀ {ds : List D} {vs : List V} {d : D} {v : V} (k : Nat), RepV K mg io N H d v → RepVs K mg io N H ds vs → RepVs K mg io N H (ds.set k d) (vs.set k v)
  | [], vs, d, v, k, _, h => by cases (show vs = [] from h); rfl
  | d' :: ds, vs, d, v, 0, q, h => by
    obtain ⟨v', r, rfl, h1, h2⟩ := h
    exact ⟨v, r, rfl, q, h2⟩
  | d' :: ds, vs, d, v, k + 1, q, h => by
    obtain ⟨v', r, rfl, h1, h2⟩ := h
    exact ⟨v', r.set k v, rfl, h1, RepVs.set k q h2⟩
theorem RepVs.reverse {ds : List D} {vs : List V} (h : RepVs K mg io N H ds vs) : RepVs K mg io N H ds.reverse vs.reverse := by
  induction ds generalizing vs with
  | nil => cases (show vs = [] from h); rfl
  | cons d ds ih =>
    obtain ⟨v, r, rfl, h1, h2⟩ := h
    rw [List.reverse_cons, List.reverse_cons]
    exact RepVs.append (ih h2) ⟨v, [], rfl, h1, rfl⟩
theorem RepVs.replicate {ds : List D} {vs : List V} (h : RepVs K mg io N H ds vs) : ∀ k : Nat, RepVs K mg io N H (List.replicate k ds).flatten (List.replicate k vs).flatten
  | 0 => rfl
  | k + 1 => by
    rw [List.replicate_succ, List.replicate_succ, List.flatten_cons, List.flatten_cons]
    exact RepVs.append h (RepVs.replicate h k)
theorem RepVs.ints : ∀ ns : List Int, RepVs K mg io N H (ns.map D.int) (ns.map V.int)
  | [] => rfl
  | n :: ns => ⟨.int n, ns.map V.int, rfl, rfl, RepVs.ints ns⟩

theorem RepF.look : ∀ {fs : List (Str × D)} {vs : List (Str × V)} {f : Str} {d : D}, RepF K mg io N H fs vs → fs.lookup f = some d → ∃ v, vs.lookup f = some v ∧ RepV K mg io N H d v
  | [], _, _, _, _, e => by simp at e
  | (g, d') :: fs, vs, f, d, h, e => by
    obtain ⟨v, r, rfl, h1, h2⟩ := h
    simp only [List.lookup_cons] at e ⊢
    cases hb : f == g with
    | true => simp only [hb] at e ⊢; cases e; exact ⟨v, rfl, h1⟩
    | false => simp only [hb] at e ⊢; exact RepF.look h2 e
theorem RepF.none : ∀ {fs : List (Str × D)} {vs : List (Str × V)} {f : Str}, RepF K mg io N H fs vs → fs.lookup f = none → vs.lookup f = none
  | [], vs, _, h, _ => by cases (show vs = [] from h); rfl
  | (g, d') :: fs, vs, f, h, e => by
    obtain ⟨v, r, rfl, h1, h2⟩ := h
    simp only [List.lookup_cons] at e ⊢
    cases hb : f == g with
    | true => simp only [hb] at e; cases e
    | false => simp only [hb] at e ⊢; exact RepF.none h2 e
theorem RepF.length : ∀ {ds : List (Str × D)} {vs : List (Str × V)}, RepF K mg io N H ds vs → ds.length = vs.length
  | [], vs, h => by cases (show vs = [] from h); rfl
  | d :: ds, vs, h => by
    obtain ⟨v, r, e, _, h2⟩ := h
    rw [e, List.length_cons, List.length_cons, RepF.length h2]
theorem RepF.put : ∀ {fs : List (Str × D)} {vs : List (Str × V)} {f : Str} {d : D} {v : V}, RepV K mg io N H d v → RepF K mg io N H fs vs → RepF K mg io N H (putF f d fs) (L2.putF f v vs)
  | [], vs, f, d, v, q, h => by cases (show vs = [] from h); exact ⟨v, [], rfl, q, rfl⟩
  | (g, d') :: fs, vs, f, d, v, q, h => by
    obtain ⟨v', r, rfl, h1, h2⟩ := h
    unfold putF L2.putF
    by_cases hg : g = f
    · rw [if_pos hg, if_pos hg]; exact ⟨v, r, rfl, q, h2⟩
    · rw [if_neg hg, if_neg hg]; exact ⟨v', _, rfl, h1, RepF.put q h2⟩

/-! ### a new object, a changed object -/
theorem Ext.new {p : Addr} {o : HO} (h : H p = none) : Ext io N H io N (upd H p o) :=
  ⟨⟨Nat.le_refl _, fun _ _ => rfl, fun n a b => absurd a (by omega), fun a u e _ => by rw [upd_ne (ne_of_none e h)]; exact e, fun _ z => .inl z⟩, fun n _ e => by
    by_cases z : io n = p
    · rw [z, upd_same]; simp
    · rw [upd_ne z]; exact e, fun a _ e => upd_ne fun z => e (by rw [z]; exact h), rfl⟩
theorem SRel.keep (S : SRel K mg io m H) (x : Ext io m.length H io m.length H') (h : ∀ n, n < m.length → H' (io n) = H (io n)) : SRel K mg io m H' where
  inj := S.inj
  ob := fun k o e => by
    have hk : k < m.length := (List.getElem?_eq_some_iff.mp e).1
    have r := S.ob k o e
    cases o with
    | lst ds => obtain ⟨vs, h1, h2⟩ := r; exact ⟨vs, by rw [h k hk]; exact h1, RepVs.keep S x _ _ h2⟩
    | ins C fs => obtain ⟨Ca, dx, fvs, h0, h1, h2⟩ := r; exact ⟨Ca, dx, fvs, h0, by rw [h k hk]; exact h1, RepF.keep S x _ _ h2⟩
  zl := fun a hz => by
    obtain ⟨vs, e⟩ := S.zl a hz
    exact ⟨vs, by rw [x.kz a hz (by rw [e]; simp)]; exact e⟩
  zn := S.zn
theorem SRel.new {p : Addr} {o : HO} (S : SRel K mg io m H) (h : H p = none) : SRel K mg io m (upd H p o) :=
  S.keep (Ext.new h) fun n hn => upd_ne fun e => S.some hn (by rw [e]; exact h)
/-- a new place of the store -/
def ioN (io : Pl) (N : Nat) (p : Addr) : Pl := ⟨fun n => if n = N then p else io n, io.z⟩
theorem ioN_lt {p : Addr} {n : Nat} (h : n < N) : ioN io N p n = io n := if_neg (by omega)
theorem ioN_eq {p : Addr} : ioN io N p N = p := if_pos rfl
theorem Ext.place {p : Addr} {o : HO} (h : H p = none) : Ext io N H (ioN io N p) (N + 1) (upd H p o) where
  le := Nat.le_succ _
  ag := fun n hn => ioN_lt hn
  fr := fun n h1 h2 => by
    have e : n = N := by omega
    subst e
    rw [ioN_eq]; exact h
  kp := fun a u e _ => by rw [upd_ne (ne_of_none e h)]; exact e
  zz := rfl
  zf := fun _ z => .inl z
  th := fun n _ e => by
    by_cases z : io n = p
    · rw [z, upd_same]; simp
    · rw [upd_ne z]; exact e
  kz := fun a _ e => upd_ne fun z => e (by rw [z]; exact h)
theorem RepO.keep (S : SRel K mg io m H) (x : ExtW io m.length H io' N' H') {a : Addr} {o : Ob} (h : RepO K mg io m.length H a o) (ha : H' a = H a) : RepO K mg io' N' H' a o := by
  cases o with
  | lst ds => obtain ⟨vs, h1, h2⟩ := h; exact ⟨vs, ha.trans h1, RepVs.keepW S x _ _ h2⟩
  | ins C fs => obtain ⟨Ca, dx, fvs, h0, h1, h2⟩ := h; exact ⟨Ca, dx, fvs, h0, ha.trans h1, RepF.keepW S x _ _ h2⟩
theorem SRel.place {p : Addr} {u : HO} {o : Ob} (S : SRel K mg io m H) (h : H p = none) (r : RepO K mg (ioN io m.length p) (m.length + 1) (upd H p u) p o) : SRel K mg (ioN io m.length p) (m ++ [o]) (upd H p u) where
  inj := fun j k hj hk e => by
    rw [List.length_append, List.length_singleton] at hj hk
    have old : ∀ n, n < m.length → io n ≠ p := fun n hn z => S.some hn (by rw [z]; exact h)
    by_cases h1 : j < m.length
    · rw [ioN_lt h1] at e
      by_cases h2 : k < m.length
      · rw [ioN_lt h2] at e; exact S.inj j k h1 h2 e
      · have e2 : k = m.length := by omega
        subst e2
        rw [ioN_eq] at e; exact absurd e (old j h1)
    · have e1 : j = m.length := by omega
      subst e1
      rw [ioN_eq] at e
      by_cases h2 : k < m.length
      · rw [ioN_lt h2] at e; exact absurd e.symm (old k h2)
      · omega
  ob := fun k o' e => by
    rw [List.length_append, List.length_singleton]
    by_cases hk : k < m.length
    · rw [List.getElem?_append_left hk] at e
      rw [ioN_lt hk]
      exact RepO.keep S (Ext.place h).toExtW (S.ob k o' e) (upd_ne fun z => S.some hk (by rw [z]; exact h))
    · have hl : k < (m ++ [o]).length := (List.getElem?_eq_some_iff.mp e).1
      rw [List.length_append, List.length_singleton] at hl
      have ek : k = m.length := by omega
      subst ek
      rw [List.getElem?_append_right (Nat.le_refl _), Nat.sub_self] at e
      have e' : o = o' := Option.some.inj e
      subst e'
      rw [ioN_eq]; exact r
  zl := fun a hz => by
    obtain ⟨vs, e⟩ := S.zl a hz
    exact ⟨vs, by rw [upd_ne (ne_of_none e h)]; exact e⟩
  zn := fun n hn hz => by
    rw [List.length_append, List.length_singleton] at hn
    by_cases hk : n < m.length
    · rw [ioN_lt hk] at hz; exact S.zn n hk hz
    · have ek : n = m.length := by omega
      subst ek
      rw [ioN_eq] at hz
      obtain ⟨vs, e⟩ := S.zl _ hz
      rw [h] at e; cases e
/-- the object at a place is changed -/
theorem Ext.write {n : Nat} {u : HO} (S : SRel K mg io m H) (hn : n < m.length) : Ext io m.length H io m.length (upd H (io n) u) :=
  ⟨⟨Nat.le_refl _, fun _ _ => rfl, fun n a b => absurd a (by omega), fun a u e h => by rw [upd_ne (h.1 n hn)]; exact e, fun _ z => .inl z⟩, fun k _ e => by
    by_cases z : io k = io n
    · rw [z, upd_same]; simp
    · rw [upd_ne z]; exact e, fun a hz _ => upd_ne fun e => S.zn n hn (by rw [← e]; exact hz), rfl⟩
theorem SRel.write {n : Nat} {u : HO} {o : Ob} (S : SRel K mg io m H) (hn : n < m.length) (r : RepO K mg io m.length (upd H (io n) u) (io n) o) : SRel K mg io (m.set n o) (upd H (io n) u) where
  inj := fun j k hj hk e => by
    rw [List.length_set] at hj hk
    exact S.inj j k hj hk e
  ob := fun k o' e => by
    rw [List.length_set]
    by_cases hk : k = n
    · subst hk
      rw [List.getElem?_set_self hn] at e
      cases e; exact r
    · rw [List.getElem?_set_ne (Ne.symm hk)] at e
      have hl : k < m.length := (List.getElem?_eq_some_iff.mp e).1
      exact RepO.keep S (Ext.write S hn).toExtW (S.ob k o' e) (upd_ne fun z => hk (S.inj k n hl hn z))
  zl := fun a hz => by
    obtain ⟨vs, e⟩ := S.zl a hz
    exact ⟨vs, by rw [(Ext.write S hn).kz a hz (by rw [e]; simp)]; exact e⟩
  zn := fun k hk => S.zn k (by rw [List.length_set] at hk; exact hk)

/-! ### a list that is being made: it is no place, no value knows it -/
def hide (io : Pl) (p : Addr) : Pl := ⟨io.f, fun a => io.z a ∨ a = p⟩
def bare (io : Pl) (z : Addr → Prop) : Pl := ⟨io.f, z⟩
theorem SqT.hide {p a : Addr} {u : HO} {vs : List V} (h : H p = none) (q : SqT K H a vs) : SqT K (upd H p u) a vs := by
  rcases q with (q | ⟨o, q⟩) | q
  · exact .inl (.inl (by rw [upd_ne (ne_of_none q h)]; exact q))
  · exact .inl (.inr ⟨o, by rw [upd_ne (ne_of_none q h)]; exact q⟩)
  · exact .inr q
theorem SqRead.hide {p a : Addr} {u : HO} {vs : List V} (h : H p = none) (q : SqRead K H a vs) : SqRead K (upd H p u) a vs := by
  rcases q with ⟨o, q⟩ | q
  · exact .inl ⟨o, by rw [upd_ne (ne_of_none q h)]; exact q⟩
  · exact .inr q
mutual
theorem RepV.hide {p : Addr} {u : HO} (h : H p = none) : ∀ (d : D) (v : V), RepV K mg io N H d v → RepV K mg (hide io p) N (upd H p u) d v
  | .non, v, r => r
  | .bl b, v, r => r
  | .int i, v, r => r
  | .str s, v, r => r
  | .tup ds, v, r => by
    obtain ⟨a, vs, e, q, r⟩ := r
    exact ⟨a, vs, e, SqT.hide h q, RepVs.hide h ds vs r⟩
  | .lst ds, v, r => by
    obtain ⟨a, vs, e, q, ne, r⟩ := r
    have nd : a ≠ p := ne_of_none q h
    exact ⟨a, vs, e, by rw [upd_ne nd]; exact q, ⟨ne.1, fun z => z.elim ne.2 nd⟩, RepVs.hide h ds vs r⟩
  | .scr ns, v, r => by
    obtain ⟨a, e, q⟩ := r
    exact ⟨a, e, SqRead.hide h q⟩
  | .ref n, v, r => r
  | .glb y, v, r => r
  | .ty n, v, r => r
theorem RepVs.hide {p : Addr} {u : HO} (h : H p = none) : ∀ (ds : List D) (vs : List V), RepVs K mg io N H ds vs → RepVs K mg (LC.hide io p) N (upd H p u) ds vs
  | [], vs, r => r
  | d :: ds, vs, r => by
    obtain ⟨v, q, e, h1, h2⟩ := r
    exact ⟨v, q, e, RepV.hide h d v h1, RepVs.hide h ds q h2⟩
end
theorem RepF.hide {p : Addr} {u : HO} (h : H p = Option.none) : ∀ (fs : List (Str × D)) (vs : List (Str × V)), RepF K mg io N H fs vs → RepF K mg (LC.hide io p) N (upd H p u) fs vs
  | [], vs, r => r
  | d :: ds, vs, r => by
    obtain ⟨v, q, e, h1, h2⟩ := r
    exact ⟨v, q, e, RepV.hide h _ v h1, RepF.hide h ds q h2⟩
/-- begun -/
theorem SRel.hide {p : Addr} {ws : List V} (S : SRel K mg io m H) (h : H p = none) : SRel K mg (LC.hide io p) m (upd H p (.lst ws)) where
  inj := S.inj
  ob := fun k o e => by
    have hk : k < m.length := (List.getElem?_eq_some_iff.mp e).1
    have ne : io k ≠ p := fun z => S.some hk (by rw [z]; exact h)
    have r := S.ob k o e
    show RepO K mg (LC.hide io p) m.length (upd H p (.lst ws)) (io k) o
    cases o with
    | lst ds => obtain ⟨vs, h1, h2⟩ := r; exact ⟨vs, by rw [upd_ne ne]; exact h1, RepVs.hide h _ _ h2⟩
    | ins C fs => obtain ⟨Ca, dx, fvs, h0, h1, h2⟩ := r; exact ⟨Ca, dx, fvs, h0, by rw [upd_ne ne]; exact h1, RepF.hide h _ _ h2⟩
  zl := fun a hz => by
    rcases hz with hz | hz
    · obtain ⟨vs, e⟩ := S.zl a hz
      exact ⟨vs, by rw [upd_ne (ne_of_none e h)]; exact e⟩
    · subst hz; exact ⟨ws, upd_same⟩
  zn := fun n hn hz => by
    rcases hz with hz | hz
    · exact S.zn n hn hz
    · exact S.some hn (by rw [show io n = p from hz]; exact h)
/-- written -/
theorem ExtW.over {p : Addr} {u : HO} (hp : io.z p) : ExtW io N H io N (upd H p u) :=
  ⟨Nat.le_refl _, fun _ _ => rfl, fun n a b => absurd a (by omega), fun a o e h => by rw [upd_ne fun z => h.2 (by rw [z]; exact hp)]; exact e, fun _ z => .inl z⟩
theorem SRel.over {p : Addr} {ws : List V} (S : SRel K mg io m H) (hp : io.z p) : SRel K mg io m (upd H p (.lst ws)) where
  inj := S.inj
  ob := fun k o e => by
    have hk : k < m.length := (List.getElem?_eq_some_iff.mp e).1
    exact RepO.keep S (ExtW.over hp) (S.ob k o e) (upd_ne fun z => S.zn k hk (by rw [z]; exact hp))
  zl := fun a hz => by
    by_cases e : a = p
    · subst e; exact ⟨ws, upd_same⟩
    · obtain ⟨vs, q⟩ := S.zl a hz
      exact ⟨vs, by rw [upd_ne e]; exact q⟩
  zn := S.zn
mutual
theorem RepV.bare {z : Addr → Prop} (h : ∀ a, z a → io.z a) : ∀ (d : D) (v : V), RepV K mg io N H d v → RepV K mg (bare io z) N H d v
  | .non, v, r => r
  | .bl b, v, r => r
  | .int i, v, r => r
  | .str s, v, r => r
  | .tup ds, v, r => by
    obtain ⟨a, vs, e, q, r⟩ := r
    exact ⟨a, vs, e, q, RepVs.bare h ds vs r⟩
  | .lst ds, v, r => by
    obtain ⟨a, vs, e, q, ne, r⟩ := r
    exact ⟨a, vs, e, q, ⟨ne.1, fun z => ne.2 (h a z)⟩, RepVs.bare h ds vs r⟩
  | .scr ns, v, r => r
  | .ref n, v, r => r
  | .glb y, v, r => r
  | .ty n, v, r => r
theorem RepVs.bare {z : Addr → Prop} (h : ∀ a, z a → io.z a) : ∀ (ds : List D) (vs : List V), RepVs K mg io N H ds vs → RepVs K mg (LC.bare io z) N H ds vs
  | [], vs, r => r
  | d :: ds, vs, r => by
    obtain ⟨v, q, e, h1, h2⟩ := r
    exact ⟨v, q, e, RepV.bare h d v h1, RepVs.bare h ds q h2⟩
end
theorem RepF.bare {z : Addr → Prop} (h : ∀ a, z a → io.z a) : ∀ (fs : List (Str × D)) (vs : List (Str × V)), RepF K mg io N H fs vs → RepF K mg (LC.bare io z) N H fs vs
  | [], vs, r => r
  | d :: ds, vs, r => by
    obtain ⟨v, q, e, h1, h2⟩ := r
    exact ⟨v, q, e, RepV.bare h _ v h1, RepF.bare h ds q h2⟩
theorem SRel.bare {z : Addr → Prop} (S : SRel K mg io m H) (h : ∀ a, z a → io.z a) : SRel K mg (LC.bare io z) m H where
  inj := S.inj
  ob := fun k o e => by
    have r := S.ob k o e
    show RepO K mg (LC.bare io z) m.length H (io k) o
    cases o with
    | lst ds => obtain ⟨vs, h1, h2⟩ := r; exact ⟨vs, h1, RepVs.bare h _ _ h2⟩
    | ins C fs => obtain ⟨Ca, dx, fvs, h0, h1, h2⟩ := r; exact ⟨Ca, dx, fvs, h0, h1, RepF.bare h _ _ h2⟩
  zl := fun a hz => S.zl a (h a hz)
  zn := fun n hn hz => S.zn n hn (h _ hz)
/-- from before it was begun: other things are kept -/
theorem Ext.bare {z : Addr → Prop} (x : Ext io N H io' N' H') (h : ∀ a, z a → io.z a) : Ext (LC.bare io z) N H (LC.bare io' z) N' H' :=
  ⟨⟨x.le, x.ag, x.fr, fun a o e q => by
    by_cases hz : io.z a
    · rw [x.kz a hz (by rw [e]; simp)]; exact e
    · exact x.kp a o e ⟨q.1, hz⟩, fun _ z => .inl z⟩, x.th, fun a hz e => x.kz a (h a hz) e, rfl⟩
theorem Ext.begin {p : Addr} {u : HO} (h : H p = none) : Ext io N H (LC.bare (LC.hide io p) io.z) N (upd H p u) := Ext.new h
theorem Ext.over {p : Addr} {u : HO} (x : Ext io N H io' N' H') (h : H p = none) (hn : ∀ n, n < N → io n ≠ p) : Ext io N H io' N' (upd H' p u) :=
  ⟨⟨x.le, x.ag, x.fr, fun a o e q => by rw [upd_ne (ne_of_none e h)]; exact x.kp a o e q, x.zf⟩, fun n hl e => by rw [upd_ne (hn n hl)]; exact x.th n hl e, fun a hz e => by
    rw [upd_ne fun w => e (by rw [w]; exact h)]; exact x.kz a hz e, x.zz⟩
end
/-! ### environments -/
def RelE (K : PySem.W.Frag) (mg : Str → Option Value) (io : Pl) (N : Nat) (H : Hp) (r : Env) (st : L2.St) : Prop :=
  r.length = st.length ∧ ∀ (k : Nat) (d : D), r[k]? = some (some d) → ∃ v, st[k]? = some (some v) ∧ RepV K mg io N H d v
section
variable {K : PySem.W.Frag} {mg : Str → Option Value} {io io' io2 : Pl} {N N' N2 : Nat} {H H' H2 : Hp} {m m' : Sto} {r : Env} {st : L2.St}
theorem RelE.keep (S : SRel K mg io m H) (x : Ext io m.length H io' N' H') (e : RelE K mg io m.length H r st) : RelE K mg io' N' H' r st :=
  ⟨e.1, fun k d q => let ⟨v, h1, h2⟩ := e.2 k d q; ⟨v, h1, RepV.keep S x d v h2⟩⟩
theorem RelE.set {k : Nat} {d : D} {v : V} (e : RelE K mg io N H r st) (q : RepV K mg io N H d v) : RelE K mg io N H (r.set k (some d)) (st.set k (some v)) := by
  refine ⟨by rw [List.length_set, List.length_set]; exact e.1, fun j d' h => ?_⟩
  by_cases hj : j = k
  · subst hj
    by_cases hl : j < r.length
    · rw [List.getElem?_set_self hl] at h
      cases h
      exact ⟨v, List.getElem?_set_self (by rw [← e.1]; exact hl), q⟩
    · rw [List.getElem?_eq_none (by rw [List.length_set]; omega)] at h; cases h
  · rw [List.getElem?_set_ne (Ne.symm hj)] at h
    rw [List.getElem?_set_ne (Ne.symm hj)]
    exact e.2 j d' h
theorem RelE.wipe (e : RelE K mg io N H r st) : ∀ ks : List Nat, RelE K mg io N H (wipeE r ks) (L2.wipe st ks)
  | [] => e
  | k :: ks => by
    have ih := RelE.wipe e ks
    refine ⟨by unfold wipeE L2.wipe; rw [List.length_set, List.length_set]; exact ih.1, fun j d h => ?_⟩
    unfold wipeE at h
    unfold L2.wipe
    by_cases hj : j = k
    · subst hj
      by_cases hl : j < (wipeE r ks).length
      · rw [List.getElem?_set_self hl] at h; cases h
      · rw [List.getElem?_eq_none (by rw [List.length_set]; omega)] at h; cases h
    · rw [List.getElem?_set_ne (Ne.symm hj)] at h
      rw [List.getElem?_set_ne (Ne.symm hj)]
      exact ih.2 j d h
theorem RelE.start {as : List D} {vs : List V} (h : RepVs K mg io N H as vs) (n k : Nat) (hk : k = n - vs.length) : RelE K mg io N H (as.map some ++ List.replicate k none) (vs.map some ++ List.replicate (n - vs.length) none) := by
  subst hk
  refine ⟨by simp [h.length], fun j d e => ?_⟩
  by_cases hj : j < as.length
  · rw [List.getElem?_append_left (by simpa using hj), List.getElem?_map] at e
    cases q : as[j]? with
    | none => rw [q] at e; cases e
    | some d' =>
      rw [q] at e
      cases e
      obtain ⟨v, h1, h2⟩ := h.get q
      refine ⟨v, ?_, h2⟩
      rw [List.getElem?_append_left (by rw [List.length_map, ← h.length]; exact hj), List.getElem?_map, h1]
      rfl
  · rw [List.getElem?_append_right (by simpa using hj), List.getElem?_replicate] at e
    split at e <;> cases e
end
end LC

/-! # LcD: readings, operators -/
namespace LC
open PySem PySem.Spec PyProof.Rows L2 Sem Builtin PySem.SeqAt
open AutoSeq1 MeetsSeq MeetsSeq2 MeetsSeq3 SeqRoads2 in
theorem mul1_tup (l : Addr) (xs : Array Value) (n : Nat) (dd : Option Addr) (sl : Array (Option Value)) (u : Tok) :
    Meets (Builtin.«tuple.__mul__» ⟨[.ref l, .int 1 u], []⟩) (fun _ R s => s.heap.get? l = some { cls := .type "tuple", dict := dd, data := .seq xs n, slots := sl } ∧ R (.ok (.ret (.ref l))) s) :=
  .of_wp fun prog w A R s h => by
    obtain ⟨hp, g, d, tk, os⟩ := s; obtain ⟨hl, h⟩ := h
    have f1 := AutoSeq1.idx_int
    have c0 : (decide ((1 : Int) < -(2 ^ 63)) || decide ((1 : Int) ≥ 2 ^ 63)) = false := by decide
    have c1 : (xs.isEmpty || (1 : Int) == 1) = true := by simp
    wp_walk using wpAny_loadPart' hl
    repeat (first
      | (refine wpAny_ite_false (decide_eq_false (by rw [c0]; exact Bool.false_ne_true)) ?_; wp_walk using wpAny_loadPart' hl)
      | (refine wpAny_ite_true (decide_eq_true (by rw [c1])) ?_; wp_walk using wpAny_loadPart' hl))
    all_goals first | exact ⟨_, rfl, h⟩ | skip
end LC
namespace LC
open PySem PySem.Spec PyProof.Rows L2
section
variable {X : Cx}
theorem op_one : OpR X (binaryOp .Mult) (fun x y H Q => ∃ l xs, x = .ref l ∧ y = .int 1 ∧ SqT X.K H l xs ∧ Q (.ref l) H) := by
  intro pins s st H x y v u Q I rx ry h
  obtain ⟨l, xs, rfl, rfl, hT, q⟩ := h
  cases rx
  obtain ⟨t, rfl⟩ := ry
  obtain ⟨its, r, ⟨⟨cls, dd, data, sl⟩, ho, hc, n, hd⟩, hs⟩ := I.tuple hT
  simp only at hc hd
  subst hc hd
  exact wpAny_binaryOp_repeat_ref (T := "tuple") (U := "int") (by decide) ⟨_, ho, rfl⟩ (fun s' => typeIs_int s' 1 t) noFill_tuple_mul F.fills_int_mul F.slot_int_rmul repeat_tuple F.slot_int_index.lookup
    (call_meets F.slot_int_rmul (typeIs_int s 1 t) F.entry_int_rmul (F.args_int_rmul_2 _ _) (int_rmul_tuple 1 t l its.toArray n dd sl)
      ⟨ho, rfl, ⟨_, ho, rfl⟩, call_meets F.slot_tuple_mul ⟨_, ho, rfl⟩ F.entry_tuple_mul (F.args_tuple_mul_2 _ _) (mul1_tup l its.toArray n dd sl t) ⟨ho, .ref l, H, I, rfl, q⟩⟩)
end
end LC
namespace LC
open PySem PySem.Spec PyProof.Rows L2

def Post {α : Type} (o : Out α) (F : α → Sto → Prop) : Prop := match o with
  | .ok a m => F a m
  | _ => False
theorem Post.mono {α : Type} {o : Out α} {F F' : α → Sto → Prop} (h : Post o F) (k : ∀ a m, F a m → F' a m) : Post o F' := by
  cases o with
  | ok a m => exact k a m h
  | exc C fs m => exact h
  | bad => exact h
theorem Post.of_bnd {α β : Type} {x : M α} {f : α → M β} {m : Sto} {F : β → Sto → Prop} (h : Post (bnd x f m) F) : Post (x m) fun a m1 => Post (f a m1) F := by
  unfold bnd at h
  cases e : x m with
  | ok a m1 => rw [e] at h; exact h
  | exc C fs m1 => rw [e] at h; exact h
  | bad => rw [e] at h; exact h
theorem Post.of_ret {α : Type} {a : α} {m : Sto} {F : α → Sto → Prop} (h : Post (ret a m) F) : F a m := h

structure S0 (K : PySem.W.Frag) (mg : Str → Option Value) (io : Pl) (r : Env) (m : Sto) (st : L2.St) (H : Hp) : Prop where
  s : SRel K mg io m H
  e : RelE K mg io m.length H r st
theorem S0.next {K : PySem.W.Frag} {mg : Str → Option Value} {io io' : Pl} {r : Env} {m m' : Sto} {st : L2.St} {H H' : Hp} (x : S0 K mg io r m st H) (y : Ext io m.length H io' m'.length H') (S : SRel K mg io' m' H') : S0 K mg io' r m' st H' :=
  ⟨S, x.e.keep x.s y⟩

/-- only these slots are others -/
def Off (ws : List Nat) (st st' : L2.St) : Prop := st'.length = st.length ∧ ∀ k, k ∉ ws → st'[k]? = st[k]?
theorem Off.refl {ws : List Nat} {st : L2.St} : Off ws st st := ⟨rfl, fun _ _ => rfl⟩
section
variable (K : PySem.W.Frag) (mg : Str → Option Value)
/-- what is wanted of a value, of a test's answer, of several values -/
def WV (io : Pl) (m : Sto) (H : Hp) (Q : VK) : D → Sto → Prop := fun d m' => ∀ io' H' v, Ext io m.length H io' m'.length H' → SRel K mg io' m' H' → RepV K mg io' m'.length H' d v → Q v H'
def WB (io : Pl) (m : Sto) (H : Hp) (Q : Bool → Hp → Prop) : Bool → Sto → Prop := fun b m' => ∀ io' H', Ext io m.length H io' m'.length H' → SRel K mg io' m' H' → Q b H'
def WL (io : Pl) (m : Sto) (H : Hp) (Q : List V → Hp → Prop) : List D → Sto → Prop := fun ds m' => ∀ io' H' vs, Ext io m.length H io' m'.length H' → SRel K mg io' m' H' → RepVs K mg io' m'.length H' ds vs → Q vs H'
def WE (io : Pl) (m : Sto) (H : Hp) (st : L2.St) (ws : List Nat) (Q : L2.St → Hp → Prop) : Env → Sto → Prop := fun r' m' => ∀ io' st' H', Ext io m.length H io' m'.length H' → SRel K mg io' m' H' → RelE K mg io' m'.length H' r' st' → Off ws st st' → Q st' H'
def WF (io : Pl) (m : Sto) (H : Hp) (D : Ends) : Flow → Sto → Prop := fun fl m' => match fl with
  | .nx r => ∀ io' st' H', Ext io m.length H io' m'.length H' → SRel K mg io' m' H' → RelE K mg io' m'.length H' r st' → D.nx st' H'
  | .rt d => ∀ io' H' v, Ext io m.length H io' m'.length H' → SRel K mg io' m' H' → RepV K mg io' m'.length H' d v → D.rt v H'
  | .bk r => ∀ io' st' H', Ext io m.length H io' m'.length H' → SRel K mg io' m' H' → RelE K mg io' m'.length H' r st' → D.bk st' H'
  | .ct r => ∀ io' st' H', Ext io m.length H io' m'.length H' → SRel K mg io' m' H' → RelE K mg io' m'.length H' r st' → D.ct st' H'
def tM (x : Env → M D) : TE := fun st H Q => ∃ io r m, S0 K mg io r m st H ∧ Post (x r m) (WV K mg io m H Q)
def tT (x : Env → M Bool) : TT := fun st H Q => ∃ io r m, S0 K mg io r m st H ∧ Post (x r m) (WB K mg io m H Q)
def tL (x : Env → M (List D)) : TA := fun st H Q => ∃ io r m, S0 K mg io r m st H ∧ Post (x r m) (WL K mg io m H Q)
def tS (x : Env → M Flow) : TS := fun D st H => ∃ io r m, S0 K mg io r m st H ∧ Post (x r m) (WF K mg io m H D)
def tG (x : D → Env → M Env) (ws : List Nat) : TG := fun v st H Q => ∃ io r m d, S0 K mg io r m st H ∧ RepV K mg io m.length H d v ∧ Post (x d r m) (WE K mg io m H st ws Q)
def tGs (x : List D → Env → M Env) (ws : List Nat) : TGs := fun vs st H Q => ∃ io r m ds, S0 K mg io r m st H ∧ RepVs K mg io m.length H ds vs ∧ Post (x ds r m) (WE K mg io m H st ws Q)
/-- operations by values -/
def rOp (f : D → D → M D) : R2 := fun x y H Q => ∃ io m p q, SRel K mg io m H ∧ RepV K mg io m.length H p x ∧ RepV K mg io m.length H q y ∧ Post (f p q m) (WV K mg io m H Q)
end
section
variable {K : PySem.W.Frag} {mg : Str → Option Value} {io io' io2 : Pl} {m m' m2 : Sto} {H H' H2 : Hp}
theorem WV.from {Q : VK} {d : D} (x : Ext io m.length H io' m'.length H') (h : WV K mg io m H Q d m2) : WV K mg io' m' H' Q d m2 := fun io2 H2 v y S r => h io2 H2 v (x.trans y) S r
theorem WB.from {Q : Bool → Hp → Prop} {d : Bool} (x : Ext io m.length H io' m'.length H') (h : WB K mg io m H Q d m2) : WB K mg io' m' H' Q d m2 := fun io2 H2 y S => h io2 H2 (x.trans y) S
theorem WL.from {Q : List V → Hp → Prop} {d : List D} (x : Ext io m.length H io' m'.length H') (h : WL K mg io m H Q d m2) : WL K mg io' m' H' Q d m2 := fun io2 H2 v y S r => h io2 H2 v (x.trans y) S r
theorem WF.from {D : Ends} {d : Flow} (x : Ext io m.length H io' m'.length H') (h : WF K mg io m H D d m2) : WF K mg io' m' H' D d m2 := by
  cases d with
  | nx r => exact fun io2 st2 H2 y S e => h io2 st2 H2 (x.trans y) S e
  | rt d => exact fun io2 H2 v y S e => h io2 H2 v (x.trans y) S e
  | bk r => exact fun io2 st2 H2 y S e => h io2 st2 H2 (x.trans y) S e
  | ct r => exact fun io2 st2 H2 y S e => h io2 st2 H2 (x.trans y) S e
/-- the value as it stands -/
theorem WV.here {Q : VK} {d : D} {v : V} (h : WV K mg io m H Q d m) (S : SRel K mg io m H) (r : RepV K mg io m.length H d v) : Q v H := h io H v Ext.refl S r
/-- a new frozen object -/
theorem WV.frozen {Q : VK} {d : D} {p : Addr} {u : HO} (h : WV K mg io m H Q d m) (S : SRel K mg io m H) (hp : H p = none) (r : RepV K mg io m.length (upd H p u) d (.ref p)) : Q (.ref p) (upd H p u) :=
  h io _ _ (Ext.new hp) (S.new hp) r
theorem repLst {ds : List D} {vs : List V} {p : Addr} (S : SRel K mg io m H) (hp : H p = none) (r : RepVs K mg io m.length H ds vs) : RepV K mg io m.length (upd H p (.lst vs)) (.lst ds) (.ref p) :=
  ⟨p, vs, rfl, upd_same, ⟨fun n hn e => S.some hn (by rw [← e]; exact hp), fun z => by obtain ⟨ws, e⟩ := S.zl p z; rw [hp] at e; cases e⟩, r.keep S (Ext.new hp)⟩
theorem repTup {ds : List D} {vs : List V} {p : Addr} (S : SRel K mg io m H) (hp : H p = none) (r : RepVs K mg io m.length H ds vs) : RepV K mg io m.length (upd H p (.tup vs)) (.tup ds) (.ref p) :=
  ⟨p, vs, rfl, .inl (.inl upd_same), r.keep S (Ext.new hp)⟩
/-- a new list at a place of the store -/
theorem WV.place {Q : VK} {ds : List D} {vs : List V} {p : Addr} (h : WV K mg io m H Q (.ref m.length) (m ++ [.lst ds])) (S : SRel K mg io m H) (hp : H p = none) (r : RepVs K mg io m.length H ds vs) : Q (.ref p) (upd H p (.lst vs)) := by
  have x : Ext io m.length H (ioN io m.length p) (m ++ [Ob.lst ds]).length (upd H p (.lst vs)) := by
    rw [List.length_append, List.length_singleton]; exact Ext.place hp
  refine h (ioN io m.length p) _ _ x (S.place hp ⟨vs, upd_same, ?_⟩) ⟨by simp, by rw [ioN_eq]⟩
  have q := r.keep S x
  rw [List.length_append, List.length_singleton] at q
  exact q
theorem Post.lst {Q : VK} {ds : List D} {vs : List V} {p : Addr} {mu : Bool} (h : Post (if mu then new (.lst ds) m else .ok (.lst ds) m) (WV K mg io m H Q)) (S : SRel K mg io m H) (hp : H p = none) (r : RepVs K mg io m.length H ds vs) : Q (.ref p) (upd H p (.lst vs)) := by
  cases mu with
  | true => exact WV.place h S hp r
  | false => exact WV.frozen h S hp (repLst S hp r)
/-- a list that can be read at x -/
theorem topLst {d : D} {x : V} {ds : List D} (S : SRel K mg io m H) (r : RepV K mg io m.length H d x) (e : top m d = .lst ds) : ∃ a vs, x = .ref a ∧ H a = some (.lst vs) ∧ RepVs K mg io m.length H ds vs := by
  cases d with
  | lst xs =>
    have e' : D.lst xs = D.lst ds := e
    cases e'
    obtain ⟨a, vs, h1, h2, _, h3⟩ := r
    exact ⟨a, vs, h1, h2, h3⟩
  | ref n =>
    obtain ⟨hn, rfl⟩ := r
    have e : topR (.ref n) m[n]? = .lst ds := e
    have z := List.getElem?_eq_getElem hn
    rw [z] at e
    cases q : m[n] with
    | lst xs =>
      rw [q] at e z
      have e' : D.lst xs = D.lst ds := e
      cases e'
      obtain ⟨vs, h1, h2⟩ := S.ob n _ z
      exact ⟨io n, vs, rfl, h1, h2⟩
    | ins C fs => rw [q] at e; cases e
  | non => cases e
  | bl b => cases e
  | int i => cases e
  | str s => cases e
  | tup xs => cases e
  | scr ns => cases e
  | glb x => cases e
  | ty n => cases e
/-- what is no place stands for itself -/
theorem top_tup {d : D} {ds : List D} (e : top m d = .tup ds) : d = .tup ds := by
  cases d with
  | ref n =>
    unfold top at e
    dsimp only at e
    cases q : m[n]? with
    | none => rw [q] at e; cases e
    | some o => cases o <;> (rw [q] at e; cases e)
  | _ => exact e
theorem top_scr {d : D} {ds : List Int} (e : top m d = .scr ds) : d = .scr ds := by
  cases d with
  | ref n =>
    unfold top at e
    dsimp only at e
    cases q : m[n]? with
    | none => rw [q] at e; cases e
    | some o => cases o <;> (rw [q] at e; cases e)
  | _ => exact e
theorem top_str {d : D} {s : Str} (e : top m d = .str s) : d = .str s := by
  cases d with
  | ref n =>
    unfold top at e
    dsimp only at e
    cases q : m[n]? with
    | none => rw [q] at e; cases e
    | some o => cases o <;> (rw [q] at e; cases e)
  | _ => exact e
theorem lim : LIM = sizeLine := sizeLine_eq.symm
end

section
variable {X : Cx}
theorem rOp.of {f : Value → Value → Sem Value} {g : D → D → M D}
    (h : ∀ (pins : List (Addr × Obj)) (s : Shared) (st : L2.St) (H : Hp) (x y : V) (v u : Value) (Q : VK) (io : Pl) (m : Sto) (p q : D), Inv X pins st H s → RelV x v → RelV y u → SRel X.K X.mg io m H →
      RepV X.K X.mg io m.length H p x → RepV X.K X.mg io m.length H q y → Post (g p q m) (WV X.K X.mg io m H Q) → wpAny (model X.prog X.w) X.A (f v u) (EP X pins st Q) X.xe s) : OpR X f (rOp X.K X.mg g) :=
  fun pins s st H x y v u Q I rx ry ⟨io, m, p, q, S, hp, hq, h'⟩ => h pins s st H x y v u Q io m p q I rx ry S hp hq h'

theorem op_bin {mu : Bool} {o : Operator} : OpR X (binaryOp o) (rOp X.K X.mg (opBin mu o)) := by
  refine rOp.of fun pins s st H x y v u Q io m p q I rx ry S hp hq h => ?_
  unfold opBin at h
  split at h
  · subst hp; subst hq; exact op_add pins s st H _ _ v u Q I rx ry ⟨_, _, rfl, rfl, WV.here h S rfl⟩
  · subst hp; subst hq; exact op_sub pins s st H _ _ v u Q I rx ry ⟨_, _, rfl, rfl, WV.here h S rfl⟩
  · subst hp; subst hq
    split at h
    · rename_i hm
      unfold mulOk at hm
      simp only [Bool.or_eq_true, decide_eq_true_eq] at hm
      rcases hm with (hm | hm) | hm
      · exact op_mul pins s st H _ _ v u Q I rx ry ⟨_, _, rfl, rfl, .inl hm, WV.here h S rfl⟩
      · exact op_mul pins s st H _ _ v u Q I rx ry ⟨_, _, rfl, rfl, .inr hm, WV.here h S rfl⟩
      · exact op_mulW pins s st H _ _ v u Q I rx ry ⟨_, _, rfl, rfl, hm, WV.here h S rfl⟩
    · exact h.elim
  · subst hp; subst hq
    split at h
    · rename_i hm
      unfold divOk at hm
      simp only [Bool.and_eq_true, decide_eq_true_eq] at hm
      exact op_fdivW pins s st H _ _ v u Q I rx ry ⟨_, _, rfl, rfl, hm, WV.here h S rfl⟩
    · exact h.elim
  · subst hp; subst hq
    split at h
    · rename_i hm
      exact op_mod pins s st H _ _ v u Q I rx ry ⟨_, _, rfl, rfl, of_decide_eq_true hm, WV.here h S rfl⟩
    · exact h.elim
  · subst hp; subst hq
    split at h
    · rename_i hm
      have hc := of_decide_eq_true hm
      exact op_pow pins s st H _ _ v u Q I rx ry ⟨_, _, rfl, rfl, hc, WV.here h S rfl⟩
    · exact h.elim
  · subst hp; subst hq
    split at h
    · rename_i hm
      exact op_add_str pins s st H _ _ v u Q I rx ry ⟨_, _, rfl, rfl, by rw [← lim]; exact of_decide_eq_true hm, WV.here h S rfl⟩
    · exact h.elim
  · split at h
    · rename_i hm
      obtain ⟨a1, vs, rfl, q1, r1⟩ := hp
      obtain ⟨b1, us, rfl, q2, r2⟩ := hq
      refine op_catA pins s st H _ _ v u Q I rx ry ⟨a1, b1, vs, us, rfl, rfl, q1, q2, ?_, ?_⟩
      · rw [← lim, ← r1.length, ← r2.length]; exact of_decide_eq_true hm
      · have key : ∀ (zs : List V) (c : Addr) (H' : Hp), zs = vs ++ us → SRel X.K X.mg io m H' → Ext io m.length H io m.length H' → SqT X.K H' c zs → Q (.ref c) H' := fun zs c H' e S' x q => by
          subst e
          exact h io H' _ x S' ⟨c, _, rfl, q, (r1.append r2).keep S x⟩
        refine ⟨fun e => ?_, fun _ e => ?_, fun _ _ p hp => ?_⟩
        · subst e; exact key us b1 H rfl S Ext.refl q2
        · subst e; exact key vs a1 H (by simp) S Ext.refl q1
        · exact key _ p _ rfl (S.new hp) (Ext.new hp) (.inl (.inl upd_same))
    · exact h.elim
  · split at h
    · rename_i e1 e2
      split at h
      · rename_i hm
        obtain ⟨a1, vs, rfl, q1, r1⟩ := topLst S hp e1
        obtain ⟨b1, us, rfl, q2, r2⟩ := topLst S hq e2
        refine op_cat pins s st H _ _ v u Q I rx ry ⟨a1, b1, vs, us, rfl, rfl, q1, q2, ?_, fun p hp => Post.lst h S hp (r1.append r2)⟩
        rw [← lim, ← r1.length, ← r2.length]; exact of_decide_eq_true hm
      · exact h.elim
    · exact h.elim
  · subst hq
    split at h
    · rename_i a k hm
      obtain ⟨h1, h2, h3, h4⟩ := of_decide_eq_true hm
      obtain ⟨a1, vs, rfl, q1, r1⟩ := hp
      have len := r1.length
      by_cases k1 : k = 1
      · subst k1
        exact op_one pins s st H _ _ v u Q I rx ry ⟨a1, vs, rfl, rfl, q1, h io H _ Ext.refl S ⟨a1, vs, rfl, q1, by simpa using r1⟩⟩
      · exact op_repT pins s st H _ _ v u Q I rx ry ⟨a1, k, vs, rfl, rfl, q1, (fun e => h3 (by subst e; exact List.eq_nil_of_length_eq_zero len)), by omega, h2, by omega, fun p hp => h io _ _ (Ext.new hp) (S.new hp) ⟨p, _, rfl, .inl (.inl upd_same), (r1.replicate _).keep S (Ext.new hp)⟩⟩
    · exact h.elim
  · subst hq
    split at h
    · rename_i e1
      split at h
      · rename_i hm
        obtain ⟨a1, vs, rfl, q1, r1⟩ := topLst S hp e1
        obtain ⟨h1, h2, h3⟩ := of_decide_eq_true hm
        exact op_rep pins s st H _ _ v u Q I rx ry ⟨a1, _, vs, rfl, rfl, q1, h1, h2, by rw [← lim, ← r1.length]; exact h3, fun p hp => Post.lst h S hp (r1.replicate _)⟩
      · exact h.elim
    · exact h.elim
  · exact h.elim
end
end LC

/-! # LcE: comparisons, subscripts, slices, truth -/
namespace LC
open PySem PySem.Spec PyProof.Rows L2
section
variable {K : PySem.W.Frag} {mg : Str → Option Value} {io : Pl} {N : Nat} {m : Sto} {H : Hp}
mutual
theorem RepV.dp : ∀ (d : D) (v : V) (p : PyData), RepV K mg io N H d v → d.py = some p → Dp K H v p
  | .non, v, p, h, e => by cases (show v = .non from h); cases e; exact .non
  | .bl b, v, p, h, e => by cases (show v = .bl b from h); cases e; exact .bl b
  | .int i, v, p, h, e => by cases (show v = .int i from h); cases e; exact .int i
  | .str s, v, p, h, e => by cases (show v = .str s from h); cases e; exact .str s
  | .tup ds, v, p, h, e => by
    obtain ⟨a, vs, rfl, q, r⟩ := h
    have e : (D.pys ds).map PyData.tuple = some p := e
    cases z : D.pys ds with
    | none => rw [z] at e; cases e
    | some ps => rw [z] at e; cases e; exact .tup q (RepVs.dp ds vs ps r z)
  | .lst ds, v, p, h, e => by
    obtain ⟨a, vs, rfl, q, _, r⟩ := h
    have e : (D.pys ds).map PyData.list = some p := e
    cases z : D.pys ds with
    | none => rw [z] at e; cases e
    | some ps => rw [z] at e; cases e; exact .lst (SqL.of q) (RepVs.dp ds vs ps r z)
  | .scr ns, v, p, h, e => by cases e
  | .ref n, v, p, h, e => by cases e
  | .glb y, v, p, h, e => by cases e
  | .ty n, v, p, h, e => by cases e
theorem RepVs.dp : ∀ (ds : List D) (vs : List V) (ps : List PyData), RepVs K mg io N H ds vs → D.pys ds = some ps → DpAll K H vs ps
  | [], vs, ps, h, e => by cases (show vs = [] from h); cases e; exact .nil
  | d :: ds, vs, ps, h, e => by
    obtain ⟨v, r, rfl, h1, h2⟩ := h
    unfold D.pys at e
    cases z : d.py with
    | none => rw [z] at e; cases e
    | some q =>
      cases z2 : D.pys ds with
      | none => rw [z, z2] at e; cases e
      | some qs =>
        rw [z, z2] at e
        cases e
        exact .cons (RepV.dp d v q h1 z) (RepVs.dp ds r qs h2 z2)
end
theorem dp_top {d : D} {v : V} {p : PyData} (S : SRel K mg io m H) (r : RepV K mg io m.length H d v) (e : (top m d).py = some p) : Dp K H v p := by
  cases z : top m d with
  | lst ds =>
    obtain ⟨a, vs, rfl, h1, h2⟩ := topLst S r z
    rw [z] at e
    have e : (D.pys ds).map PyData.list = some p := e
    cases z : D.pys ds with
    | none => rw [z] at e; cases e
    | some ps => rw [z] at e; cases e; exact .lst (SqL.of h1) (RepVs.dp ds vs ps h2 z)
  | _ =>
    have t : top m d = d := by
      cases d with
      | ref n =>
        unfold top at z ⊢
        dsimp only at z ⊢
        cases q : m[n]? with
        | none => rfl
        | some o => cases o with
          | lst xs => rw [q] at z; cases z
          | ins C fs => rfl
      | _ => rfl
    rw [t] at e
    exact RepV.dp d v p r e
theorem flat_rep {d : D} {v : V} (h : d.flat = true) (r : RepV K mg io N H d v) : flatV v = true := by
  cases d with
  | non => cases (show v = .non from r); rfl
  | bl b => cases (show v = .bl b from r); rfl
  | int i => cases (show v = .int i from r); rfl
  | str s => cases (show v = .str s from r); rfl
  | _ => cases h
theorem eqF_rep {d e : D} {v u : V} (hd : d.flat = true) (he : e.flat = true) (r : RepV K mg io N H d v) (q : RepV K mg io N H e u) : eqV v u = eqF d e := by
  cases d with
  | non => cases (show v = .non from r); cases e with
    | non => cases (show u = .non from q); rfl
    | bl b => cases (show u = .bl b from q); rfl
    | int i => cases (show u = .int i from q); rfl
    | str s => cases (show u = .str s from q); rfl
    | _ => cases he
  | bl b => cases (show v = .bl b from r); cases e with
    | non => cases (show u = .non from q); rfl
    | bl b => cases (show u = .bl b from q); rfl
    | int i => cases (show u = .int i from q); rfl
    | str s => cases (show u = .str s from q); rfl
    | _ => cases he
  | int i => cases (show v = .int i from r); cases e with
    | non => cases (show u = .non from q); rfl
    | bl b => cases (show u = .bl b from q); rfl
    | int i => cases (show u = .int i from q); rfl
    | str s => cases (show u = .str s from q); rfl
    | _ => cases he
  | str s => cases (show v = .str s from r); cases e with
    | non => cases (show u = .non from q); rfl
    | bl b => cases (show u = .bl b from q); rfl
    | int i => cases (show u = .int i from q); rfl
    | str s => cases (show u = .str s from q); rfl
    | _ => cases he
  | _ => cases hd
theorem flats_rep : ∀ {ds : List D} {vs : List V}, ds.all D.flat = true → RepVs K mg io N H ds vs → vs.all flatV = true
  | [], vs, _, r => by cases (show vs = [] from r); rfl
  | d :: ds, vs, h, r => by
    obtain ⟨v, us, rfl, h1, h2⟩ := r
    rw [List.all_cons, Bool.and_eq_true] at h ⊢
    exact ⟨flat_rep h.1 h1, flats_rep h.2 h2⟩
theorem inV_rep {d : D} {v : V} (hd : d.flat = true) (q : RepV K mg io N H d v) : ∀ {ds : List D} {vs : List V}, ds.all D.flat = true → RepVs K mg io N H ds vs → inV v vs = ds.any fun z => eqF z d
  | [], vs, _, r => by cases (show vs = [] from r); rfl
  | e :: ds, vs, h, r => by
    obtain ⟨u, us, rfl, h1, h2⟩ := r
    rw [List.all_cons, Bool.and_eq_true] at h
    have ih := inV_rep hd q h.2 h2
    unfold inV at ih ⊢
    rw [List.any_cons, List.any_cons, ih, eqF_rep h.1 hd h1 q]
end

section
variable {X : Cx}
theorem bOut_post {o : Option Bool} {m : Sto} {F : D → Sto → Prop} (h : Post (bOut o m) F) : ∃ b, o = some b ∧ F (.bl b) m := by
  unfold bOut at h
  cases o with
  | none => exact h.elim
  | some b => exact ⟨b, rfl, h⟩
theorem oOut_post {o : Option D} {m : Sto} {F : D → Sto → Prop} (h : Post (oOut o m) F) : ∃ b, o = some b ∧ F b m := by
  unfold oOut at h
  cases o with
  | none => exact h.elim
  | some b => exact ⟨b, rfl, h⟩
theorem eqD_some {m : Sto} {x y : D} {b : Bool} (h : eqD m x y = some b) : ∃ p q, (top m x).py = some p ∧ (top m y).py = some q ∧ fitD p = true ∧ fitD q = true ∧ b = PyData.eqv p q := by
  unfold eqD at h
  split at h
  · rename_i p q e1 e2
    split at h
    · rename_i hf
      rw [Bool.and_eq_true] at hf
      cases h
      exact ⟨p, q, e1, e2, hf.1, hf.2, rfl⟩
    · cases h
  · cases h
theorem str_one {a : Str} (h : a.cps.size = 1) : a = ⟨#[a.cps.getD 0 0]⟩ := by
  obtain ⟨⟨l⟩⟩ := a
  match l, h with
  | [c], _ => rfl
theorem inD_rule {neg : Bool} (pins : List (Addr × Obj)) (s : Shared) (st : L2.St) (H : Hp) (x y : V) (v u : Value) (Q : VK) (io : Pl) (m : Sto) (p q : D) (b : Bool) (I : Inv X pins st H s) (rx : RelV x v) (ry : RelV y u) (S : SRel X.K X.mg io m H)
    (hp : RepV X.K X.mg io m.length H p x) (hq : RepV X.K X.mg io m.length H q y) (h : inD m p q = some b) (k : Q (.bl (if neg then !b else b)) H) :
    wpAny (model X.prog X.w) X.A (compareOp (if neg then .NotIn else .In) v u) (EP X pins st Q) X.xe s := by
  have seq : ∀ (ys : List D) (a : Addr) (vs : List V), y = .ref a → (SqL X.K H a vs ∨ SqT X.K H a vs) → RepVs X.K X.mg io m.length H ys vs → (if (p.flat && ys.all D.flat) = true then some (ys.any fun z => eqF z p) else none) = some b →
      wpAny (model X.prog X.w) X.A (compareOp (if neg then .NotIn else .In) v u) (EP X pins st Q) X.xe s := by
    intro ys a vs ey hs r e
    split at e
    · rename_i hf
      rw [Bool.and_eq_true] at hf
      have e := Option.some.inj e
      have z : inV x vs = b := (inV_rep hf.1 hp hf.2 r).trans e
      cases neg with
      | false => exact op_in_seq pins s st H _ _ v u Q I rx ry ⟨a, vs, ey, hs, flat_rep hf.1 hp, flats_rep hf.2 r, by rw [z]; exact k⟩
      | true => exact op_notIn_seq pins s st H _ _ v u Q I rx ry ⟨a, vs, ey, hs, flat_rep hf.1 hp, flats_rep hf.2 r, by rw [z]; exact k⟩
    · cases e
  unfold inD at h
  split at h
  · rename_i a z
    subst hp
    subst hq
    split at h
    · rename_i h1
      cases h
      rw [str_one h1] at rx
      cases neg with
      | false => exact op_in_sign pins s st H _ _ v u Q I rx ry ⟨_, z, rfl, rfl, k⟩
      | true => exact op_notIn_sign pins s st H _ _ v u Q I rx ry ⟨_, z, rfl, rfl, k⟩
    · cases h
      cases neg with
      | false => exact op_in_str pins s st H _ _ v u Q I rx ry ⟨a, z, rfl, rfl, k⟩
      | true => exact op_notin_str pins s st H _ _ v u Q I rx ry ⟨a, z, rfl, rfl, k⟩
  · split at h
    · rename_i ys e
      rw [top_tup e] at hq
      obtain ⟨a, vs, rfl, q1, r⟩ := hq
      exact seq ys a vs rfl (.inr q1) r h
    · rename_i ys e
      obtain ⟨a, vs, rfl, q1, r⟩ := topLst S hq e
      exact seq ys a vs rfl (.inl (SqL.of q1)) r h
    · cases h
theorem op_cmp {o : CmpOp} (hu : X.A.units + 64 < cLine) : OpR X (compareOp o) (rOp X.K X.mg (opCmp o)) := by
  refine rOp.of fun pins s st H x y v u Q io m p q I rx ry S hp hq h => ?_
  unfold opCmp at h
  cases o with
  | Eq =>
    obtain ⟨b, e, h⟩ := bOut_post h
    obtain ⟨d1, d2, e1, e2, f1, f2, rfl⟩ := eqD_some e
    exact op_eqD hu pins s st H _ _ v u Q I rx ry ⟨d1, d2, dp_top S hp e1, dp_top S hq e2, f1, f2, WV.here h S rfl⟩
  | NotEq =>
    obtain ⟨b, e, h⟩ := bOut_post h
    obtain ⟨b', e0, rfl⟩ := Option.map_eq_some_iff.mp e
    obtain ⟨d1, d2, e1, e2, f1, f2, rfl⟩ := eqD_some e0
    exact op_neD hu pins s st H _ _ v u Q I rx ry ⟨d1, d2, dp_top S hp e1, dp_top S hq e2, f1, f2, WV.here h S rfl⟩
  | Lt =>
    dsimp only at h
    split at h
    · subst hp; subst hq; exact op_lt pins s st H _ _ v u Q I rx ry ⟨_, _, rfl, rfl, WV.here h S rfl⟩
    · subst hp; subst hq; exact op_lt_str pins s st H _ _ v u Q I rx ry ⟨_, _, rfl, rfl, WV.here h S rfl⟩
    · exact h.elim
  | LtE =>
    dsimp only at h
    split at h
    · subst hp; subst hq; exact op_le pins s st H _ _ v u Q I rx ry ⟨_, _, rfl, rfl, WV.here h S rfl⟩
    · exact h.elim
  | Gt =>
    dsimp only at h
    split at h
    · subst hp; subst hq; exact op_gt pins s st H _ _ v u Q I rx ry ⟨_, _, rfl, rfl, WV.here h S rfl⟩
    · exact h.elim
  | GtE =>
    dsimp only at h
    split at h
    · subst hp; subst hq; exact op_ge pins s st H _ _ v u Q I rx ry ⟨_, _, rfl, rfl, WV.here h S rfl⟩
    · exact h.elim
  | Is =>
    dsimp only at h
    split at h
    · subst hq
      refine op_isN pins s st H _ _ v u Q I rx ry ⟨rfl, ?_⟩
      split at h
      · subst hp; exact WV.here h S rfl
      · rename_i hn
        have z : decide (x = .non) = false := by
          refine decide_eq_false fun e => ?_
          subst e
          cases p with
          | non => exact hn rfl
          | bl b => cases hp
          | int b => cases hp
          | str b => cases hp
          | tup b => obtain ⟨a, vs, e, _⟩ := hp; cases e
          | lst b => obtain ⟨a, vs, e, _⟩ := hp; cases e
          | scr b => obtain ⟨a, e, _⟩ := hp; cases e
          | ref n => obtain ⟨_, e⟩ := hp; cases e
          | glb n => obtain ⟨a, _, e⟩ := hp; cases e
          | ty n => cases hp
        rw [z]; exact WV.here h S rfl
    · exact h.elim
  | IsNot =>
    dsimp only at h
    split at h
    · subst hq
      refine op_notN pins s st H _ _ v u Q I rx ry ⟨rfl, ?_⟩
      split at h
      · subst hp; exact WV.here h S rfl
      · rename_i hn
        have z : decide (x = .non) = false := by
          refine decide_eq_false fun e => ?_
          subst e
          cases p with
          | non => exact hn rfl
          | bl b => cases hp
          | int b => cases hp
          | str b => cases hp
          | tup b => obtain ⟨a, vs, e, _⟩ := hp; cases e
          | lst b => obtain ⟨a, vs, e, _⟩ := hp; cases e
          | scr b => obtain ⟨a, e, _⟩ := hp; cases e
          | ref n => obtain ⟨_, e⟩ := hp; cases e
          | glb n => obtain ⟨a, _, e⟩ := hp; cases e
          | ty n => cases hp
        rw [z]; exact WV.here h S rfl
    · exact h.elim
  | In =>
    obtain ⟨b, e, h⟩ := bOut_post h
    exact inD_rule (neg := false) pins s st H x y v u Q io m p q b I rx ry S hp hq e (WV.here h S rfl)
  | NotIn =>
    obtain ⟨b, e, h⟩ := bOut_post h
    obtain ⟨b', e0, rfl⟩ := Option.map_eq_some_iff.mp e
    exact inD_rule (neg := true) pins s st H x y v u Q io m p q b' I rx ry S hp hq e0 (WV.here h S rfl)

/-! ### subscripts -/
theorem ixN_eq (n : Nat) (i : Int) : LC.ixN n i = L2.ixN n i := rfl
theorem atI_rep {K : PySem.W.Frag} {mg : Str → Option Value} {io : Pl} {N : Nat} {H : Hp} {ds : List D} {vs : List V} {i : Int} {d : D} (r : RepVs K mg io N H ds vs) (e : atI ds i = some d) : ∃ v, L2.atI vs i = some v ∧ RepV K mg io N H d v := by
  unfold atI at e
  unfold L2.atI
  rw [← r.length, ← ixN_eq]
  cases z : LC.ixN ds.length i with
  | none => rw [z] at e; cases e
  | some j =>
    rw [z] at e
    exact r.get e
theorem ix_any : IxR X (rOp X.K X.mg opIx) := by
  intro value slice pins s st H x y v u Q I rx ry h hs
  obtain ⟨io, m, p, q, S, hp, hq, h⟩ := h
  unfold opIx at h
  split at h
  · rename_i xs i e
    rw [top_tup e] at hp
    subst hq
    obtain ⟨a, vs, rfl, q1, r⟩ := hp
    obtain ⟨d, e2, h⟩ := oOut_post h
    obtain ⟨w, e3, rw⟩ := atI_rep r e2
    exact ix_tup value slice pins s st H _ _ v u Q I rx ry ⟨a, vs, i, w, rfl, rfl, q1, e3, WV.here h S rw⟩ hs
  · rename_i xs i e
    subst hq
    obtain ⟨a, vs, rfl, q1, r⟩ := topLst S hp e
    obtain ⟨d, e2, h⟩ := oOut_post h
    obtain ⟨w, e3, rw⟩ := atI_rep r e2
    exact ix_list value slice pins s st H _ _ v u Q I rx ry ⟨a, vs, i, w, rfl, rfl, SqL.of q1, e3, WV.here h S rw⟩ hs
  · rename_i ns i e
    rw [top_scr e] at hp
    subst hq
    obtain ⟨a, rfl, q1⟩ := hp
    obtain ⟨d, e2, h⟩ := oOut_post h
    obtain ⟨k, e3, rfl⟩ := Option.map_eq_some_iff.mp e2
    have e4 : L2.atI (ns.map V.int) i = some (.int k) := by
      unfold atI at e3
      unfold L2.atI
      rw [List.length_map, ← ixN_eq]
      cases z : LC.ixN ns.length i with
      | none => rw [z] at e3; cases e3
      | some j =>
        rw [z] at e3
        show (ns.map V.int)[j]? = _
        rw [List.getElem?_map, show ns[j]? = some k from e3]
        rfl
    exact ix_list value slice pins s st H _ _ v u Q I rx ry ⟨a, _, i, _, rfl, rfl, q1.sq, e4, WV.here h S rfl⟩ hs
  · rename_i z i e
    rw [top_str e] at hp
    subst hp
    subst hq
    split at h
    · rename_i hz
      obtain ⟨d, e2, h⟩ := oOut_post h
      obtain ⟨k, e3, rfl⟩ := Option.map_eq_some_iff.mp e2
      exact ix_str value slice pins s st H _ _ v u Q I rx ry ⟨z, i, k, rfl, rfl, by rw [← lim]; exact of_decide_eq_true hz, e3, WV.here h S rfl⟩ hs
    · exact h.elim
  · exact h.elim
theorem sIx_eq (n d : Nat) (i : Option Int) : sIx n d i = HT.sIx n d i := by
  cases i with
  | none => rfl
  | some i => unfold sIx HT.sIx; rfl
end
end LC

/-! # LcF: slices, truth, built-in functions -/
namespace LC
open PySem PySem.Spec PyProof.Rows L2
section
variable {X : Cx}
theorem RepVs.cut {K : PySem.W.Frag} {mg : Str → Option Value} {io : Pl} {N : Nat} {H : Hp} {ds : List D} {vs : List V} (lo hi : Option Int) (r : RepVs K mg io N H ds vs) : RepVs K mg io N H (cut ds lo hi) (cutV vs lo hi) := by
  unfold LC.cut L2.cutV
  rw [sIx_eq, sIx_eq, r.length]
  exact (r.drop _).take _
def rSl (K : PySem.W.Frag) (mg : Str → Option Value) (f : D → Option Int → Option Int → M D) : V → Option Int → Option Int → Hp → VK → Prop := fun x lo hi H Q =>
  ∃ io m p, SRel K mg io m H ∧ RepV K mg io m.length H p x ∧ Post (f p lo hi m) (WV K mg io m H Q)
theorem sl_any {mu : Bool} : SlR X (rSl X.K X.mg (opSl mu)) := by
  intro pins s st H x v vl vu lo hi sl Q I rx hs pl pu h
  obtain ⟨io, m, p, S, hp, h⟩ := h
  unfold opSl at h
  split at h
  · rename_i xs e
    rw [top_tup e] at hp
    obtain ⟨a, vs, rfl, q1, r⟩ := hp
    have key : ∀ (c : Addr) (H' : Hp), SRel X.K X.mg io m H' → LC.Ext io m.length H io m.length H' → SqT X.K H' c (cutV vs lo hi) → Q (.ref c) H' := fun c H' S' x q =>
      h io H' _ x S' ⟨c, _, rfl, q, (r.cut lo hi).keep S x⟩
    refine sl_tupA pins s st H _ v vl vu lo hi sl Q I rx hs pl pu ⟨a, vs, rfl, q1, fun ⟨e1, e2⟩ => ?_, fun _ p hp => ?_⟩
    · refine key a H S LC.Ext.refl ?_
      have z : cutV vs lo hi = vs := by
        unfold L2.cutV
        rw [e1, e2]
        simp
      rw [z]; exact q1
    · exact key p _ (S.new hp) (LC.Ext.new hp) (.inl (.inl upd_same))
  · rename_i xs e
    obtain ⟨a, vs, rfl, q1, r⟩ := topLst S hp e
    exact sl_list pins s st H _ v vl vu lo hi sl Q I rx hs pl pu ⟨a, vs, rfl, SqL.of q1, fun p hp => Post.lst h S hp (r.cut lo hi)⟩
  · rename_i ns e
    rw [top_scr e] at hp
    obtain ⟨a, rfl, q1⟩ := hp
    exact sl_list pins s st H _ v vl vu lo hi sl Q I rx hs pl pu ⟨a, _, rfl, q1.sq, fun p hp => WV.frozen h S hp (repLst S hp ((RepVs.ints ns).cut lo hi))⟩
  · rename_i z e
    rw [top_str e] at hp
    subst hp
    split at h
    · rename_i hz
      refine sl_str pins s st H _ v vl vu lo hi sl Q I rx hs pl pu ⟨z, rfl, by rw [← lim]; exact of_decide_eq_true hz, WV.here h S ?_⟩
      show _ = V.str _
      unfold L2.cutS LC.cut
      rw [sIx_eq, sIx_eq]
      simp only [Array.length_toList]
      rfl
    · exact h.elim
  · exact h.elim

/-! ### truth -/
theorem tru_rule (H : Hp) (x : V) (Q : Bool → Hp → Prop) (io : Pl) (m : Sto) (p : D) (S : SRel X.K X.mg io m H)
    (hp : RepV X.K X.mg io m.length H p x) (h : Post (tru p m) (WB X.K X.mg io m H Q)) : ∃ k, TruV X.K x H k ∧ Q k H := by
  unfold tru at h
  have fin : ∀ b, WB X.K X.mg io m H Q b m → Q b H := fun b z => z io H LC.Ext.refl S
  have flt : ∀ {d : D}, top m p = d → (∀ n, p ≠ .ref n) → p = d := fun {d} e hn => by
    cases p with
    | ref n => exact absurd rfl (hn n)
    | _ => exact e
  have nr : ∀ {d : D}, top m p = d → (∀ xs, d ≠ .lst xs) → (∀ n, d ≠ .ref n) → p = d := fun {d} e h1 h2 => by
    cases p with
    | ref n =>
      unfold top at e
      dsimp only at e
      cases q : m[n]? with
      | none => rw [q] at e; exact e
      | some o => cases o with
        | lst xs => rw [q] at e; exact absurd e.symm (h1 xs)
        | ins C fs => rw [q] at e; exact e
    | _ => exact e
  split at h
  · rename_i e
    have e := nr e (fun _ z => nomatch z) (fun _ z => nomatch z)
    subst e; subst hp; exact ⟨_, rfl, fin _ h⟩
  · rename_i b e
    have e := nr e (fun _ z => nomatch z) (fun _ z => nomatch z)
    subst e; subst hp; exact ⟨_, rfl, fin _ h⟩
  · rename_i b e
    have e := nr e (fun _ z => nomatch z) (fun _ z => nomatch z)
    subst e; subst hp; exact ⟨_, rfl, fin _ h⟩
  · rename_i b e
    rw [top_str e] at hp
    subst hp
    split at h
    · rename_i hz
      exact ⟨_, ⟨by rw [← lim]; exact of_decide_eq_true hz, rfl⟩, fin _ h⟩
    · exact h.elim
  · rename_i xs e
    rw [top_tup e] at hp
    obtain ⟨a, vs, rfl, q1, r⟩ := hp
    refine ⟨_, .inr (.inl ⟨vs, q1, rfl⟩), ?_⟩
    have z : vs.isEmpty = xs.isEmpty := by
      have := r.length
      cases xs <;> cases vs <;> simp_all
    rw [z]; exact fin _ h
  · rename_i xs e
    obtain ⟨a, vs, rfl, q1, r⟩ := topLst S hp e
    refine ⟨_, .inl ⟨vs, SqL.of q1, rfl⟩, ?_⟩
    have z : vs.isEmpty = xs.isEmpty := by
      have := r.length
      cases xs <;> cases vs <;> simp_all
    rw [z]; exact fin _ h
  · exact h.elim

/-! ### x[y] = v -/
theorem set_rule (pins : List (Addr × Obj)) (s : Shared) (st : L2.St) (H : Hp) (o i v : V) (ov iv u : Value) (Q : Hp → Prop) (io : Pl) (m : Sto) (po pi pv : D) (I : Inv X pins st H s) (ro : RelV o ov) (ri : RelV i iv) (rv : RelV v u) (S : SRel X.K X.mg io m H)
    (ho : RepV X.K X.mg io m.length H po o) (hi : RepV X.K X.mg io m.length H pi i) (hv : RepV X.K X.mg io m.length H pv v)
    (h : Post (opSet po pi pv m) fun _ m' => ∀ H', LC.Ext io m.length H io m'.length H' → SRel X.K X.mg io m' H' → Q H') :
    wpAny (model X.prog X.w) X.A (setItem ov iv u) (fun _ s' => ∃ H', Inv X pins st H' s' ∧ Q H') X.xe s := by
  unfold opSet at h
  split at h
  · rename_i n k
    obtain ⟨hn, rfl⟩ := ho
    subst hi
    split at h
    · rename_i xs e
      split at h
      · rename_i j ej
        have r := S.ob n _ e
        obtain ⟨vs, h1, r1⟩ := r
        refine set_list pins s st H _ _ v ov iv u Q I ro ri rv ⟨io n, vs, k, j, rfl, rfl, h1, by rw [← r1.length, ← ixN_eq]; exact ej, ?_⟩
        refine h _ (by rw [List.length_set]; exact LC.Ext.write S hn) (S.write hn ⟨_, upd_same, ?_⟩)
        exact (r1.set j hv).keep S (LC.Ext.write S hn)
      · exact h.elim
    · exact h.elim
  · exact h.elim
end

/-! ### built-in functions -/
section
variable {K : PySem.W.Frag} {mg : Str → Option Value} {io : Pl} {N : Nat} {m : Sto} {H : Hp}
theorem ints_rep : ∀ {ds : List D} {vs : List V} {ns : List Int}, asInts ds = some ns → RepVs K mg io N H ds vs → vs = ns.map V.int
  | [], vs, ns, e, r => by cases (show vs = [] from r); cases e; rfl
  | d :: ds, vs, ns, e, r => by
    obtain ⟨v, us, rfl, h1, h2⟩ := r
    cases d with
    | int i =>
      cases (show v = .int i from h1)
      unfold asInts at e
      cases z : asInts ds with
      | none => rw [z] at e; cases e
      | some q => rw [z] at e; cases e; rw [ints_rep z h2]; rfl
    | _ => cases e
theorem bools_rep : ∀ {ds : List D} {vs : List V} {ns : List Bool}, asBools ds = some ns → RepVs K mg io N H ds vs → vs = ns.map V.bl
  | [], vs, ns, e, r => by cases (show vs = [] from r); cases e; rfl
  | d :: ds, vs, ns, e, r => by
    obtain ⟨v, us, rfl, h1, h2⟩ := r
    cases d with
    | bl i =>
      cases (show v = .bl i from h1)
      unfold asBools at e
      cases z : asBools ds with
      | none => rw [z] at e; cases e
      | some q => rw [z] at e; cases e; rw [bools_rep z h2]; rfl
    | _ => cases e
theorem most_ge : ∀ (ns : List Int) (n : Int), n ∈ ns → n ≤ most ns
  | [], _, h => by cases h
  | [x], n, h => by rw [List.mem_singleton] at h; rw [h]; exact Int.le_refl _
  | x :: y :: r, n, h => by
    show n ≤ max x (most (y :: r))
    rcases List.mem_cons.mp h with e | h
    · omega
    · have := most_ge (y :: r) n h; omega
theorem most_mem : ∀ (ns : List Int), 0 < ns.length → most ns ∈ ns
  | [], h => by cases h
  | [x], _ => List.mem_singleton.mpr rfl
  | x :: y :: r, _ => by
    have ih := most_mem (y :: r) (Nat.succ_pos _)
    show max x (most (y :: r)) ∈ _
    by_cases hx : most (y :: r) ≤ x
    · rw [Int.max_eq_left hx]; exact List.mem_cons_self
    · rw [Int.max_eq_right (by omega)]; exact List.mem_cons_of_mem _ ih
theorem least_le : ∀ (ns : List Int) (n : Int), n ∈ ns → least ns ≤ n
  | [], _, h => by cases h
  | [x], n, h => by rw [List.mem_singleton] at h; rw [h]; exact Int.le_refl _
  | x :: y :: r, n, h => by
    show min x (least (y :: r)) ≤ n
    rcases List.mem_cons.mp h with e | h
    · omega
    · have := least_le (y :: r) n h; omega
theorem least_mem : ∀ (ns : List Int), 0 < ns.length → least ns ∈ ns
  | [], h => by cases h
  | [x], _ => List.mem_singleton.mpr rfl
  | x :: y :: r, _ => by
    have ih := least_mem (y :: r) (Nat.succ_pos _)
    show min x (least (y :: r)) ∈ _
    by_cases hx : x ≤ least (y :: r)
    · rw [Int.min_eq_left hx]; exact List.mem_cons_self
    · rw [Int.min_eq_right (by omega)]; exact List.mem_cons_of_mem _ ih
theorem rep1 {d : D} {vs : List V} (h : RepVs K mg io N H [d] vs) : ∃ v, vs = [v] ∧ RepV K mg io N H d v := by
  obtain ⟨v, r, rfl, h1, h2⟩ := h
  cases (show r = [] from h2)
  exact ⟨v, rfl, h1⟩
theorem rep2 {d e : D} {vs : List V} (h : RepVs K mg io N H [d, e] vs) : ∃ v u, vs = [v, u] ∧ RepV K mg io N H d v ∧ RepV K mg io N H e u := by
  obtain ⟨v, r, rfl, h1, h2⟩ := h
  obtain ⟨u, rfl, h3⟩ := rep1 h2
  exact ⟨v, u, rfl, h1, h3⟩
end
def rCB (K : PySem.W.Frag) (mg : Str → Option Value) (f : List D → M D) : List V → Hp → VK → Prop := fun xs H Q => ∃ io m ps, SRel K mg io m H ∧ RepVs K mg io m.length H ps xs ∧ Post (f ps m) (WV K mg io m H Q)
section
variable {X : Cx}
theorem nref {m : Sto} {p d : D} (e : top m p = d) (h1 : ∀ xs, d ≠ .lst xs) (h2 : ∀ n, d ≠ .ref n) : p = d := by
  cases p with
  | ref n =>
    unfold top at e
    dsimp only at e
    cases q : m[n]? with
    | none => rw [q] at e; exact e
    | some o => cases o with
      | lst xs => rw [q] at e; exact absurd e.symm (h1 xs)
      | ins C fs => rw [q] at e; exact e
  | _ => exact e
theorem seq_rep {K : PySem.W.Frag} {mg : Str → Option Value} {io : Pl} {m : Sto} {H : Hp} {p : D} {x : V} {xs : List D} (S : SRel K mg io m H) (hp : RepV K mg io m.length H p x) (e : seqOf m p = some xs) :
    ∃ a vs, x = .ref a ∧ (SqL K H a vs ∨ SqT K H a vs) ∧ RepVs K mg io m.length H xs vs := by
  unfold seqOf at e
  split at e
  · rename_i ys z
    cases e
    rw [top_tup z] at hp
    obtain ⟨a, vs, rfl, q1, r⟩ := hp
    exact ⟨a, vs, rfl, .inr q1, r⟩
  · rename_i ys z
    cases e
    obtain ⟨a, vs, rfl, q1, r⟩ := topLst S hp z
    exact ⟨a, vs, rfl, .inl (SqL.of q1), r⟩
  · rename_i ns z
    cases e
    rw [top_scr z] at hp
    obtain ⟨a, rfl, q1⟩ := hp
    exact ⟨a, _, rfl, .inl q1.sq, RepVs.ints ns⟩
  · cases e

theorem cb_len : CallR X (.builtin "len") (rCB X.K X.mg bLen) := by
  intro pins s st H xs us Q I r ⟨io, m, ps, S, hp, h⟩
  unfold bLen at h
  split at h <;> first | exact h.elim | skip
  rename_i d
  obtain ⟨v, rfl, hv⟩ := rep1 hp
  split at h
  · rename_i z e
    rw [top_str e] at hv
    subst hv
    split at h
    · rename_i hz
      exact call_len_str pins s st H _ us Q I r ⟨z, rfl, by rw [← lim]; exact of_decide_eq_true hz, WV.here h S rfl⟩
    · exact h.elim
  · split at h
    · rename_i ys e
      obtain ⟨a, vs, rfl, q1, r1⟩ := seq_rep S hv e
      exact call_len_seq pins s st H _ us Q I r ⟨a, vs, rfl, q1, WV.here h S (by rw [r1.length]; rfl)⟩
    · exact h.elim
theorem cb_abs : CallR X (.builtin "abs") (rCB X.K X.mg bAbs) := by
  intro pins s st H xs us Q I r ⟨io, m, ps, S, hp, h⟩
  unfold bAbs at h
  split at h <;> first | exact h.elim | skip
  rename_i i
  obtain ⟨v, rfl, hv⟩ := rep1 hp
  subst hv
  exact call_abs pins s st H _ us Q I r ⟨i, rfl, WV.here h S rfl⟩
theorem cb_max (hc : X.calm = true) : CallR X (.builtin "max") (rCB X.K X.mg bMax) := by
  intro pins s st H xs us Q I r ⟨io, m, ps, S, hp, h⟩
  unfold bMax at h
  split at h <;> first | exact h.elim | skip
  · rename_i i j
    obtain ⟨v, u, rfl, hv, hu⟩ := rep2 hp
    subst hv; subst hu
    exact call_max2 hc pins s st H _ us Q I r ⟨i, j, rfl, WV.here h S rfl⟩
  · rename_i d
    obtain ⟨v, rfl, hv⟩ := rep1 hp
    split at h
    · rename_i ys e
      obtain ⟨a, vs, rfl, q1, r1⟩ := topLst S hv e
      split at h
      · rename_i n ns e2
        have ev := ints_rep e2 r1
        subst ev
        refine cr_max hc pins s st H _ us Q I r ⟨a, n :: ns, rfl, SqL.of q1, Nat.succ_pos _, fun k hk hle => ?_⟩
        have e3 : k = most (n :: ns) := Int.le_antisymm (most_ge _ _ hk) (hle _ (most_mem _ (Nat.succ_pos _)))
        rw [e3]; exact WV.here h S rfl
      · exact h.elim
    · exact h.elim
theorem cb_min (hc : X.calm = true) : CallR X (.builtin "min") (rCB X.K X.mg bMin) := by
  intro pins s st H xs us Q I r ⟨io, m, ps, S, hp, h⟩
  unfold bMin at h
  split at h <;> first | exact h.elim | skip
  · rename_i i j
    obtain ⟨v, u, rfl, hv, hu⟩ := rep2 hp
    subst hv; subst hu
    exact call_min2 hc pins s st H _ us Q I r ⟨i, j, rfl, WV.here h S rfl⟩
  · rename_i d
    obtain ⟨v, rfl, hv⟩ := rep1 hp
    split at h
    · rename_i ys e
      obtain ⟨a, vs, rfl, q1, r1⟩ := topLst S hv e
      split at h
      · rename_i n ns e2
        have ev := ints_rep e2 r1
        subst ev
        refine cr_min hc pins s st H _ us Q I r ⟨a, n :: ns, rfl, SqL.of q1, Nat.succ_pos _, fun k hk hle => ?_⟩
        have e3 : k = least (n :: ns) := Int.le_antisymm (hle _ (least_mem _ (Nat.succ_pos _))) (least_le _ _ hk)
        rw [e3]; exact WV.here h S rfl
      · exact h.elim
    · exact h.elim
theorem cb_sum (hc : X.calm = true) : CallR X (.builtin "sum") (rCB X.K X.mg bSum) := by
  intro pins s st H xs us Q I r ⟨io, m, ps, S, hp, h⟩
  unfold bSum at h
  split at h <;> first | exact h.elim | skip
  rename_i d
  obtain ⟨v, rfl, hv⟩ := rep1 hp
  split at h
  · rename_i ys e
    obtain ⟨a, vs, rfl, q1, r1⟩ := topLst S hv e
    split at h
    · rename_i ns e2
      have ev := ints_rep e2 r1
      subst ev
      exact cr_sum hc pins s st H _ us Q I r ⟨a, ns, rfl, SqL.of q1, WV.here h S rfl⟩
    · exact h.elim
  · exact h.elim
theorem cb_all (hc : X.calm = true) : CallR X (.builtin "all") (rCB X.K X.mg bAll) := by
  intro pins s st H xs us Q I r ⟨io, m, ps, S, hp, h⟩
  unfold bAll at h
  split at h <;> first | exact h.elim | skip
  rename_i d
  obtain ⟨v, rfl, hv⟩ := rep1 hp
  split at h
  · rename_i ys e
    obtain ⟨a, vs, rfl, q1, r1⟩ := topLst S hv e
    split at h
    · rename_i ns e2
      have ev := bools_rep e2 r1
      subst ev
      exact cr_all hc pins s st H _ us Q I r ⟨a, ns, rfl, SqL.of q1, WV.here h S rfl⟩
    · exact h.elim
  · exact h.elim
theorem cb_any (hc : X.calm = true) : CallR X (.builtin "any") (rCB X.K X.mg bAny) := by
  intro pins s st H xs us Q I r ⟨io, m, ps, S, hp, h⟩
  unfold bAny at h
  split at h <;> first | exact h.elim | skip
  rename_i d
  obtain ⟨v, rfl, hv⟩ := rep1 hp
  split at h
  · rename_i ys e
    obtain ⟨a, vs, rfl, q1, r1⟩ := topLst S hv e
    split at h
    · rename_i ns e2
      have ev := bools_rep e2 r1
      subst ev
      exact cr_any hc pins s st H _ us Q I r ⟨a, ns, rfl, SqL.of q1, WV.here h S rfl⟩
    · exact h.elim
  · exact h.elim
theorem cb_divmod : CallR X (.builtin "divmod") (rCB X.K X.mg bDivmod) := by
  intro pins s st H xs us Q I r ⟨io, m, ps, S, hp, h⟩
  unfold bDivmod at h
  split at h <;> first | exact h.elim | skip
  rename_i i j
  obtain ⟨v, u, rfl, hv, hu⟩ := rep2 hp
  subst hv; subst hu
  split at h
  · rename_i hd
    unfold divOk at hd
    simp only [Bool.and_eq_true, decide_eq_true_eq] at hd
    exact call_divmodW pins s st H _ us Q I r ⟨i, j, rfl, ⟨hd.1, PyProof.noPylong_of_log2 hd.2⟩, fun p hp => WV.frozen h S hp (repTup S hp ⟨_, _, rfl, rfl, _, _, rfl, rfl, rfl⟩)⟩
  · exact h.elim
end
end LC

/-! # LcG: rules of expressions -/
namespace LC
open PySem PySem.Spec PyProof.Rows L2
theorem PE.mono {X : Cx} {e : Expr} {t t' : TE} (h : PE X e t) (k : ∀ st H Q, t' st H Q → t st H Q) : PE X e t' := ⟨fun pins s st H Q I q => h.run pins s st H Q I (k _ _ _ q)⟩
theorem PT.mono {X : Cx} {e : Expr} {t t' : TT} (h : PT X e t) (k : ∀ st H Q, t' st H Q → t st H Q) : PT X e t' := ⟨fun pins s st H Q I q => h.run pins s st H Q I (k _ _ _ q)⟩
theorem PW.mono {X : Cx} {e : Expr} {t t' : TT} (h : PW X e t) (k : ∀ st H Q, t' st H Q → t st H Q) : PW X e t' := ⟨fun wh pins s st H Q I q => h.run wh pins s st H Q I (k _ _ _ q)⟩
theorem PA.mono {X : Cx} {e : List Expr} {t t' : TA} (h : PA X e t) (k : ∀ st H Q, t' st H Q → t st H Q) : PA X e t' := ⟨fun pos pins s st H Q I q => h.run pos pins s st H Q I (k _ _ _ q)⟩
theorem PS.mono {X : Cx} {e : Stmt} {t t' : TS} (h : PS X e t) (k : ∀ D st H, t' D st H → t D st H) : PS X e t' := ⟨fun pins s st H Q I q => h.run pins s st H Q I (k _ _ _ q)⟩
theorem PSs.mono {X : Cx} {e : List Stmt} {t t' : TS} (h : PSs X e t) (k : ∀ D st H, t' D st H → t D st H) : PSs X e t' := ⟨fun pins s st H Q I q => h.run pins s st H Q I (k _ _ _ q)⟩

section
variable {K : PySem.W.Frag} {mg : Str → Option Value} {io : Pl} {r : Env} {m : Sto} {st : L2.St} {H : Hp}
theorem tM.bind {β : Type} {ma : Env → M D} {k : D → M β} {F : β → Sto → Prop} {R : VK} (s : S0 K mg io r m st H) (h : Post (bnd (ma r) k m) F)
    (c : ∀ io' H' m' p x, Ext io m.length H io' m'.length H' → S0 K mg io' r m' st H' → RepV K mg io' m'.length H' p x → Post (k p m') F → R x H') : tM K mg ma st H R :=
  ⟨io, r, m, s, (Post.of_bnd h).mono fun p m' q io' H' x e S rp => c io' H' m' p x e (s.next e S) rp q⟩
theorem tT.bind {β : Type} {ma : Env → M Bool} {k : Bool → M β} {F : β → Sto → Prop} {R : Bool → Hp → Prop} (s : S0 K mg io r m st H) (h : Post (bnd (ma r) k m) F)
    (c : ∀ io' H' m' p, Ext io m.length H io' m'.length H' → S0 K mg io' r m' st H' → Post (k p m') F → R p H') : tT K mg ma st H R :=
  ⟨io, r, m, s, (Post.of_bnd h).mono fun p m' q io' H' e S => c io' H' m' p e (s.next e S) q⟩
theorem tL.bind {β : Type} {ma : Env → M (List D)} {k : List D → M β} {F : β → Sto → Prop} {R : List V → Hp → Prop} (s : S0 K mg io r m st H) (h : Post (bnd (ma r) k m) F)
    (c : ∀ io' H' m' p x, Ext io m.length H io' m'.length H' → S0 K mg io' r m' st H' → RepVs K mg io' m'.length H' p x → Post (k p m') F → R x H') : tL K mg ma st H R :=
  ⟨io, r, m, s, (Post.of_bnd h).mono fun p m' q io' H' x e S rp => c io' H' m' p x e (s.next e S) rp q⟩
theorem tM.of {ma : Env → M D} {Q : VK} (s : S0 K mg io r m st H) (h : Post (ma r m) (WV K mg io m H Q)) : tM K mg ma st H Q := ⟨io, r, m, s, h⟩
theorem tT.of {ma : Env → M Bool} {Q : Bool → Hp → Prop} (s : S0 K mg io r m st H) (h : Post (ma r m) (WB K mg io m H Q)) : tT K mg ma st H Q := ⟨io, r, m, s, h⟩
theorem rOp.mk {f : D → D → M D} {p q : D} {x y : V} {Q : VK} (S : SRel K mg io m H) (hp : RepV K mg io m.length H p x) (hq : RepV K mg io m.length H q y) (h : Post (f p q m) (WV K mg io m H Q)) : rOp K mg f x y H Q := ⟨io, m, p, q, S, hp, hq, h⟩
theorem WVpost.from {o : Out D} {io' : Pl} {m' : Sto} {H' : Hp} {Q : VK} (x : Ext io m.length H io' m'.length H') (h : Post o (WV K mg io m H Q)) : Post o (WV K mg io' m' H' Q) := h.mono fun _ _ z => WV.from x z
theorem WBpost.from {o : Out Bool} {io' : Pl} {m' : Sto} {H' : Hp} {Q : Bool → Hp → Prop} (x : Ext io m.length H io' m'.length H') (h : Post o (WB K mg io m H Q)) : Post o (WB K mg io' m' H' Q) := h.mono fun _ _ z => WB.from x z
theorem WLpost.from {o : Out (List D)} {io' : Pl} {m' : Sto} {H' : Hp} {Q : List V → Hp → Prop} (x : Ext io m.length H io' m'.length H') (h : Post o (WL K mg io m H Q)) : Post o (WL K mg io' m' H' Q) := h.mono fun _ _ z => WL.from x z
theorem WFpost.from {o : Out Flow} {io' : Pl} {m' : Sto} {H' : Hp} {Q : Ends} (x : Ext io m.length H io' m'.length H') (h : Post o (WF K mg io m H Q)) : Post o (WF K mg io' m' H' Q) := h.mono fun _ _ z => WF.from x z
theorem WEpost.from {o : Out Env} {io' : Pl} {m' : Sto} {H' : Hp} {ws : List Nat} {Q : L2.St → Hp → Prop} (x : Ext io m.length H io' m'.length H') (h : Post o (WE K mg io m H st ws Q)) : Post o (WE K mg io' m' H' st ws Q) := h.mono fun _ _ z io2 st2 H2 y S e w => z io2 st2 H2 (x.trans y) S e w
theorem two {ma mb : Env → M D} {g : D → D → M D} {Q : VK} (s : S0 K mg io r m st H) (h : Post (bnd (ma r) (fun p => bnd (mb r) fun q => g p q) m) (WV K mg io m H Q)) : tOp (rOp K mg g) (tM K mg ma) (tM K mg mb) st H Q :=
  tM.bind s h fun io1 H1 m1 p x e1 s1 r1 h1 => tM.bind s1 h1 fun io2 H2 m2 q y e2 s2 r2 h2 => rOp.mk s2.s (r1.keep s1.s e2) r2 (WVpost.from (e1.trans e2) h2)
theorem asB_post {d : D} {F : Bool → Sto → Prop} (h : Post (asB d m) F) : ∃ b, d = .bl b ∧ F b m := by
  cases d with
  | bl b => exact ⟨b, rfl, h⟩
  | _ => exact h.elim
theorem asI_post {d : D} {F : Option Int → Sto → Prop} (h : Post (asI d m) F) : ∃ b, d = .int b ∧ F (some b) m := by
  cases d with
  | int b => exact ⟨b, rfl, h⟩
  | _ => exact h.elim
theorem asS_post {d : D} {F : Str → Sto → Prop} (h : Post (asS d m) F) : ∃ b, d = .str b ∧ F b m := by
  cases d with
  | str b => exact ⟨b, rfl, h⟩
  | _ => exact h.elim
theorem repBl {b : Bool} {N : Nat} {v : V} (h : RepV K mg io N H (.bl b) v) : v = .bl b := h
theorem repInt {b : Int} {N : Nat} {v : V} (h : RepV K mg io N H (.int b) v) : v = .int b := h
theorem repStr {b : Str} {N : Nat} {v : V} (h : RepV K mg io N H (.str b) v) : v = .str b := h
end

section
variable {X : Cx} {a b c : Expr} {ma mb mc : Env → M D} {ta tb : Env → M Bool} {pos : Pos}
local macro_rules | `(tactic| walk_at "pe") => `(tactic| (refine PE.mono ?h fun st H Q hw => ?k; (case k => obtain ⟨io, r, m, s, h⟩ := hw)))

theorem se_var {k : Nat} {x : Str} (hN : X.N[k]? = some x) (hv : Vis X.env.scope x) (hd : (x == ("__debug__" : Str)) = false) (hc : (x == ("__classdict__" : Str)) = false) : PE X (.Name x pos) (tM X.K X.mg (getV k)) :=
  PE.mono (pe_var hN hv hd hc) fun st H Q ⟨io, r, m, s, h⟩ => by
    unfold getV at h
    split at h
    · rename_i d e
      obtain ⟨v, h1, h2⟩ := s.e.2 k d e
      exact ⟨v, h1, WV.here h s.s h2⟩
    · exact h.elim
theorem se_glob {x : Str} {gl : List (Str × D)} {u : Value} {v : V} (hg : Gl X x) (hm : X.mg x = some u) (rv : RelV v u) (hd : (x == ("__debug__" : Str)) = false)
    (hr : ∀ d, gl.lookup x = some d → ∀ io N H, RepV X.K X.mg io N H d v) : PE X (.Name x pos) (tM X.K X.mg fun _ => oOut (gl.lookup x)) :=
  PE.mono (pe_glob hg hm rv hd) fun st H Q ⟨io, r, m, s, h⟩ => by
    obtain ⟨d, e, h⟩ := oOut_post h
    exact WV.here h s.s (hr d e _ _ _)
theorem se_bt {x : String} (hg : Gl X x) (hm : X.mg x = none) (hv : bootBuiltins x = some (.type x)) (hn : (PySem.Str.ofString x) ≠ "__name__") (hd : ((x : Str) == ("__debug__" : Str)) = false) : PE X (.Name x pos) (tM X.K X.mg fun _ => LC.ret (.ty x)) :=
  PE.mono (pe_bltn (v := .ty x) hg hm hv rfl hn hd) fun st H Q ⟨io, r, m, s, h⟩ => WV.here (show WV X.K X.mg io m H Q (.ty x) m from h) s.s rfl
theorem se_int {i : Int} {j : Nat} : PE X (.Constant (.int i) j pos) (tM X.K X.mg fun _ => LC.ret (.int i)) :=
  PE.mono pe_int fun st H Q ⟨io, r, m, s, h⟩ => WV.here (show WV X.K X.mg io m H Q _ m from h) s.s rfl
theorem se_str {i : Str} {j : Nat} : PE X (.Constant (.str i) j pos) (tM X.K X.mg fun _ => LC.ret (.str i)) :=
  PE.mono pe_str fun st H Q ⟨io, r, m, s, h⟩ => WV.here (show WV X.K X.mg io m H Q _ m from h) s.s rfl
theorem se_bl {i : Bool} {j : Nat} : PE X (.Constant (.bool i) j pos) (tM X.K X.mg fun _ => LC.ret (.bl i)) :=
  PE.mono pe_bl fun st H Q ⟨io, r, m, s, h⟩ => WV.here (show WV X.K X.mg io m H Q _ m from h) s.s rfl
theorem se_non {j : Nat} : PE X (.Constant .none j pos) (tM X.K X.mg fun _ => LC.ret .non) :=
  PE.mono pe_non fun st H Q ⟨io, r, m, s, h⟩ => WV.here (show WV X.K X.mg io m H Q _ m from h) s.s rfl
theorem se_bin {mu : Bool} {o : Operator} (ha : PE X a (tM X.K X.mg ma)) (hb : PE X b (tM X.K X.mg mb)) : PE X (.BinOp a o b pos) (tM X.K X.mg fun r => bnd (ma r) fun p => bnd (mb r) fun q => opBin mu o p q) :=
  PE.mono (pe_op op_bin ha hb) fun st H Q ⟨io, r, m, s, h⟩ => two s h
theorem se_neg (ha : PE X a (tM X.K X.mg ma)) : PE X (.UnaryOp .USub a pos) (tM X.K X.mg fun r => bnd (ma r) fun p => bnd (asI p) fun k => LC.ret (.int (-(k.getD 0)))) :=
  PE.mono (pe_un un_neg ha) fun st H Q ⟨io, r, m, s, h⟩ => tM.bind s h fun io1 H1 m1 p x e1 s1 r1 h1 => by
    obtain ⟨i, rfl, h2⟩ := asI_post (Post.of_bnd h1)
    cases repInt r1
    exact ⟨i, rfl, WV.here (WV.from e1 (show WV X.K X.mg io m H Q _ m1 from h2)) s1.s rfl⟩
theorem se_cmp {o : CmpOp} (hu : X.A.units + 64 < cLine) (hm : behindInMarks o b = false) (ha : PE X a (tM X.K X.mg ma)) (hb : PE X b (tM X.K X.mg mb)) : PE X (.Compare a [o] [b] pos) (tM X.K X.mg fun r => bnd (ma r) fun p => bnd (mb r) fun q => opCmp o p q) :=
  PE.mono (pe_cmpR (op_cmp hu) ha hb hm) fun st H Q ⟨io, r, m, s, h⟩ => two s h
theorem st_cmp {o : CmpOp} (hu : X.A.units + 64 < cLine) (hm : behindInMarks o b = false) (ha : PE X a (tM X.K X.mg ma)) (hb : PE X b (tM X.K X.mg mb)) : PT X (.Compare a [o] [b] pos) (tT X.K X.mg fun r => bnd (ma r) fun p => bnd (mb r) fun q => bnd (opCmp o p q) asB) :=
  PT.mono (pt_cmpR (op_cmp hu) ha hb hm) fun st H Q ⟨io, r, m, s, h⟩ =>
    tM.bind s h fun io1 H1 m1 p x e1 s1 r1 h1 => tM.bind s1 h1 fun io2 H2 m2 q y e2 s2 r2 h2 => rOp.mk s2.s (r1.keep s1.s e2) r2 <| (Post.of_bnd h2).mono fun d m3 h3 io3 H3 v e3 S3 r3 => by
      obtain ⟨k, rfl, h4⟩ := asB_post h3
      exact ⟨k, repBl r3, h4 io3 H3 ((e1.trans e2).trans e3) S3⟩
theorem se_chain {o o2 : CmpOp} (hu : X.A.units + 64 < cLine) (hm : lastMarks [o, o2] [b, c] = false) (ha : PE X a (tM X.K X.mg ma)) (hb : PE X b (tM X.K X.mg mb)) (hc : PE X c (tM X.K X.mg mc)) :
    PE X (.Compare a [o, o2] [b, c] pos) (tM X.K X.mg fun r => bnd (ma r) fun p => bnd (mb r) fun q => bnd (opCmp o p q) fun c => bnd (asB c) fun k => if k then bnd (mc r) fun u => opCmp o2 q u else LC.ret (.bl false)) :=
  PE.mono (pe_chain (op_cmp hu) (op_cmp hu) ha hb hc hm) fun st H Q ⟨io, r, m, s, h⟩ =>
    tM.bind s h fun io1 H1 m1 p x e1 s1 r1 h1 => tM.bind s1 h1 fun io2 H2 m2 q y e2 s2 r2 h2 => rOp.mk s2.s (r1.keep s1.s e2) r2 <| (Post.of_bnd h2).mono fun d m3 h3 io3 H3 v e3 S3 r3 => by
      obtain ⟨k, rfl, h4⟩ := asB_post (Post.of_bnd h3)
      refine ⟨k, repBl r3, ?_⟩
      have s3 := s2.next e3 S3
      cases k with
      | true =>
        refine iteT (tM.bind s3 h4 fun io4 H4 m4 u w e4 s4 r4 h5 => ?_)
        exact rOp.mk s4.s ((r2.keep s2.s e3).keep s3.s e4) r4 (WVpost.from (((e1.trans e2).trans e3).trans e4) h5)
      | false => exact iteF (WV.here (WV.from ((e1.trans e2).trans e3) (show WV X.K X.mg io m H Q _ m3 from h4)) S3 rfl)
theorem st_chain {o o2 : CmpOp} (hu : X.A.units + 64 < cLine) (hm : lastMarks [o, o2] [b, c] = false) (ha : PE X a (tM X.K X.mg ma)) (hb : PE X b (tM X.K X.mg mb)) (hc : PE X c (tM X.K X.mg mc)) :
    PT X (.Compare a [o, o2] [b, c] pos) (tT X.K X.mg fun r => bnd (ma r) fun p => bnd (mb r) fun q => bnd (opCmp o p q) fun c => bnd (asB c) fun k => if k then bnd (mc r) fun u => bnd (opCmp o2 q u) asB else LC.ret false) :=
  PT.mono (pt_chain (op_cmp hu) (op_cmp hu) ha hb hc hm) fun st H Q ⟨io, r, m, s, h⟩ =>
    tM.bind s h fun io1 H1 m1 p x e1 s1 r1 h1 => tM.bind s1 h1 fun io2 H2 m2 q y e2 s2 r2 h2 => rOp.mk s2.s (r1.keep s1.s e2) r2 <| (Post.of_bnd h2).mono fun d m3 h3 io3 H3 v e3 S3 r3 => by
      obtain ⟨k, rfl, h4⟩ := asB_post (Post.of_bnd h3)
      refine ⟨k, repBl r3, ?_⟩
      have s3 := s2.next e3 S3
      cases k with
      | true =>
        refine iteT (tM.bind s3 h4 fun io4 H4 m4 u w e4 s4 r4 h5 => ?_)
        refine rOp.mk s4.s ((r2.keep s2.s e3).keep s3.s e4) r4 ((Post.of_bnd h5).mono fun d m5 h6 io5 H5 v e5 S5 r5 => ?_)
        obtain ⟨k, rfl, h7⟩ := asB_post h6
        exact ⟨k, repBl r5, h7 io5 H5 ((((e1.trans e2).trans e3).trans e4).trans e5) S5⟩
      | false => exact iteF ⟨false, rfl, (show WB X.K X.mg io m H Q false m3 from h4) io3 H3 ((e1.trans e2).trans e3) S3⟩
theorem se_and {rest : List Expr} (ha : PE X a (tM X.K X.mg ma)) (hb : PE X (.BoolOp .And (b :: rest) pos) (tM X.K X.mg mb)) : PE X (.BoolOp .And (a :: b :: rest) pos) (tM X.K X.mg fun r => bnd (ma r) fun p => bnd (asB p) fun k => if k then mb r else LC.ret (.bl false)) :=
  PE.mono (pe_and ha hb) fun st H Q ⟨io, r, m, s, h⟩ => tM.bind s h fun io1 H1 m1 p x e1 s1 r1 h1 => by
    obtain ⟨k, rfl, h2⟩ := asB_post (Post.of_bnd h1)
    refine ⟨k, repBl r1, ?_⟩
    cases k with
    | true => exact iteT (tM.of s1 (WVpost.from e1 h2))
    | false => exact iteF (WV.here (WV.from e1 (show WV X.K X.mg io m H Q _ m1 from h2)) s1.s rfl)
theorem se_or {rest : List Expr} (ha : PE X a (tM X.K X.mg ma)) (hb : PE X (.BoolOp .Or (b :: rest) pos) (tM X.K X.mg mb)) : PE X (.BoolOp .Or (a :: b :: rest) pos) (tM X.K X.mg fun r => bnd (ma r) fun p => bnd (asB p) fun k => if k then LC.ret (.bl true) else mb r) :=
  PE.mono (pe_or ha hb) fun st H Q ⟨io, r, m, s, h⟩ => tM.bind s h fun io1 H1 m1 p x e1 s1 r1 h1 => by
    obtain ⟨k, rfl, h2⟩ := asB_post (Post.of_bnd h1)
    refine ⟨k, repBl r1, ?_⟩
    cases k with
    | true => exact iteT (WV.here (WV.from e1 (show WV X.K X.mg io m H Q _ m1 from h2)) s1.s rfl)
    | false => exact iteF (tM.of s1 (WVpost.from e1 h2))
theorem se_not (ha : PE X a (tM X.K X.mg ma)) : PE X (.UnaryOp .Not a pos) (tM X.K X.mg fun r => bnd (ma r) fun p => bnd (asB p) fun k => LC.ret (.bl (!k))) :=
  PE.mono (pe_not ha) fun st H Q ⟨io, r, m, s, h⟩ => tM.bind s h fun io1 H1 m1 p x e1 s1 r1 h1 => by
    obtain ⟨k, rfl, h2⟩ := asB_post (Post.of_bnd h1)
    exact ⟨k, repBl r1, WV.here (WV.from e1 (show WV X.K X.mg io m H Q _ m1 from h2)) s1.s rfl⟩
theorem se_if (hc : PT X c (tT X.K X.mg ta)) (ha : PE X a (tM X.K X.mg ma)) (hb : PE X b (tM X.K X.mg mb)) : PE X (.IfExp c a b pos) (tM X.K X.mg fun r => bnd (ta r) fun k => if k then ma r else mb r) :=
  PE.mono (pe_ifExp hc ha hb) fun st H Q ⟨io, r, m, s, h⟩ => tT.bind s h fun io1 H1 m1 k e1 s1 h1 => by
    cases k with
    | true => exact iteT (tM.of s1 (WVpost.from e1 h1))
    | false => exact iteF (tM.of s1 (WVpost.from e1 h1))
theorem sw_and {rest : List Expr} (ha : PT X a (tT X.K X.mg ta)) (hb : PW X (.BoolOp .And (b :: rest) pos) (tT X.K X.mg tb)) : PW X (.BoolOp .And (a :: b :: rest) pos) (tT X.K X.mg fun r => bnd (ta r) fun k => if k then tb r else LC.ret false) :=
  PW.mono (pw_and ha hb) fun st H Q ⟨io, r, m, s, h⟩ => tT.bind s h fun io1 H1 m1 k e1 s1 h1 => by
    cases k with
    | true => exact iteT (tT.of s1 (WBpost.from e1 h1))
    | false => exact iteF ((WB.from e1 (show WB X.K X.mg io m H Q _ m1 from h1)) io1 H1 Ext.refl s1.s)
theorem sw_or {rest : List Expr} (ha : PT X a (tT X.K X.mg ta)) (hb : PW X (.BoolOp .Or (b :: rest) pos) (tT X.K X.mg tb)) : PW X (.BoolOp .Or (a :: b :: rest) pos) (tT X.K X.mg fun r => bnd (ta r) fun k => if k then LC.ret true else tb r) :=
  PW.mono (pw_or ha hb) fun st H Q ⟨io, r, m, s, h⟩ => tT.bind s h fun io1 H1 m1 k e1 s1 h1 => by
    cases k with
    | true => exact iteT ((WB.from e1 (show WB X.K X.mg io m H Q _ m1 from h1)) io1 H1 Ext.refl s1.s)
    | false => exact iteF (tT.of s1 (WBpost.from e1 h1))
theorem st_not (ha : PT X a (tT X.K X.mg ta)) : PT X (.UnaryOp .Not a pos) (tT X.K X.mg fun r => bnd (ta r) fun k => LC.ret (!k)) :=
  PT.mono (pt_not ha) fun st H Q ⟨io, r, m, s, h⟩ => tT.bind s h fun io1 H1 m1 k e1 s1 h1 => (WB.from e1 (show WB X.K X.mg io m H Q _ m1 from h1)) io1 H1 Ext.refl s1.s
theorem st_val (ha : PE X a (tM X.K X.mg ma)) (he : ∀ whole, isTrue a X.env whole = (do let v ← whole; standAt a.pos; holding [v] (truthy v))) : PT X a (tT X.K X.mg fun r => bnd (ma r) tru) :=
  PT.mono (pt_truth ha he) fun st H Q ⟨io, r, m, s, h⟩ => tM.bind s h fun io1 H1 m1 p x e1 s1 r1 h1 => tru_rule H1 x Q io1 m1 p s1.s r1 (WBpost.from e1 h1)
end
end LC

/-! # LcH: defs called where no text of a value is being made -/
namespace LC
open PySem PySem.Spec PyProof.Rows L2
/-- a def keeps its promise, called at most k deep, with no guard up -/
structure FnG (P : Program) (w : World) (K : PySem.W.Frag) (mg : Str → Option Value) (base : Heap) (k : Nat) (f : Addr) (fd : FuncData) (ps : List Str) (sp : Sp) : Prop where
  len : ∀ vs H Q E, sp vs H Q E → vs.length = ps.length
  go : ∀ (A : Around) (outer : List PySem.Env) (s : Shared) (H : Hp) (args : Args) (us : List Value) (vs : List V) (Q : VK), A.guards = some [] → Room k A → Env0 P w K mg base A outer s H → BindsTo s fd args (ps.zip us) → Vals vs us → sp vs H Q E0 →
    codeAny (model P w) A (.call (.ref f) args) (CR CX0 outer P w H s Q E0) s
theorem FnG.mono {P : Program} {w : World} {K : PySem.W.Frag} {mg : Str → Option Value} {base : Heap} {j k : Nat} {f : Addr} {fd : FuncData} {ps : List Str} {sp : Sp} (F : FnG P w K mg base j f fd ps sp) (h : j ≤ k) : FnG P w K mg base k f fd ps sp :=
  ⟨F.len, fun A outer s H args us vs Q hg hr => F.go A outer s H args us vs Q hg (hr.mono h)⟩

theorem FnG.of_body {P : Program} {w : World} {K : PySem.W.Frag} {mg : Str → Option Value} {base : Heap} {k : Nat} {f : Addr} {fd : FuncData} {x qual : Str} {d : Stmt} {N ps : List Str} {sp : Sp} (F : Fun K x qual d f fd) (S : FnScope N ps (defScope d))
    (len : ∀ vs H Q E, sp vs H Q E → vs.length = ps.length)
    (body : ∀ (cdv : Value) (A : Around) (outer : List PySem.Env) (s : Shared) (H : Hp) (vs : List V) (Q : VK), A.guards = some [] → Room k (A.deeper (envOfC qual (defScope d) s.heap.objs.size f cdv)) → sp vs H Q E0 →
      ∃ t, PSs (cxOf CX0 P w K mg base N qual (defScope d) f cdv A outer s H E0).nox (defBody d) t ∧ t { nx := fun _ H' => Q .non H', rt := Q } (start N vs) H) : FnG P w K mg base (k + 1) f fd ps sp := by
  obtain ⟨oc, od, kV, doc, pm, an, cdv, ct, osl, rfl, lk, hcd⟩ := F.ex
  refine ⟨len, fun A outer s H args us vs Q hg hr e0 hb rel hsp => ?_⟩
  have inH : ∀ b o, base.get? b = some o → s.heap.get? b = some o := fun b o e => (e0.bs b o e).1
  have KX : K.In s.heap := e0.mod.kin.keeps inH
  have nl : s.heap.NoLimit := e0.mod.nolimit.keeps inH
  have lv := len vs H Q E0 hsp
  have kinds : ∀ y ∈ ps.zip us, (defScope d).names.lookup y.1 = some .local ∨ ((defScope d).names.lookup y.1 = some .cell ∧ ((cellsFrom (s.heap.objs.size + 1) (defScope d).names []).lookup y.1).isSome = true) := by
    rintro ⟨n, v⟩ hy
    rcases S.par n (List.of_mem_zip hy).1 with q | q
    · exact Or.inl q
    · exact Or.inr ⟨q, PySem.W.cellsFrom_some (defScope d).names (s.heap.objs.size + 1) [] (Or.inl q)⟩
  refine codeAny_call_function hr.depth (KX _ _ lk) rfl S.co S.gen rfl (PySem.W.codeRec_of KX hcd) (hb _ _ _ _ ?_)
  refine wpAny_newFunctionEnv_cells S.kind kinds fun env he s1 inC => ?_
  subst he
  refine ⟨nl.keeps inC.toInCall.keep, codeAny_func ?_⟩
  obtain ⟨t, ht, hq⟩ := body cdv A outer s H vs Q hg (hr.deeper _) hsp
  have I : L2.Inv (cxOf CX0 P w K mg base N qual (defScope d) f cdv A outer s H E0) [] (start N vs) H s1 := inv_start S hr.hd e0 lv rel inC
  refine wpAny_mono (ht.nox.run [] s1 (start N vs) H _ I hq) (fun fl s' hs => ?_) fun _ _ z => z
  cases fl with
  | ret u =>
    obtain ⟨v, st', H', J, rv, q⟩ := hs
    exact ⟨v, H', J.os, J.bare, J.base, J.hok, rv, q⟩
  | next =>
    obtain ⟨st', H', J, q⟩ := hs
    exact ⟨V.non, H', J.os, J.bare, J.base, J.hok, rfl, q⟩
  | brk => exact False.elim hs.choose_spec.choose_spec.2
  | cont => exact False.elim hs.choose_spec.choose_spec.2

section
variable {X : Cx} {k : Nat} {f C : Addr} {fd : FuncData} {ps ks : List Str} {sp : Sp} {pins : List (Addr × Obj)} {st : L2.St} {H : Hp} {s : Shared} {Q : VK} {us ws : List Value} {vs zs : List V}
theorem CR.ends {r : Result} {s' : Shared} (I : L2.Inv X pins st H s) (h : CR CX0 X.stack X.prog X.w H s Q E0 r s') : ∃ u, r = .ok (.ret u) ∧ EP X pins st Q u s' := by
  cases r with
  | error e => exact False.elim h
  | ok fl =>
    cases fl with
    | ret u => exact ⟨u, rfl, I.after h⟩
    | next => exact False.elim h
    | brk => exact False.elim h
    | cont => exact False.elim h
/-- the callee runs -/
theorem FnG.call (F : FnG X.prog X.w X.K X.mg X.base k f fd ps sp) (hg : X.A.guards = some []) (hr : Room k X.A) (hb : Binds X.K fd ps []) (I : L2.Inv X pins st H s) (rl : Vals vs us) (h : sp vs H Q E0) :
    wpAny (model X.prog X.w) X.A (PySem.call (.ref f) us) (EP X pins st Q) X.xe s := by
  have hl : (us ++ []).length = ps.length := by rw [List.append_nil, ← rl.length]; exact F.len _ _ _ _ h
  have b := hb s us I.kIn hl
  rw [List.append_nil] at b
  refine wpAny_call (codeAny_mono (F.go X.A X.stack s H ⟨us, []⟩ us vs Q hg hr I.env0 b rl h) fun res s' z => ?_)
  obtain ⟨u, rfl, q⟩ := CR.ends I z
  exact q
/-- with keywords -/
theorem FnG.callK {g : List Value → List Value → List Value} {gV : List V → List V → List V} (F : FnG X.prog X.w X.K X.mg X.base k f fd ps sp) (hg : X.A.guards = some []) (hr : Room k X.A) (hb : KBinds X.K fd ps ks g gV) (I : L2.Inv X pins st H s) (rl : Vals vs us) (rz : Vals zs ws)
    (h : sp (gV vs zs) H Q E0) : wpAny (model X.prog X.w) X.A (PySem.call (.ref f) us (ks.zip ws)) (EP X pins st Q) X.xe s := by
  have r2 := hb.rel rl rz
  have hl : (g us ws).length = ps.length := by rw [← r2.length]; exact F.len _ _ _ _ h
  refine wpAny_call (codeAny_mono (F.go X.A X.stack s H ⟨us, ks.zip ws⟩ (g us ws) (gV vs zs) Q hg hr I.env0 (hb.to s us ws I.kIn hl) r2 h) fun res s' z => ?_)
  obtain ⟨u, rfl, q⟩ := CR.ends I z
  exact q
theorem guards_make {A : Around} {us : List Value} {kw : List (Str × Value)} (h : A.guards = some []) : (A.under (.builtin "type.__call__" ⟨.ref C :: us, kw⟩)).guards = some [] := by
  first
    | exact h
    | (simp [Around.under, Code.guards, Code.isGuard, guardIds, pushGuards, h])
/-- a new instance -/
theorem FnG.make (M : L2.Mk X.K C f) (F : FnG X.prog X.w X.K X.mg X.base k f fd ps sp) (hg : X.A.guards = some []) (hr : Room (k + 1) X.A) (hb : Binds X.K fd ps []) (I : L2.Inv X pins st H s) (rl : Vals vs us)
    (h : ∀ x dx, H x = none → H dx = none → dx ≠ x → sp (.ref x :: vs) (upd (upd H dx (.own x)) x (.ins C dx [])) (fun v H2 => v = .non ∧ Q (.ref x) H2) E0) :
    wpAny (model X.prog X.w) X.A (PySem.call (.ref C) us) (EP X pins st Q) X.xe s := by
  have hq := h (s.heap.objs.size + 1) s.heap.objs.size (I.hok.fresh (Nat.le_succ _)) (I.hok.fresh (Nat.le_refl _)) (Nat.ne_of_lt (Nat.lt_succ_self _))
  have I2 := Inv.made (C := C) I
  have r2 : Vals (V.ref (s.heap.objs.size + 1) :: vs) (Value.ref (s.heap.objs.size + 1) :: us) := .cons rfl rl
  have hl : ((Value.ref (s.heap.objs.size + 1) :: us) ++ []).length = ps.length := by rw [List.append_nil, ← r2.length]; exact F.len _ _ _ _ hq
  have b := hb _ (Value.ref (s.heap.objs.size + 1) :: us) I2.kIn hl
  rw [List.append_nil] at b
  refine wpAny_call (make_map (f := f) I.kIn M.makes M.init (beq_iff_eq.mp M.fn) (codeAny_mono (F.go _ X.stack _ _ ⟨Value.ref (s.heap.objs.size + 1) :: us, []⟩ _ _ _ (guards_make hg) (hr.make C us []) (I2.env0.make C us []) b r2 hq) fun res s' z => ?_))
  obtain ⟨u, rfl, v, H', I3, rv, ev, q3⟩ := CR.ends I2 z
  subst ev
  exact ⟨rv, ⟨V.ref (s.heap.objs.size + 1), H', I3, rfl, q3⟩⟩
theorem FnG.makeK {g : List Value → List Value → List Value} {gV : List V → List V → List V} (M : L2.Mk X.K C f) (F : FnG X.prog X.w X.K X.mg X.base k f fd ps sp) (hg : X.A.guards = some []) (hr : Room (k + 1) X.A) (hb : KBinds X.K fd ps ks g gV) (I : L2.Inv X pins st H s) (rl : Vals vs us) (rz : Vals zs ws)
    (h : ∀ x dx, H x = none → H dx = none → dx ≠ x → sp (gV (.ref x :: vs) zs) (upd (upd H dx (.own x)) x (.ins C dx [])) (fun v H2 => v = .non ∧ Q (.ref x) H2) E0) :
    wpAny (model X.prog X.w) X.A (PySem.call (.ref C) us (ks.zip ws)) (EP X pins st Q) X.xe s := by
  have hq := h (s.heap.objs.size + 1) s.heap.objs.size (I.hok.fresh (Nat.le_succ _)) (I.hok.fresh (Nat.le_refl _)) (Nat.ne_of_lt (Nat.lt_succ_self _))
  have I2 := Inv.made (C := C) I
  have r2 : Vals (V.ref (s.heap.objs.size + 1) :: vs) (Value.ref (s.heap.objs.size + 1) :: us) := .cons rfl rl
  have r3 := hb.rel r2 rz
  have hl : (g (Value.ref (s.heap.objs.size + 1) :: us) ws).length = ps.length := by rw [← r3.length]; exact F.len _ _ _ _ hq
  refine wpAny_call (make_map (f := f) I.kIn M.makes M.init (beq_iff_eq.mp M.fn) (codeAny_mono (F.go _ X.stack _ _ ⟨Value.ref (s.heap.objs.size + 1) :: us, ks.zip ws⟩ _ _ _ (guards_make hg) (hr.make C us (ks.zip ws)) (I2.env0.make C us (ks.zip ws)) (hb.to _ _ ws I2.kIn hl) r3 hq) fun res s' z => ?_))
  obtain ⟨u, rfl, v, H', I3, rv, ev, q3⟩ := CR.ends I2 z
  subst ev
  exact ⟨rv, ⟨V.ref (s.heap.objs.size + 1), H', I3, rfl, q3⟩⟩
/-- a property's getter -/
theorem FnG.prop {p a dx : Addr} {fs : List (Str × V)} {n : Str} {b : Bool} (hp : PropOf X.K C n p f) (c : L2.Cls X.K C) (F : FnG X.prog X.w X.K X.mg X.base k f fd ps sp) (hg : X.A.guards = some []) (hr : Room (k + 1) X.A) (hb : Binds X.K fd ps []) (I : L2.Inv X pins st H s)
    (ea : H a = some (.ins C dx fs)) (h : sp [.ref a] H Q E0) : wpAny (model X.prog X.w) X.A (getAttr (.ref a) n b) (EP X pins st Q) X.xe s := by
  obtain ⟨mA, O, _, _, _, _⟩ := ins_get I.hok ea
  obtain ⟨od, J, _⟩ := O.look
  obtain ⟨rest, hrec⟩ := hp.rec_
  have I1 := I.tok (s.toks + 1)
  have hl : ([Value.ref a] ++ []).length = ps.length := (F.len _ _ _ _ h)
  have hcs : (PySem.W.clsIn X.K C).isSome = true := by
    obtain ⟨cd, hc, _⟩ := PySem.W.any_some c.hd
    rw [hc]; rfl
  have bd := hb _ [.ref a] I1.kIn hl
  rw [List.append_nil] at bd
  refine PySem.W.get_bind I.kIn J (PySem.W.plainGet_of (c.get n)).1 (PySem.W.findObj_data hcs hp.at_ hp.get hp.tak) (PySem.W.plainGet_of (c.get n)).2 (wpAny_call (PySem.W.prop_get (s := { s with toks := s.toks + 1 }) I.kIn hrec ?_))
  refine codeAny_mono (F.go X.A.in1 X.stack { s with toks := s.toks + 1 } H ⟨[.ref a], []⟩ [.ref a] [.ref a] Q hg hr.in1 I1.env0.in1 bd (.cons rfl .nil) h) fun res s' z => ?_
  obtain ⟨u, rfl, v, H', I3, rv, q3⟩ := CR.ends I1 z
  show wpAny _ _ (handedOut u) _ _ _
  rw [PySem.W.handedOut_of (handed_of rv)]
  exact wpAny_pure ⟨v, H', I3, rv, q3⟩
end
end LC

/-! # LcI: the forms of expressions; displays, subscripts, texts -/
namespace HT
open PySem PySem.Spec PyProof.Rows
section
variable {prog : Program} {w : World} {A : Around} {E : Value → Shared → Prop} {s : Shared}
theorem sliceApplied_rev {sl : Addr} {vl vu vs : Value} {n : Nat} {Q : Int × Int × Nat → Shared → Prop} (hs : s.heap.IsSliceOf sl vl vu vs) (pl : IsPart vl none) (pu : IsPart vu none) (ps : IsPart vs (some (-1)))
    (h : Q ((n : Int) - 1, -1, n) s) : wpAny (model prog w) A (Builtin.Slice.sliceApplied (.ref sl) (pure (n : Int))) Q E s := by
  obtain ⟨os, hos, hcs, hds⟩ := id hs
  unfold Builtin.Slice.sliceApplied Builtin.Slice.sliceFields
  refine wpAny_bind (wpAny_bind (wpAny_field hos hds (x := vl) rfl (wpAny_bind (wpAny_field hos hds (x := vu) rfl (wpAny_bind (wpAny_field hos hds (x := vs) rfl (wpAny_pure ?_)))))))
  refine wpAny_bind (slicePart_ ps ?_)
  show wpAny _ _ (if ((-1 : Int) == 0) = true then _ else _) _ _ s
  rw [if_neg (by decide)]
  refine wpAny_bind (slicePart_ pl (wpAny_bind (slicePart_ pu (wpAny_bind (wpAny_pure ?_)))))
  have e1 : Builtin.Slice.sliceAdjust none none (-1) (n : Int) = ((n : Int) - 1, -1) := by
    unfold Builtin.Slice.sliceAdjust
    simp
  have e2 : Builtin.Slice.slicePlaces ((n : Int) - 1) (-1) (-1) = n := by
    unfold Builtin.Slice.slicePlaces
    have h1 : ¬ ((-1 : Int) > 0) := by omega
    simp only [h1, if_false]
    simp
    try omega
  show wpAny _ _ (match Builtin.Slice.sliceAdjust none none (-1) (n : Int) with | (lo, hi) => pure (lo, (-1 : Int), Builtin.Slice.slicePlaces lo hi (-1))) _ _ s
  rw [e1]
  show wpAny _ _ (pure ((n : Int) - 1, (-1 : Int), Builtin.Slice.slicePlaces ((n : Int) - 1) (-1) (-1))) _ _ s
  rw [e2]
  exact wpAny_pure h
theorem pick_rev (xs : Array Value) : ((List.range xs.size).filterMap fun (m : Nat) => xs[(((xs.size : Int) - 1) + (m : Int) * (-1)).toNat]?).toArray = xs.toList.reverse.toArray := by
  have e : (fun (m : Nat) => xs[(((xs.size : Int) - 1) + (m : Int) * (-1)).toNat]?) = (fun x => xs[x]?) ∘ fun m => xs.size - 1 - m := by
    funext m
    have : (((xs.size : Int) - 1) + (m : Int) * (-1)).toNat = xs.size - 1 - m := by omega
    simp only [Function.comp, this]
  rw [e, ← List.filterMap_map, PySem.W.krv_range, List.filterMap_reverse, PySem.W.krv_all]
theorem getItem_tuple_rev {t sl : Addr} {items : Array Value} {vl vu vs : Value} {Q : Value → Shared → Prop} (ht : IsTup s.heap t items) (hs : s.heap.IsSliceOf sl vl vu vs) (pl : IsPart vl none) (pu : IsPart vu none) (ps : IsPart vs (some (-1)))
    (h : Q (.ref s.heap.objs.size) { s with heap := s.heap.push { cls := .type "tuple", data := .seq items.toList.reverse.toArray } })
    (hsz : items.size ≤ sizeLine) : wpAny (model prog w) A (getItem (.ref t) (.ref sl)) Q E s := by
  have htake : sizeOk (.seq items.toList.reverse.toArray) := by
    show items.toList.reverse.toArray.size ≤ sizeLine
    rw [List.size_toArray, List.length_reverse, Array.length_toList]
    exact hsz
  obtain ⟨os, hos, hcs, hds⟩ := id hs
  have hTs : s.TypeIs (.ref sl) "slice" := ⟨os, hos, hcs⟩
  unfold getItem
  try with_reducible refine wpAny_holding ?_
  first | refine wpAny_bind (wpAny_pure ?_) | skip
  refine wpAny_bind (wpAny_sequenceKey ht.typeIs (by decide) ?_)
  refine wpAny_bind (wpAny_callSpecial?_slot (name := Str.ofString "__getitem__") ht.typeIs PyProof.Rows.slot_tuple_getitem
    (wpAny_call_entry PyProof.Rows.slot_tuple_getitem ht.typeIs entry_tuple_getitem ?_ (args_tuple_getitem _ _)))
  show wpAny _ _ (Builtin.Tuple.tupleItemsOf (.ref t) >>= _) _ _ s
  refine wpAny_bind (tupleItemsOf_ ht ?_)
  refine wpAny_bind (wpAny_typeOf hTs ?_)
  rw [if_pos (by decide)]
  refine wpAny_bind (sliceApplied_rev hs pl pu ps ?_)
  have hno : ¬ ((((items.size : Int) - 1) == 0 && (-1 : Int) == 1 && items.size == items.size) = true) := by
    intro q
    rw [Bool.and_eq_true, Bool.and_eq_true] at q
    exact absurd q.1.2 (by decide)
  show wpAny _ _ (if (((items.size : Int) - 1) == 0 && (-1 : Int) == 1 && items.size == items.size) = true then _ else _) _ _ s
  rw [if_neg hno, pick_rev]
  first
    | exact wpAny_bind (m := Builtin.Tuple.tupleExact _) (wpAny_newObj_type (wpAny_pure ⟨_, rfl, wpAny_pure h⟩) htake)
    | exact wpAny_bind (m := Builtin.Tuple.tupleExact _) (wpAny_newObj_type (wpAny_bind (wpAny_pure (wpAny_pure ⟨_, rfl, wpAny_pure h⟩))) htake)
    | exact wpAny_bind (wpAny_bind (m := Builtin.Tuple.tupleExact _) (wpAny_newObj_type (wpAny_pure (wpAny_pure ⟨_, rfl, wpAny_pure h⟩)) htake))
    | exact wpAny_bind (wpAny_bind (m := Builtin.Tuple.tupleExact _) (wpAny_newObj_type (wpAny_pure ⟨_, rfl, wpAny_pure h⟩) htake))
end
end HT
namespace L2
open PySem PySem.Spec PyProof.Rows
def tRevLT (K : PySem.W.Frag) (te : TE) : TE := fun σ H Q => te σ H fun x H1 => (∃ a xs, x = .ref a ∧ SqL K H1 a xs ∧ ∀ p, H1 p = none → Q (.ref p) (upd H1 p (.lst xs.reverse))) ∨ (∃ a xs, x = .ref a ∧ SqT K H1 a xs ∧ ∀ p, H1 p = none → Q (.ref p) (upd H1 p (.tup xs.reverse)))
theorem pe_revLT {X : Cx} {e : Expr} {te : TE} {k : Nat} {p1 p2 p3 pos : Pos} (he : PE X e te) : PE X (.Subscript e (.Slice none none (some (.UnaryOp .USub (.Constant (.int 1) k p1) p2)) p3) pos) (tRevLT X.K te) := by
  refine ⟨fun pins s σ H Q I h => ?_⟩
  refine Subscript_ (thn (he.run pins s σ H _ I h) fun v s1 ⟨x, H1, I1, r1, q1⟩ => ?_)
  have hst : PO X (some (.UnaryOp .USub (.Constant (.int 1) k p1) p2)) (tPart (tUn (rU fun i => .int (-i)) (tC (.int 1)))) := po_some (pe_un un_neg pe_int)
  refine wpAny_Slice (thn (po_none.run pins s1 σ H1 (fun o H2 => o = none ∧ H2 = H1) I1 ⟨rfl, rfl⟩) fun vl s2 ⟨l, H2, I2, pl, el, e2⟩ => ?_)
  subst el e2
  refine thn (po_none.run pins s2 σ H2 (fun o H3 => o = none ∧ H3 = H2) I2 ⟨rfl, rfl⟩) fun vu s3 ⟨u, H3, I3, pu, eu, e3⟩ => ?_
  subst eu e3
  refine thn (hst.run pins s3 σ H3 (fun o H4 => o = some (-1) ∧ H4 = H3) I3 ⟨1, rfl, -1, rfl, rfl, rfl⟩) fun vs s4 ⟨o, H4, I4, ps, eo, e4⟩ => ?_
  subst eo e4
  have I5 : Inv X pins σ H4 { s4 with heap := s4.heap.push { cls := .type "slice", data := .fields #[vl, vu, vs] } } := I4.kept (t' := s4.toks) fun b ob q => Heap.get?_push_of_some _ q
  rcases q1 with ⟨a, xs, ex, hx, q⟩ | ⟨a, xs, ex, hx, q⟩
  · subst ex
    cases r1
    obtain ⟨its, r, ht, hz⟩ := I5.list hx
    have hlen := r.length
    show wpAny (model X.prog X.w) X.A (subscriptTail e (.Slice none none (some (.UnaryOp .USub (.Constant (.int 1) k p1) p2)) p3) (.ref a) (.ref s4.heap.objs.size)) (EP X pins σ Q) X.xe { s4 with heap := s4.heap.push { cls := .type "slice", data := .fields #[vl, vu, vs] } }
    refine tail_any (ops := [.ref a, .ref s4.heap.objs.size]) ht.isList.typeIs (PySem.slot_list_getitem.lookup) ?_ (by with_unfolding_all rfl)
    refine wpAny_getItem_list_slice ht.isList (Heap.IsSliceOf.new _ vl vu vs) pl pu ps (by decide) ?_ (by rw [List.size_toArray]; omega)
    rw [PySem.W.krv_pick]
    refine ⟨.ref _, _, I5.laid (t' := s4.toks) (o := .lst xs.reverse) (fun b ob q => Heap.get?_push_of_some _ q) (Nat.le_refl _) ?_, rfl, q _ (I5.hok.fresh (Nat.le_refl _))⟩
    exact ⟨by rw [List.length_reverse]; exact hz, _, 0, r.reverse, Heap.get?_push_size _ rfl⟩
  · subst ex
    cases r1
    obtain ⟨its, r, ht, hz⟩ := I5.tuple hx
    have hlen := r.length
    show wpAny (model X.prog X.w) X.A (subscriptTail e (.Slice none none (some (.UnaryOp .USub (.Constant (.int 1) k p1) p2)) p3) (.ref a) (.ref s4.heap.objs.size)) (EP X pins σ Q) X.xe { s4 with heap := s4.heap.push { cls := .type "slice", data := .fields #[vl, vu, vs] } }
    refine tail_any (ops := [.ref a, .ref s4.heap.objs.size]) ht.typeIs (PyProof.Rows.slot_tuple_getitem.lookup) ?_ (by with_unfolding_all rfl)
    refine HT.getItem_tuple_rev ht (Heap.IsSliceOf.new _ vl vu vs) pl pu ps ?_ (by rw [List.size_toArray]; omega)
    refine ⟨.ref _, _, I5.laid (t' := s4.toks) (o := .tup xs.reverse) (fun b ob q => Heap.get?_push_of_some _ q) (Nat.le_refl _) ?_, rfl, q _ (I5.hok.fresh (Nat.le_refl _))⟩
    exact ⟨by rw [List.length_reverse]; exact hz, _, r.reverse, IsTup.new _ _⟩
end L2
namespace LC
open PySem PySem.Spec PyProof.Rows L2

/-! ### forms -/
def nst : Expr → Bool
  | .Starred _ _ => false
  | _ => true
theorem each_nst {e : Expr} {es : List Expr} {env : PySem.Env} (h : nst e = true) : starEach (e :: es) env = (false, eval e env) :: starEach es env := by
  cases e <;> first | rfl | cases h
theorem nst_none : ∀ {es : List Expr} {env : PySem.Env} {pos : Pos}, es.all nst = true → (backTo pos (starEach es env)).any (·.1) = false
  | [], _, _, _ => rfl
  | e :: es, env, pos, h => by
    rw [List.all_cons, Bool.and_eq_true] at h
    rw [each_nst h.1]
    show (false || (backTo pos (starEach es env)).any (·.1)) = false
    rw [nst_none h.2] <;> rfl
theorem nst_all : ∀ {es : List Expr} {env : PySem.Env} {pos : Pos}, es.all nst = true → (backTo pos (starEach es env)).all (fun x => !x.1) = true
  | [], _, _, _ => rfl
  | e :: es, env, pos, h => by
    rw [List.all_cons, Bool.and_eq_true] at h
    rw [each_nst h.1]
    show (!false && (backTo pos (starEach es env)).all (fun x => !x.1)) = true
    rw [nst_all h.2] <;> rfl
theorem kw_all : ∀ {kws : List Keyword} {env : PySem.Env} {pos : Pos}, kws.all (fun k => k.arg.isSome) = true → (backToKw pos (keywordEach kws env)).all (·.1.isSome) = true
  | [], _, _, _ => rfl
  | ⟨n, v, p⟩ :: kws, env, pos, h => by
    rw [List.all_cons, Bool.and_eq_true] at h
    show (n.isSome && (backToKw pos (keywordEach kws env)).all (·.1.isSome)) = true
    rw [h.1, kw_all h.2] <;> rfl
theorem kw_none : ∀ {kws : List Keyword} {env : PySem.Env} {pos : Pos}, kws.all (fun k => k.arg.isSome) = true → (backToKw pos (keywordEach kws env)).any (·.1.isNone) = false
  | [], _, _, _ => rfl
  | ⟨n, v, p⟩ :: kws, env, pos, h => by
    rw [List.all_cons, Bool.and_eq_true] at h
    show (n.isNone || (backToKw pos (keywordEach kws env)).any (·.1.isNone)) = false
    rw [kw_none h.2]
    cases n with
    | none => cases h.1
    | some x => rfl
theorem kw_names : ∀ {kws : List Keyword} {env : PySem.Env} {pos : Pos}, (backToKw pos (keywordEach kws env)).filterMap (·.1) = kws.filterMap (·.arg)
  | [], _, _ => rfl
  | ⟨n, v, p⟩ :: kws, env, pos => by
    show List.filterMap (·.1) ((n, _) :: backToKw pos (keywordEach kws env)) = List.filterMap (·.arg) (⟨n, v, p⟩ :: kws)
    rw [List.filterMap_cons, List.filterMap_cons, kw_names]
/-- no call without arguments (super) -/
def nsup : Expr → Bool
  | .Call (.Name _ _) [] [] _ => false
  | _ => true
theorem base_nsup {o : Expr} {f : Str} {env : PySem.Env} (h : nsup o = true) : attributeBase o f env (eval o env) = eval o env := by
  unfold attributeBase
  split
  · cases h
  · rfl
def nsl : Expr → Bool
  | .Slice _ _ _ _ => false
  | _ => true
theorem plain_nsl {b : Expr} (h : nsl b = true) : PlainIx b := by
  intro o i
  cases b <;> first | rfl | cases h
/-- the test is the value's truth -/
def ntest : Expr → Bool
  | .UnaryOp .Not _ _ => false
  | .BoolOp _ _ _ => false
  | .IfExp _ _ _ _ => false
  | .Compare _ _ _ _ => false
  | _ => true
theorem true_ntest {a : Expr} {env : PySem.Env} (h : ntest a = true) : ∀ whole, isTrue a env whole = (do let v ← whole; standAt a.pos; holding [v] (truthy v)) := by
  intro whole
  cases a with
  | UnaryOp op x p => cases op <;> first | rfl | cases h
  | BoolOp _ _ _ => cases h
  | IfExp _ _ _ _ => cases h
  | Compare _ _ _ _ => cases h
  | _ => rfl
/-- no comprehension -/
def ncomp : Expr → Bool
  | .ListComp _ _ _ _ => false
  | .SetComp _ _ _ _ => false
  | .DictComp _ _ _ _ _ => false
  | _ => true
theorem swaps_ncomp {e : Expr} {t : Option Expr} {l : Nat} {env : PySem.Env} (h : ncomp e = true) : swapsWith e t l env = pure false := by
  cases e <;> first | rfl | cases h

section
variable {X : Cx} {a b o : Expr} {es : List Expr} {ma mb : Env → M D} {ml : Env → M (List D)} {pos : Pos}

/-! ### subscripts -/
theorem se_ix (hs : nsl b = true) (ha : PE X a (tM X.K X.mg ma)) (hb : PE X b (tM X.K X.mg mb)) : PE X (.Subscript a b pos) (tM X.K X.mg fun r => bnd (ma r) fun p => bnd (mb r) fun q => opIx p q) :=
  PE.mono (pe_ix ix_any ha hb (plain_nsl hs)) fun st H Q ⟨io, r, m, s, h⟩ => two s h
/-- a slice's end -/
def tO (K : PySem.W.Frag) (mg : Str → Option Value) (x : Env → M (Option Int)) : TO := fun st H Q => ∃ io r m, S0 K mg io r m st H ∧ Post (x r m) fun d m' => ∀ io' H', LC.Ext io m.length H io' m'.length H' → SRel K mg io' m' H' → Q d H'
theorem so_none : PO X none (tO X.K X.mg fun _ => LC.ret none) := ⟨fun pins s st H Q I ⟨io, r, m, s0, h⟩ => po_none.run pins s st H Q I ((Post.of_ret h) io H LC.Ext.refl s0.s)⟩
theorem so_some (ha : PE X a (tM X.K X.mg ma)) : PO X (some a) (tO X.K X.mg fun r => bnd (ma r) asI) := ⟨fun pins s st H Q I ⟨io, r, m, s0, h⟩ => (po_some ha).run pins s st H Q I <|
  tM.bind s0 h fun io1 H1 m1 p x e1 s1 r1 h1 => by
    obtain ⟨i, rfl, h2⟩ := asI_post h1
    exact ⟨i, repInt r1, h2 io1 H1 e1 s1.s⟩⟩
theorem se_sl {mu : Bool} {lo hi : Option Expr} {xl xh : Env → M (Option Int)} {p2 : Pos} (ha : PE X a (tM X.K X.mg ma)) (hl : PO X lo (tO X.K X.mg xl)) (hh : PO X hi (tO X.K X.mg xh)) :
    PE X (.Subscript a (.Slice lo hi none p2) pos) (tM X.K X.mg fun r => bnd (ma r) fun p => bnd (xl r) fun l => bnd (xh r) fun h => opSl mu p l h) :=
  PE.mono (pe_slice (sl_any (mu := mu)) ha hl hh) fun st H Q ⟨io, r, m, s, h⟩ => tM.bind s h fun io1 H1 m1 p x e1 s1 r1 h1 =>
    ⟨io1, r, m1, s1, (Post.of_bnd h1).mono fun l m2 h2 io2 H2 e2 S2 => ⟨io2, r, m2, s1.next e2 S2, (Post.of_bnd h2).mono fun u m3 h3 io3 H3 e3 S3 =>
      ⟨io3, m3, p, S3, (r1.keep s1.s e2).keep S2 e3, WVpost.from ((e1.trans e2).trans e3) h3⟩⟩⟩
theorem se_rv {mu : Bool} {k : Nat} {p1 p2 p3 : Pos} (ha : PE X a (tM X.K X.mg ma)) : PE X (.Subscript a (.Slice none none (some (.UnaryOp .USub (.Constant (.int 1) k p1) p2)) p3) pos) (tM X.K X.mg fun r => bnd (ma r) (opRv mu)) :=
  PE.mono (pe_revLT ha) fun st H Q ⟨io, r, m, s, h⟩ => tM.bind s h fun io1 H1 m1 p x e1 s1 r1 h1 => by
    unfold opRv at h1
    split at h1
    · rename_i xs e
      obtain ⟨c, vs, rfl, q1, r2⟩ := topLst s1.s r1 e
      exact .inl ⟨c, vs, rfl, SqL.of q1, fun p hp => Post.lst (WVpost.from e1 h1) s1.s hp r2.reverse⟩
    · rename_i xs e
      rw [top_tup e] at r1
      obtain ⟨c, vs, rfl, q1, r2⟩ := r1
      exact .inr ⟨c, vs, rfl, q1, fun p hp => (WVpost.from e1 h1) io1 _ _ (LC.Ext.new hp) (s1.s.new hp) ⟨p, _, rfl, .inl (.inl upd_same), r2.reverse.keep s1.s (LC.Ext.new hp)⟩⟩
    · exact h1.elim

/-! ### rows of values -/
theorem sa_nil : PA X [] (tL X.K X.mg fun _ => LC.ret []) := PA.mono pa_nil fun st H Q ⟨io, r, m, s, h⟩ => (Post.of_ret h) io H [] LC.Ext.refl s.s rfl
theorem sa_cons (hn : nst a = true) (ha : PE X a (tM X.K X.mg ma)) (hl : PA X es (tL X.K X.mg ml)) : PA X (a :: es) (tL X.K X.mg fun r => bnd (ma r) fun p => bnd (ml r) fun q => LC.ret (p :: q)) :=
  PA.mono (pa_cons ha hl (each_nst hn)) fun st H Q ⟨io, r, m, s, h⟩ => tM.bind s h fun io1 H1 m1 p x e1 s1 r1 h1 => tL.bind s1 h1 fun io2 H2 m2 q y e2 s2 r2 h2 =>
    (Post.of_ret h2) io2 H2 (x :: y) (e1.trans e2) s2.s ⟨x, y, rfl, r1.keep s1.s e2, r2⟩
theorem starred_rep {io : Pl} {m : Sto} {H : Hp} {p : D} {x : V} {F : List D → Sto → Prop} (S : SRel X.K X.mg io m H) (hp : RepV X.K X.mg io m.length H p x) (h : Post (starred p m) F) :
    ∃ (c : Addr) (ds : List D) (vs : List V), x = .ref c ∧ (SqL X.K H c vs ∨ SqT X.K H c vs) ∧ RepVs X.K X.mg io m.length H ds vs ∧ F ds m := by
  unfold starred at h
  split at h
  · rename_i ds e
    rw [top_tup e] at hp
    obtain ⟨c, vs, rfl, q1, r⟩ := hp
    exact ⟨c, ds, vs, rfl, .inr q1, r, h⟩
  · rename_i ds e
    obtain ⟨c, vs, rfl, q1, r⟩ := topLst S hp e
    exact ⟨c, ds, vs, rfl, .inl (SqL.of q1), r, h⟩
  · exact h.elim
theorem se_tup {j : Nat} (hl : PA X es (tL X.K X.mg ml)) : PE X (.Tuple es j pos) (tM X.K X.mg fun r => bnd (ml r) mkTup) :=
  PE.mono (pe_tup hl) fun st H Q ⟨io, r, m, s, h⟩ => tL.bind s h fun io1 H1 m1 p x e1 s1 r1 h1 => by
    unfold mkTup at h1
    split at h1
    · rename_i hz
      have hz := of_decide_eq_true hz
      refine ⟨by rw [← lim, ← r1.length]; exact hz, fun c hc => WV.frozen (WV.from e1 (show WV X.K X.mg io m H Q _ m1 from h1)) s1.s hc (repTup s1.s hc r1)⟩
    · exact h1.elim
theorem se_lst {mu : Bool} (hl : PA X es (tL X.K X.mg ml)) : PE X (.List es pos) (tM X.K X.mg fun r => bnd (ml r) (mkLst mu)) :=
  PE.mono (pe_lst hl) fun st H Q ⟨io, r, m, s, h⟩ => tL.bind s h fun io1 H1 m1 p x e1 s1 r1 h1 => by
    unfold mkLst at h1
    split at h1
    · rename_i hz
      have hz := of_decide_eq_true hz
      refine ⟨by rw [← lim, ← r1.length]; exact hz, fun c hc => Post.lst (WVpost.from e1 h1) s1.s hc r1⟩
    · exact h1.elim

/-! ### texts -/
theorem se_fmt (ha : PE X a (tM X.K X.mg ma)) : PE X (.FormattedValue a (-1) none pos) (tM X.K X.mg fun r => bnd (ma r) fmt) :=
  PE.mono (pe_fmt ha) fun st H Q ⟨io, r, m, s, h⟩ => tM.bind s h fun io1 H1 m1 p x e1 s1 r1 h1 => by
    unfold fmt at h1
    split at h1
    · rename_i y
      split at h1
      · rename_i hz
        exact .inl ⟨y, repStr r1, by rw [← lim]; exact of_decide_eq_true hz, WV.here (WV.from e1 (show WV X.K X.mg io m H Q _ m1 from h1)) s1.s rfl⟩
      · exact h1.elim
    · rename_i y
      split at h1
      · rename_i hz
        exact .inr ⟨y, repInt r1, of_decide_eq_true hz, WV.here (WV.from e1 (show WV X.K X.mg io m H Q _ m1 from h1)) s1.s rfl⟩
      · exact h1.elim
    · exact h1.elim
/-- the parts' readings -/
def jOf (P : Phi) : T → List (Env → M D)
  | .cons x y => (den P x).e :: jOf P y
  | _ => []
/-- a row of parts -/
def isRow : T → Bool
  | .nil => true
  | .cons _ y => isRow y
  | _ => false
def tJ (K : PySem.W.Frag) (mg : Str → Option Value) (x : Env → M Str) : L2.St → Hp → (Str → Hp → Prop) → Prop := fun st H Q => ∃ io r m, S0 K mg io r m st H ∧ Post (x r m) fun d m' => ∀ io' H', LC.Ext io m.length H io' m'.length H' → SRel K mg io' m' H' → Q d H'
theorem tJ_js {K : PySem.W.Frag} {mg : Str → Option Value} {P : Phi} : ∀ (t : T), isRow t = true → ∀ (acc : Str) (st : L2.St) (H : Hp) (Q : Str → Hp → Prop), tJ K mg ((den P t).j acc) st H Q → tJs ((jOf P t).map (tM K mg)) acc st H Q
  | .nil, _, acc, st, H, Q, ⟨io, r, m, s, h⟩ => (Post.of_ret h) io H LC.Ext.refl s.s
  | .cons x y, hr, acc, st, H, Q, ⟨io, r, m, s, h⟩ => by
    show tM K mg (den P x).e st H _
    have h : Post (bnd ((den P x).e r) (fun p => bnd (asS p) fun z => if decide ((acc ++ z).length ≤ LIM) then (den P y).j (acc ++ z) r else LC.bad) m) _ := h
    refine tM.bind s h fun io1 H1 m1 p v e1 s1 r1 h1 => ?_
    obtain ⟨z, rfl, h2⟩ := asS_post (Post.of_bnd h1)
    split at h2
    · rename_i hz
      refine ⟨z, repStr r1, by rw [← lim]; exact of_decide_eq_true hz, tJ_js y hr (acc ++ z) st H1 Q ⟨io1, r, m1, s1, h2.mono fun d m2 q io2 H2 e2 S2 => q io2 H2 (e1.trans e2) S2⟩⟩
    · exact h2.elim
theorem se_fs {P : Phi} {t : T} {v1 v2 : Expr} {rest : List Expr} (hr : isRow t = true) (h : PJ X (v1 :: v2 :: rest) ((jOf P t).map (tM X.K X.mg))) : PE X (.JoinedStr (v1 :: v2 :: rest) pos) (tM X.K X.mg fun r => bnd ((den P t).j Str.empty r) fun z => LC.ret (.str z)) :=
  PE.mono (pe_joined h) fun st H Q ⟨io, r, m, s, h⟩ => tJ_js t hr Str.empty st H _ ⟨io, r, m, s, (Post.of_bnd h).mono fun d m1 q io1 H1 e1 S1 => WV.here (WV.from e1 (show WV X.K X.mg io m H Q _ m1 from q)) S1 rfl⟩
end
section
variable {X : Cx} {a b o : Expr} {es : List Expr} {ma mb : Env → M D} {ml : Env → M (List D)} {pos p3 : Pos}
theorem sa_star (ha : PE X a (tM X.K X.mg ma)) (hl : PA X es (tL X.K X.mg ml)) : PA X (.Starred a p3 :: es) (tL X.K X.mg fun r => bnd (ma r) fun p => bnd (starred p) fun l => bnd (ml r) fun q => LC.ret (l ++ q)) :=
  PA.mono (StX.pa_star ha hl) fun st H Q ⟨io, r, m, s, h⟩ => tM.bind s h fun io1 H1 m1 p x e1 s1 r1 h1 => by
    obtain ⟨c, ds, vs, rfl, q1, r2, h2⟩ := starred_rep s1.s r1 (Post.of_bnd h1)
    have fin : tL X.K X.mg ml st H1 fun ys H2 => Q (vs ++ ys) H2 := tL.bind s1 h2 fun io2 H2 m2 q y e2 s2 r3 h3 =>
      (Post.of_ret h3) io2 H2 (vs ++ y) (e1.trans e2) s2.s ((r2.keep s1.s e2).append r3)
    exact ⟨c, vs, rfl, q1.symm, fin⟩
end
end LC

/-! # LcJ: attributes, calls of defs, methods, classes -/
namespace LC
open PySem PySem.Spec PyProof.Rows L2

/-- a def of the text: where it stands, what it is, its parameters -/
structure DefAt where
  ad : Addr
  fd : FuncData
  ps : List Str
structure ClsAt (K : PySem.W.Frag) (mg : Str → Option Value) (T : Nat → DefAt) (C : Str) (c : LC.Cls) (Ca : Addr) : Prop where
  mg : mg C = some (.ref Ca)
  cls : L2.Cls K Ca
  ini : ∀ k, c.init = some k → L2.Mk K Ca (T k).ad
  met : ∀ f k, c.meths.lookup f = some k → L2.Meth K Ca f (T k).ad
  pro : ∀ f k, c.props.lookup f = some k → ∃ p, L2.PropOf K Ca f p (T k).ad
  cme : ∀ f k, c.cms.lookup f = some k → ∃ p mc, ClX.CRead K Ca mc ∧ ClX.CMet K Ca mc f p (T k).ad
  fld : ∀ f, c.flds.contains f = true → L2.NoAttr K Ca f
  kc : PySem.W.findIn K (.ref Ca) "__class__" = some (some (.builtin "object.__class__"))
  kg : PySem.W.specialIn K (.builtin "object.__class__") "__get__" = some (some (.builtin "getset_descriptor.__get__"))
  kt : PySem.W.takesIn K (.builtin "object.__class__") = some true
  ko : PySem.W.mroIn K Ca (.type "object") = some true
  kn : PySem.W.findIn K (.ref Ca) "__ne__" = some (some (.builtin "object.__ne__"))
  nt : ∀ T ∈ ["NoneType", "bool", "int", "str", "tuple", "list"], PySem.W.mroIn K Ca (.type T) = some false
def clOf (cls : List LC.Cls) (C : Str) : Option LC.Cls := cls.find? fun c => c.name == C
structure Top (K : PySem.W.Frag) (mg : Str → Option Value) (cls : List LC.Cls) (T : Nat → DefAt) (ca : Str → Addr) : Prop where
  one : ∀ C c, clOf cls C = some c → ClsAt K mg T C c (ca C)
  kk : ∀ C c C' c', clOf cls C = some c → clOf cls C' = some c' → PySem.W.kitOne K (.ref (ca C)) (.ref (ca C')) = some (C == C')
  kt : ∀ C c b, clOf cls C = some c → knownTy b = true → PySem.W.kitOne K (.ref (ca C)) (.type b) = some false
  tk : ∀ C c a, clOf cls C = some c → a ∈ ["NoneType", "bool", "int", "str", "tuple", "list"] → PySem.W.kitOne K (.type a) (.ref (ca C)) = some false
def spM (K : PySem.W.Frag) (mg : Str → Option Value) (f : List D → M D) : Sp := fun vs H Q _ => rCB K mg f vs H Q
def gOf {α : Type} (n m : Nat) (pm : List Nat) (us ws : List α) : List α := if us.length = n ∧ ws.length = m then (pick pm (us ++ ws)).getD [] else []
structure Wd (X : Cx) (P : Phi) (T : Nat → DefAt) (ca : Str → Addr) (kws : List (Nat × List Str × List Nat)) (n L : Nat) : Prop where
  top : Top X.K X.mg P.cls T ca
  bd : ∀ k, k < n → Binds X.K (T k).fd (T k).ps []
  kb : ∀ k ks pm, (k, ks, pm) ∈ kws → KBinds X.K (T k).fd (T k).ps ks (gOf (pm.length - ks.length) ks.length pm) (gOf (pm.length - ks.length) ks.length pm)
  fn : ∀ k, k < n → FnG X.prog X.w X.K X.mg X.base L (T k).ad (T k).fd (T k).ps (spM X.K X.mg (P.call k))
  out : ∀ k as m F, Post (P.call k as m) F → k < n
  gd : X.A.guards = some []
  rm : Room (L + 1) X.A
  rm2 : Room (L + 2) X.A
  cm : X.calm = true
  nd : X.N.Nodup

/-- one value in -/
def rU1 (K : PySem.W.Frag) (mg : Str → Option Value) (f : D → M D) : V → Hp → VK → Prop := fun x H Q => ∃ io m p, SRel K mg io m H ∧ RepV K mg io m.length H p x ∧ Post (f p m) (WV K mg io m H Q)
section
variable {K : PySem.W.Frag} {mg : Str → Option Value} {io : Pl} {r : Env} {m : Sto} {st : L2.St} {H : Hp}
theorem one {ma : Env → M D} {g : D → M D} {Q : VK} (s : S0 K mg io r m st H) (h : Post (bnd (ma r) g m) (WV K mg io m H Q)) : tM K mg ma st H fun x H1 => rU1 K mg g x H1 Q :=
  tM.bind s h fun io1 H1 m1 p x e1 s1 r1 h1 => ⟨io1, m1, p, s1.s, r1, WVpost.from e1 h1⟩
theorem many {ml : Env → M (List D)} {g : List D → M D} {Q : VK} (s : S0 K mg io r m st H) (h : Post (bnd (ml r) g m) (WV K mg io m H Q)) : tL K mg ml st H fun x H1 => rCB K mg g x H1 Q :=
  tL.bind s h fun io1 H1 m1 p x e1 s1 r1 h1 => ⟨io1, m1, p, s1.s, r1, WVpost.from e1 h1⟩
/-- an instance at a place -/
theorem ins_at {n : Nat} {C : Str} {fs : List (Str × D)} {v : V} (S : SRel K mg io m H) (hv : RepV K mg io m.length H (.ref n) v) (e : m[n]? = some (.ins C fs)) :
    ∃ Ca dx fvs, v = .ref (io n) ∧ mg C = some (.ref Ca) ∧ H (io n) = some (.ins Ca dx fvs) ∧ RepF K mg io m.length H fs fvs := by
  obtain ⟨hn, rfl⟩ := hv
  obtain ⟨Ca, dx, fvs, h0, h1, h2⟩ := S.ob n _ e
  exact ⟨Ca, dx, fvs, rfl, h0, h1, h2⟩
theorem ClsAt.same {T : Nat → DefAt} {C : Str} {c : LC.Cls} {Ca Cb : Addr} (a : ClsAt K mg T C c Ca) (e : mg C = some (.ref Cb)) : Cb = Ca := by
  rw [a.mg] at e; cases e; rfl
end

section
variable {X : Cx} {P : Phi} {T : Nat → DefAt} {ca : Str → Addr} {kws : List (Nat × List Str × List Nat)} {n L : Nat} {a o : Expr} {es : List Expr} {ma : Env → M D} {ml : Env → M (List D)} {pos apos np : Pos} {f C : Str}
theorem Wd.call0 (W : Wd X P T ca kws n L) {k : Nat} {us : List Value} {vs : List V} {pins : List (Addr × Obj)} {st : L2.St} {H : Hp} {s : Shared} {Q : VK} (hk : k < n) (I : L2.Inv X pins st H s) (rl : Vals vs us) (h : rCB X.K X.mg (P.call k) vs H Q) :
    wpAny (model X.prog X.w) X.A (PySem.call (.ref (T k).ad) us) (EP X pins st Q) X.xe s :=
  (W.fn k hk).call W.gd (W.rm.mono (Nat.le_succ _)) (W.bd k hk) I rl h
theorem rCB.lt (W : Wd X P T ca kws n L) {k : Nat} {vs : List V} {H : Hp} {Q : VK} (h : rCB X.K X.mg (P.call k) vs H Q) : k < n := by
  obtain ⟨io, m, ps, _, _, h⟩ := h
  exact W.out k _ _ _ h
theorem se_at (W : Wd X P T ca kws n L) (hn : nsup a = true) (ha : PE X a (tM X.K X.mg ma)) : PE X (.Attribute a f pos) (tM X.K X.mg fun r => bnd (ma r) (opAt P f)) :=
  ⟨fun pins s st H Q I ⟨io, r, m, s0, h⟩ => attr_of (base_nsup hn) (thn (ha.run pins s st H _ I (one s0 h)) fun u s1 ⟨x, H1, I1, rx, io1, m1, p, S1, hp, h1⟩ => by
    unfold opAt at h1
    split at h1 <;> first | exact h1.elim | skip
    rename_i j
    split at h1 <;> first | exact h1.elim | skip
    rename_i C fs e
    split at h1 <;> first | exact h1.elim | skip
    rename_i c ec
    obtain ⟨Ca, dx, fvs, rfl, h0, ea, rf⟩ := ins_at S1 hp e
    have A := W.top.one C c ec
    cases A.same h0
    cases (show u = Value.ref _ from rx)
    split at h1
    · rename_i hf
      obtain ⟨d, el, h2⟩ := oOut_post h1
      obtain ⟨v, ev, rv⟩ := rf.look el
      exact getattr_ok I1 ea A.cls (A.fld f hf) ev fun u' s2 I2 ru => ⟨v, H1, I2, ru, WV.here h2 S1 rv⟩
    · split at h1
      · rename_i k ek
        obtain ⟨p, hp2⟩ := A.pro f k ek
        have hr : rCB X.K X.mg (P.call k) [.ref (io1 j)] H1 Q := ⟨io1, m1, [.ref j], S1, ⟨_, _, rfl, hp, rfl⟩, h1⟩
        exact (W.fn k (rCB.lt W hr)).prop hp2 A.cls W.gd W.rm (W.bd k (rCB.lt W hr)) I1 ea hr
      · exact h1.elim)⟩

/-- what runs behind the callee's name -/
theorem se_run0 {x : Str} {fa : Addr} {g : List D → M D} (hg : Gl X x) (hm : X.mg x = some (.ref fa)) (hk : PySem.W.keepIn X.K (.ref fa) = true) (hd : (x == ("__debug__" : Str)) = false)
    (run : ∀ (pins : List (Addr × Obj)) (st : L2.St) (H : Hp) (s : Shared) (Q : VK) (us : List Value) (vs : List V), L2.Inv X pins st H s → Vals vs us → rCB X.K X.mg g vs H Q → wpAny (model X.prog X.w) X.A (PySem.call (.ref fa) us) (EP X pins st Q) X.xe s) :
    PE X (.Call (.Name x np) [] [] pos) (tM X.K X.mg fun r => bnd (LC.ret []) g) :=
  ⟨fun pins s st H Q I ⟨io, r, m, s0, h⟩ => wpAny_Call_Name_kw (ld_glob I hg hm (PySem.W.callWith_K0 I.kIn hk (run pins st H s Q [] [] I .nil ⟨io, m, [], s0.s, rfl, h⟩)) hd)⟩
theorem se_run {x : Str} {fa : Addr} {g : List D → M D} (hg : Gl X x) (hm : X.mg x = some (.ref fa)) (hk : PySem.W.keepIn X.K (.ref fa) = true) (hd : (x == ("__debug__" : Str)) = false) (hn : (a :: es).all nst = true) (hl : PA X (a :: es) (tL X.K X.mg ml))
    (run : ∀ (pins : List (Addr × Obj)) (st : L2.St) (H : Hp) (s : Shared) (Q : VK) (us : List Value) (vs : List V), L2.Inv X pins st H s → Vals vs us → rCB X.K X.mg g vs H Q → wpAny (model X.prog X.w) X.A (PySem.call (.ref fa) us) (EP X pins st Q) X.xe s) :
    PE X (.Call (.Name x np) (a :: es) [] pos) (tM X.K X.mg fun r => bnd (ml r) g) := by
  rw [List.all_cons, Bool.and_eq_true] at hn
  exact ⟨fun pins s st H Q I ⟨io, r, m, s0, h⟩ => wpAny_Call_Name_kw (ld_glob I hg hm (PySem.W.callWith_K (h₀ := X.base) I.ok.mod.kin hk (thn (hl.run pos pins s st H _ I (many s0 h)) fun us s1 ⟨vs, H1, I1, rl, q⟩ => ⟨I1.kIn, run pins st H1 s1 Q us vs I1 rl q⟩) (each_nst hn.1) (nst_none hn.2)) hd)⟩

/-! ### keywords -/
theorem PK.mono {ks : List Keyword} {t t' : TA} (h : PK X ks t) (k : ∀ st H Q, t' st H Q → t st H Q) : PK X ks t' := ⟨fun pos pins s st H Q I q => h.run pos pins s st H Q I (k _ _ _ q)⟩
theorem sk_nil : PK X [] (tL X.K X.mg fun _ => LC.ret []) := PK.mono pk_nil fun st H Q ⟨io, r, m, s, h⟩ => (Post.of_ret h) io H [] LC.Ext.refl s.s rfl
theorem sk_cons {nm : Option Str} {kp : Pos} {ks : List Keyword} (ha : PE X a (tM X.K X.mg ma)) (hl : PK X ks (tL X.K X.mg ml)) : PK X (⟨nm, a, kp⟩ :: ks) (tL X.K X.mg fun r => bnd (ma r) fun p => bnd (ml r) fun q => LC.ret (p :: q)) :=
  PK.mono (pk_cons ha hl) fun st H Q ⟨io, r, m, s, h⟩ => tM.bind s h fun io1 H1 m1 p x e1 s1 r1 h1 => tL.bind s1 h1 fun io2 H2 m2 q y e2 s2 r2 h2 =>
    (Post.of_ret h2) io2 H2 (x :: y) (e1.trans e2) s2.s ⟨x, y, rfl, r1.keep s1.s e2, r2⟩
/-- values by place, values by name -/
def rCK (K : PySem.W.Frag) (mg : Str → Option Value) (f : List D → List D → M D) : List V → List V → Hp → VK → Prop := fun xs zs H Q => ∃ io m ps qs, SRel K mg io m H ∧ RepVs K mg io m.length H ps xs ∧ RepVs K mg io m.length H qs zs ∧ Post (f ps qs m) (WV K mg io m H Q)
theorem manyK {mk : Env → M (List D)} {g : List D → List D → M D} {io : Pl} {r : Env} {m : Sto} {st : L2.St} {H : Hp} {Q : VK} (s : S0 X.K X.mg io r m st H) (h : Post (bnd (ml r) (fun as => bnd (mk r) fun bs => g as bs) m) (WV X.K X.mg io m H Q)) :
    tL X.K X.mg ml st H fun x H1 => tL X.K X.mg mk st H1 fun y H2 => rCK X.K X.mg g x y H2 Q :=
  tL.bind s h fun io1 H1 m1 p x e1 s1 r1 h1 => tL.bind s1 h1 fun io2 H2 m2 q y e2 s2 r2 h2 => ⟨io2, m2, p, q, s2.s, r1.keep s1.s e2, r2, WVpost.from (e1.trans e2) h2⟩
theorem se_runK0 {x : Str} {fa : Addr} {ks : List Keyword} {mk : Env → M (List D)} {g : List D → List D → M D} (hg : Gl X x) (hm : X.mg x = some (.ref fa)) (hk : PySem.W.keepIn X.K (.ref fa) = true) (hd : (x == ("__debug__" : Str)) = false) (hks : ks.all (fun k => k.arg.isSome) = true)
    (hl : PK X ks (tL X.K X.mg mk))
    (run : ∀ (pins : List (Addr × Obj)) (st : L2.St) (H : Hp) (s : Shared) (Q : VK) (us ws : List Value) (vs zs : List V), L2.Inv X pins st H s → Vals vs us → Vals zs ws → rCK X.K X.mg g vs zs H Q → wpAny (model X.prog X.w) X.A (PySem.call (.ref fa) us ((ks.filterMap (·.arg)).zip ws)) (EP X pins st Q) X.xe s) :
    PE X (.Call (.Name x np) [] ks pos) (tM X.K X.mg fun r => bnd (LC.ret []) fun as => bnd (mk r) fun bs => g as bs) :=
  ⟨fun pins s st H Q I ⟨io, r, m, s0, h⟩ => wpAny_Call_Name_kw (ld_glob I hg hm (PySem.W.callWith_KW0 (h₀ := X.base) I.ok.mod.kin hk (kw_all hks) (thn (hl.run pos pins s st H (fun zs H1 => rCK X.K X.mg g [] zs H1 Q) I
    (tL.bind s0 (show Post (bnd (mk r) (fun bs => g [] bs) m) _ from h) fun io2 H2 m2 q y e2 s2 r2 h2 => ⟨io2, m2, [], q, s2.s, rfl, r2, WVpost.from e2 h2⟩)) fun ws s1 ⟨zs, H1, I1, rl, q⟩ => ⟨I1.kIn, by rw [kw_names]; exact run pins st H1 s1 Q [] ws [] zs I1 .nil rl q⟩)
      (by rw [kw_none hks] <;> rfl)) hd)⟩
theorem se_runK {x : Str} {fa : Addr} {ks : List Keyword} {mk : Env → M (List D)} {g : List D → List D → M D} (hg : Gl X x) (hm : X.mg x = some (.ref fa)) (hk : PySem.W.keepIn X.K (.ref fa) = true) (hd : (x == ("__debug__" : Str)) = false) (hn : (a :: es).all nst = true) (hks : ks.all (fun k => k.arg.isSome) = true)
    (ha : PA X (a :: es) (tL X.K X.mg ml)) (hl : PK X ks (tL X.K X.mg mk))
    (run : ∀ (pins : List (Addr × Obj)) (st : L2.St) (H : Hp) (s : Shared) (Q : VK) (us ws : List Value) (vs zs : List V), L2.Inv X pins st H s → Vals vs us → Vals zs ws → rCK X.K X.mg g vs zs H Q → wpAny (model X.prog X.w) X.A (PySem.call (.ref fa) us ((ks.filterMap (·.arg)).zip ws)) (EP X pins st Q) X.xe s) :
    PE X (.Call (.Name x np) (a :: es) ks pos) (tM X.K X.mg fun r => bnd (ml r) fun as => bnd (mk r) fun bs => g as bs) := by
  have hn' := hn
  rw [List.all_cons, Bool.and_eq_true] at hn'
  exact ⟨fun pins s st H Q I ⟨io, r, m, s0, h⟩ => wpAny_Call_Name_kw (ld_glob I hg hm (PySem.W.callWith_KW (h₀ := X.base) I.ok.mod.kin hk (kw_all hks) (thn (ha.run pos pins s st H _ I (manyK s0 h)) fun us s1 ⟨vs, H1, I1, rl, q⟩ => thn (hl.run pos pins s1 st H1 _ I1 q) fun ws s2 ⟨zs, H2, I2, rl2, q2⟩ =>
    ⟨I2.kIn, by rw [kw_names]; exact run pins st H2 s2 Q us ws vs zs I2 rl rl2 q2⟩) (by rw [nst_none hn, kw_none hks] <;> rfl) (each_nst hn'.1)) hd)⟩

/-! ### a method -/
theorem meth_form {kws : List Keyword} {env : PySem.Env} (h1 : nsup o = true) (h2 : (es.all nst && kws.all (fun k => k.arg.isSome) && decide (es.length + kws.length + (if kws.isEmpty then 0 else 1) < 30)) = true) (h3 : (apos.endLine == pos.line) = true) :
    eval (.Call (.Attribute o f apos) es kws pos) env = (do
      let ov ← eval o env
      standAt apos.atName
      let (g, first) ← holding [ov] (getMethod ov f (do return (← importBound o env).getD true))
      callWith pos g first (backTo pos (starEach es env)) (backToKw pos (keywordEach kws env))) := by
  have few : methodCallForm (es.length + kws.length) (backTo pos (starEach es env)) (backToKw pos (keywordEach kws env)) = true := by
    simp only [Bool.and_eq_true, decide_eq_true_eq] at h2
    obtain ⟨⟨h4, h5⟩, h6⟩ := h2
    have e : (backToKw pos (keywordEach kws env)).isEmpty = kws.isEmpty := by
      cases kws with
      | nil => rfl
      | cons k r => cases k; rfl
    unfold methodCallForm
    rw [nst_all h4, kw_all h5, e]
    simp only [Bool.true_and, decide_eq_true_eq]
    exact h6
  have step : ∀ ov, methodCall o f apos pos env ov (es.length + kws.length) (backTo pos (starEach es env)) (backToKw pos (keywordEach kws env)) = (do
      let (g, first) ← holding [ov] (getMethod ov f (do return (← importBound o env).getD true))
      callWith pos g first (backTo pos (starEach es env)) (backToKw pos (keywordEach kws env))) := fun ov => by
    unfold methodCall
    rw [few]
    unfold methodCallPos calleeOf
    rw [h3] <;> rfl
  show (do
    let ov ← attributeBase o f env (eval o env)
    standAt apos.atName
    methodCall o f apos pos env ov (es.length + kws.length) (backTo pos (starEach es env)) (backToKw pos (keywordEach kws env))) = _
  rw [base_nsup h1]
  simp only [step]
end
end LC

/-! # LcK: methods, new instances, built-in functions -/
namespace LC
open PySem PySem.Spec PyProof.Rows L2
theorem gOf_rel {n m : Nat} {pm : List Nat} {vs : List V} {us : List Value} {zs : List V} {ws : List Value} (a : Vals vs us) (b : Vals zs ws) : Vals (gOf n m pm vs zs) (gOf n m pm us ws) := by
  unfold gOf
  rw [a.length, b.length]
  split
  · have ab := a.append b
    generalize vs ++ zs = xs at ab
    generalize us ++ ws = ys at ab
    unfold pick
    have key : ∀ pm : List Nat, (∃ l l', (pm.mapM fun k => xs[k]?) = some l ∧ (pm.mapM fun k => ys[k]?) = some l' ∧ Vals l l') ∨ ((pm.mapM fun k => xs[k]?) = none ∧ (pm.mapM fun k => ys[k]?) = none) := by
      intro pm
      induction pm with
      | nil => exact .inl ⟨[], [], rfl, rfl, .nil⟩
      | cons k r ih =>
        rw [List.mapM_cons, List.mapM_cons]
        cases e : xs[k]? with
        | none =>
          have : ys[k]? = none := by
            rw [List.getElem?_eq_none_iff] at e ⊢
            rw [← ab.length]; exact e
          rw [this]
          exact .inr ⟨rfl, rfl⟩
        | some v =>
          obtain ⟨u, e2, rv⟩ := ab.get e
          rw [e2]
          rcases ih with ⟨l, l', h1, h2, h3⟩ | ⟨h1, h2⟩
          · rw [h1, h2]; exact .inl ⟨v :: l, u :: l', rfl, rfl, .cons rv h3⟩
          · rw [h1, h2]; exact .inr ⟨rfl, rfl⟩
    rcases key pm with ⟨l, l', h1, h2, h3⟩ | ⟨h1, h2⟩
    · rw [h1, h2]; exact h3
    · rw [h1, h2]; exact .nil
  · exact .nil
section
variable {K : PySem.W.Frag} {mg : Str → Option Value} {io : Pl} {m : Sto} {H : Hp}
theorem pick_rep {N : Nat} {ds : List D} {vs : List V} (h : RepVs K mg io N H ds vs) : ∀ (pm : List Nat) (l : List D), pick pm ds = some l → ∃ l', pick pm vs = some l' ∧ RepVs K mg io N H l l'
  | [], l, e => by cases e; exact ⟨[], rfl, rfl⟩
  | k :: r, l, e => by
    unfold pick at e ⊢
    rw [List.mapM_cons] at e ⊢
    cases e1 : ds[k]? with
    | none => rw [e1] at e; cases e
    | some d =>
      rw [e1] at e
      obtain ⟨v, e2, rv⟩ := h.get e1
      rw [e2]
      cases e3 : (r.mapM fun k => ds[k]?) with
      | none => rw [e3] at e; cases e
      | some l2 =>
        rw [e3] at e
        cases e
        obtain ⟨l', h1, h2⟩ := pick_rep h r l2 e3
        unfold pick at h1
        rw [h1]
        exact ⟨v :: l', rfl, v, l', rfl, rv, h2⟩
/-- the arguments in the parameters' order -/
theorem permK_post {n k : Nat} {pm : List Nat} {as bs : List D} {vs zs : List V} {N : Nat} {F : List D → Sto → Prop} (ra : RepVs K mg io N H as vs) (rb : RepVs K mg io N H bs zs) (h : Post (permK n k pm as bs m) F) :
    ∃ l, RepVs K mg io N H l (gOf n k pm vs zs) ∧ F l m := by
  unfold permK at h
  split at h
  · rename_i hl
    split at h
    · rename_i l e
      obtain ⟨l', h1, h2⟩ := pick_rep (ra.append rb) pm l e
      refine ⟨l, ?_, h⟩
      unfold gOf
      rw [if_pos (by rw [← ra.length, ← rb.length]; exact hl), h1]
      exact h2
    · exact h.elim
  · exact h.elim
end
theorem preMe_post {P : Phi} {f : Str} {p : D} {m : Sto} {F : Nat → Sto → Prop} (h : Post (preMe P f p m) F) : ∃ j C fs c k, p = .ref j ∧ m[j]? = some (.ins C fs) ∧ P.cl C = some c ∧ c.meths.lookup f = some k ∧ fs.lookup f = none ∧ F k m := by
  unfold preMe at h
  split at h <;> first | exact h.elim | skip
  rename_i j
  split at h <;> first | exact h.elim | skip
  rename_i C fs e
  split at h <;> first | exact h.elim | skip
  rename_i c ec
  split at h <;> first | exact h.elim | skip
  rename_i k ek
  split at h <;> first | exact h.elim | skip
  rename_i hf
  exact ⟨j, C, fs, c, k, rfl, e, ec, ek, Option.isNone_iff_eq_none.mp hf, h⟩

section
variable {X : Cx} {P : Phi} {T : Nat → DefAt} {ca : Str → Addr} {kws : List (Nat × List Str × List Nat)} {n L : Nat} {a o : Expr} {es : List Expr} {ma : Env → M D} {ml mk : Env → M (List D)} {pos apos np : Pos} {f C : Str}

theorem se_me0 (W : Wd X P T ca kws n L) (ha : PE X o (tM X.K X.mg ma)) (hn : nsup o = true) (hline : (apos.endLine == pos.line) = true) :
    PE X (.Call (.Attribute o f apos) [] [] pos) (tM X.K X.mg fun r => bnd (ma r) fun p => bnd (preMe P f p) fun k => bnd (LC.ret []) fun as => P.call k (p :: as)) :=
  ⟨fun pins s st H Q I ⟨io, r, m, s0, h⟩ => PySem.W.methodCall_KW (thn (ha.run pins s st H (fun x H1 => ∃ io1 m1 p, Ext io m.length H io1 m1.length H1 ∧ S0 X.K X.mg io1 r m1 st H1 ∧ RepV X.K X.mg io1 m1.length H1 p x ∧ Post (bnd (preMe P f p) (fun k => bnd (LC.ret []) fun as => P.call k (p :: as)) m1) (WV X.K X.mg io m H Q)) I
      (tM.bind s0 h fun io1 H1 m1 p x e1 s1 r1 h1 => ⟨io1, m1, p, e1, s1, r1, h1⟩)) fun u s1 ⟨x, H1, I1, rx, io1, m1, p, e1, s2, r1, h1⟩ => by
    obtain ⟨j, C, fs, c, k, rfl, e2, ec, ek, ef, h2⟩ := preMe_post (Post.of_bnd h1)
    obtain ⟨Ca, dx, fvs, rfl, h0, ea, rf⟩ := ins_at s2.s r1 e2
    have A := W.top.one C c ec
    cases A.same h0
    cases (show u = Value.ref _ from rx)
    refine getmeth_ok I1 ea A.cls (A.met f k ek) (rf.none ef) ?_
    have hr : rCB X.K X.mg (P.call k) [.ref (io1 j)] H1 Q := ⟨io1, m1, [.ref j], s2.s, ⟨_, _, rfl, r1, rfl⟩, WVpost.from e1 h2⟩
    exact PySem.W.callWith_K0 (first := [.ref (io1 j)]) I1.kIn (A.met f k ek).kp (W.call0 (us := [.ref (io1 j)]) (vs := [.ref (io1 j)]) (rCB.lt W hr) I1 (.cons rfl .nil) hr)) (meth_form hn (by simp) hline)⟩
theorem se_me {e : Expr} (W : Wd X P T ca kws n L) (ha : PE X o (tM X.K X.mg ma)) (hn : nsup o = true) (hline : (apos.endLine == pos.line) = true) (hs : (e :: es).all nst = true) (hlt : decide ((e :: es).length < 29) = true) (hl : PA X (e :: es) (tL X.K X.mg ml)) :
    PE X (.Call (.Attribute o f apos) (e :: es) [] pos) (tM X.K X.mg fun r => bnd (ma r) fun p => bnd (preMe P f p) fun k => bnd (ml r) fun as => P.call k (p :: as)) :=
  ⟨fun pins s st H Q I ⟨io, r, m, s0, h⟩ => PySem.W.methodCall_KW (thn (ha.run pins s st H (fun x H1 => ∃ io1 m1 p, Ext io m.length H io1 m1.length H1 ∧ S0 X.K X.mg io1 r m1 st H1 ∧ RepV X.K X.mg io1 m1.length H1 p x ∧ Post (bnd (preMe P f p) (fun k => bnd (ml r) fun as => P.call k (p :: as)) m1) (WV X.K X.mg io m H Q)) I
      (tM.bind s0 h fun io1 H1 m1 p x e1 s1 r1 h1 => ⟨io1, m1, p, e1, s1, r1, h1⟩)) fun u s1 ⟨x, H1, I1, rx, io1, m1, p, e1, s2, r1, h1⟩ => by
    obtain ⟨j, C, fs, c, k, rfl, e2, ec, ek, ef, h2⟩ := preMe_post (Post.of_bnd h1)
    obtain ⟨Ca, dx, fvs, rfl, h0, ea, rf⟩ := ins_at s2.s r1 e2
    have A := W.top.one C c ec
    cases A.same h0
    cases (show u = Value.ref _ from rx)
    refine getmeth_ok I1 ea A.cls (A.met f k ek) (rf.none ef) ?_
    have hs' := hs
    rw [List.all_cons, Bool.and_eq_true] at hs'
    refine PySem.W.callWith_K (first := [.ref (io1 j)]) (h₀ := X.base) I.ok.mod.kin (A.met f k ek).kp (thn (hl.run pos pins s1 st H1 (fun vs H2 => rCB X.K X.mg (P.call k) (.ref (io1 j) :: vs) H2 Q) I1
      (tL.bind s2 h2 fun io3 H3 m3 q y e3 s3 r3 h3 => ⟨io3, m3, .ref j :: q, s3.s, ⟨_, _, rfl, r1.keep s2.s e3, r3⟩, WVpost.from (e1.trans e3) h3⟩)) fun us s4 ⟨vs, H4, I4, rl, hr⟩ => ⟨I4.kIn, ?_⟩) (each_nst hs'.1) (nst_none hs'.2)
    exact W.call0 (us := .ref (io1 j) :: us) (vs := .ref (io1 j) :: vs) (rCB.lt W hr) I4 (.cons rfl rl) hr) (meth_form hn (by
      have := of_decide_eq_true hlt
      rw [hs]
      simp only [List.all_nil, Bool.true_and, decide_eq_true_eq, List.isEmpty_nil, List.length_nil, if_true]
      omega) hline)⟩

/-! ### o.m(.., k = v, ..) -/
theorem se_mek0 {ks : List Str} {pm : List Nat} {kw : List Keyword} (W : Wd X P T ca kws n L) (ha : PE X o (tM X.K X.mg ma)) (hn : nsup o = true) (hline : (apos.endLine == pos.line) = true) (hlt : decide (kw.length < 28) = true) (hks : kw.all (fun k => k.arg.isSome) = true)
    (hnm : kw.filterMap (·.arg) = ks) (hkw : ∀ C c k, P.cl C = some c → c.meths.lookup f = some k → (k, ks, pm) ∈ kws) (hk : PK X kw (tL X.K X.mg mk)) :
    PE X (.Call (.Attribute o f apos) [] kw pos) (tM X.K X.mg fun r => bnd (ma r) fun p => bnd (preMe P f p) fun k => bnd (LC.ret []) fun as => bnd (mk r) fun bs => bnd (permK (pm.length - ks.length) ks.length pm (p :: as) bs) (P.call k)) :=
  ⟨fun pins s st H Q I ⟨io, r, m, s0, h⟩ => PySem.W.methodCall_KW (thn (ha.run pins s st H (fun x H1 => ∃ io1 m1 p, Ext io m.length H io1 m1.length H1 ∧ S0 X.K X.mg io1 r m1 st H1 ∧ RepV X.K X.mg io1 m1.length H1 p x ∧ Post (bnd (preMe P f p) (fun k => bnd (LC.ret []) fun as => bnd (mk r) fun bs => bnd (permK (pm.length - ks.length) ks.length pm (p :: as) bs) (P.call k)) m1) (WV X.K X.mg io m H Q)) I
      (tM.bind s0 h fun io1 H1 m1 p x e1 s1 r1 h1 => ⟨io1, m1, p, e1, s1, r1, h1⟩)) fun u s1 ⟨x, H1, I1, rx, io1, m1, p, e1, s2, r1, h1⟩ => by
    obtain ⟨j, C, fs, c, k, rfl, e2, ec, ek, ef, h2⟩ := preMe_post (Post.of_bnd h1)
    obtain ⟨Ca, dx, fvs, rfl, h0, ea, rf⟩ := ins_at s2.s r1 e2
    have A := W.top.one C c ec
    cases A.same h0
    cases (show u = Value.ref _ from rx)
    refine getmeth_ok I1 ea A.cls (A.met f k ek) (rf.none ef) ?_
    refine PySem.W.callWith_KW0 (first := [.ref (io1 j)]) (h₀ := X.base) I.ok.mod.kin (A.met f k ek).kp (kw_all hks) (thn (hk.run pos pins s1 st H1 (fun zs H2 => rCK X.K X.mg (fun as bs => bnd (permK (pm.length - ks.length) ks.length pm as bs) (P.call k)) [.ref (io1 j)] zs H2 Q) I1
      (tL.bind s2 (show Post (bnd (mk r) (fun bs => bnd (permK (pm.length - ks.length) ks.length pm [.ref j] bs) (P.call k)) m1) _ from h2) fun io3 H3 m3 q y e3 s3 r3 h3 => ⟨io3, m3, [.ref j], q, s3.s, ⟨_, _, rfl, r1.keep s2.s e3, rfl⟩, r3, WVpost.from (e1.trans e3) h3⟩)) fun ws s4 ⟨zs, H4, I4, rl, hr⟩ => ⟨I4.kIn, ?_⟩) (by rw [kw_none hks] <;> rfl)
    rw [kw_names, hnm]
    obtain ⟨io5, m5, ps5, qs5, S5, hp5, hq5, h5⟩ := hr
    obtain ⟨l, r6, h6⟩ := permK_post hp5 hq5 (Post.of_bnd h5)
    exact (W.fn k (W.out k _ _ _ h6)).callK (us := [.ref (io1 j)]) (vs := [.ref (io1 j)]) W.gd (W.rm.mono (Nat.le_succ _)) (W.kb k ks pm (hkw C c k ec ek)) I4 (.cons rfl .nil) rl ⟨io5, m5, l, S5, r6, h6⟩) (meth_form hn (by
      have := of_decide_eq_true hlt
      rw [hks]
      simp only [List.all_nil, Bool.true_and, decide_eq_true_eq, List.length_nil]
      split <;> omega) hline)⟩
theorem se_mek {e : Expr} {ks : List Str} {pm : List Nat} {kw : List Keyword} (W : Wd X P T ca kws n L) (ha : PE X o (tM X.K X.mg ma)) (hn : nsup o = true) (hline : (apos.endLine == pos.line) = true) (hs : (e :: es).all nst = true) (hlt : decide ((e :: es).length + kw.length < 28) = true) (hks : kw.all (fun k => k.arg.isSome) = true)
    (hnm : kw.filterMap (·.arg) = ks) (hkw : ∀ C c k, P.cl C = some c → c.meths.lookup f = some k → (k, ks, pm) ∈ kws) (hl : PA X (e :: es) (tL X.K X.mg ml)) (hk : PK X kw (tL X.K X.mg mk)) :
    PE X (.Call (.Attribute o f apos) (e :: es) kw pos) (tM X.K X.mg fun r => bnd (ma r) fun p => bnd (preMe P f p) fun k => bnd (ml r) fun as => bnd (mk r) fun bs => bnd (permK (pm.length - ks.length) ks.length pm (p :: as) bs) (P.call k)) :=
  ⟨fun pins s st H Q I ⟨io, r, m, s0, h⟩ => PySem.W.methodCall_KW (thn (ha.run pins s st H (fun x H1 => ∃ io1 m1 p, Ext io m.length H io1 m1.length H1 ∧ S0 X.K X.mg io1 r m1 st H1 ∧ RepV X.K X.mg io1 m1.length H1 p x ∧ Post (bnd (preMe P f p) (fun k => bnd (ml r) fun as => bnd (mk r) fun bs => bnd (permK (pm.length - ks.length) ks.length pm (p :: as) bs) (P.call k)) m1) (WV X.K X.mg io m H Q)) I
      (tM.bind s0 h fun io1 H1 m1 p x e1 s1 r1 h1 => ⟨io1, m1, p, e1, s1, r1, h1⟩)) fun u s1 ⟨x, H1, I1, rx, io1, m1, p, e1, s2, r1, h1⟩ => by
    obtain ⟨j, C, fs, c, k, rfl, e2, ec, ek, ef, h2⟩ := preMe_post (Post.of_bnd h1)
    obtain ⟨Ca, dx, fvs, rfl, h0, ea, rf⟩ := ins_at s2.s r1 e2
    have A := W.top.one C c ec
    cases A.same h0
    cases (show u = Value.ref _ from rx)
    refine getmeth_ok I1 ea A.cls (A.met f k ek) (rf.none ef) ?_
    have hs' := hs
    rw [List.all_cons, Bool.and_eq_true] at hs'
    refine PySem.W.callWith_KW (first := [.ref (io1 j)]) (h₀ := X.base) I.ok.mod.kin (A.met f k ek).kp (kw_all hks) (thn (hl.run pos pins s1 st H1 (fun vs H2 => tL X.K X.mg mk st H2 fun zs H3 => rCK X.K X.mg (fun as bs => bnd (permK (pm.length - ks.length) ks.length pm as bs) (P.call k)) (.ref (io1 j) :: vs) zs H3 Q) I1
      (tL.bind s2 h2 fun io3 H3 m3 q y e3 s3 r3 h3 => tL.bind s3 h3 fun io4 H4 m4 q4 y4 e4 s4 r4 h4 => ⟨io4, m4, .ref j :: q, q4, s4.s, ⟨_, _, rfl, (r1.keep s2.s e3).keep s3.s e4, r3.keep s3.s e4⟩, r4, WVpost.from ((e1.trans e3).trans e4) h4⟩)) fun us s4 ⟨vs, H4, I4, rl, hr0⟩ => thn (hk.run pos pins s4 st H4 _ I4 hr0) fun ws s5 ⟨zs, H5, I5, rl5, hr⟩ => ⟨I5.kIn, ?_⟩)
        (by rw [nst_none hs, kw_none hks] <;> rfl) (each_nst hs'.1)
    rw [kw_names, hnm]
    obtain ⟨io5, m5, ps5, qs5, S5, hp5, hq5, h5⟩ := hr
    obtain ⟨l, r6, h6⟩ := permK_post hp5 hq5 (Post.of_bnd h5)
    exact (W.fn k (W.out k _ _ _ h6)).callK (us := .ref (io1 j) :: us) (vs := .ref (io1 j) :: vs) W.gd (W.rm.mono (Nat.le_succ _)) (W.kb k ks pm (hkw C c k ec ek)) I5 (.cons rfl rl) rl5 ⟨io5, m5, l, S5, r6, h6⟩) (meth_form hn (by
      have := of_decide_eq_true hlt
      rw [hs, hks]
      simp only [Bool.true_and, decide_eq_true_eq]
      split <;> omega) hline)⟩

/-! ### C(..) -/
theorem se_mkRun (W : Wd X P T ca kws n L) {c : LC.Cls} {k : Nat} (hc : P.cl C = some c) (hk : c.init = some k) (pins : List (Addr × Obj)) (st : L2.St) (H : Hp) (s : Shared) (Q : VK) (us : List Value) (vs : List V) (I : L2.Inv X pins st H s) (rl : Vals vs us)
    (h : rCB X.K X.mg (opMk P C) vs H Q) : wpAny (model X.prog X.w) X.A (PySem.call (.ref (ca C)) us) (EP X pins st Q) X.xe s := by
  obtain ⟨io, m, ps, S, hp, h⟩ := h
  unfold opMk opMkK at h
  rw [hc] at h
  simp only [hk] at h
  have A := W.top.one C c hc
  have h2 : Post (bnd (P.call k (.ref m.length :: ps)) (fun d m' => match d with
        | .non => .ok (.ref m.length) m'
        | _ => .bad) (m ++ [.ins C []])) (WV X.K X.mg io m H Q) := h
  have hkn : k < n := W.out k _ _ _ (Post.of_bnd h2)
  refine (W.fn k hkn).make (A.ini k hk) W.gd W.rm (W.bd k hkn) I rl fun x dx hx hdx ne => ?_
  have S1 := S.new (o := .own x) hdx
  have e1 : Ext io m.length H io m.length (upd H dx (.own x)) := Ext.new hdx
  have hx' : upd H dx (.own x) x = none := by rw [upd_ne (Ne.symm ne)]; exact hx
  have e2 : Ext io m.length (upd H dx (.own x)) (ioN io m.length x) (m.length + 1) (upd (upd H dx (.own x)) x (.ins (ca C) dx [])) := Ext.place hx'
  have S2 : SRel X.K X.mg (ioN io m.length x) (m ++ [.ins C []]) (upd (upd H dx (.own x)) x (.ins (ca C) dx [])) := S1.place hx' ⟨ca C, dx, [], A.mg, upd_same, rfl⟩
  have e3 := e1.trans e2
  have rx : RepV X.K X.mg (ioN io m.length x) (m.length + 1) (upd (upd H dx (.own x)) x (.ins (ca C) dx [])) (.ref m.length) (.ref x) := ⟨Nat.lt_succ_self _, by rw [ioN_eq]⟩
  refine ⟨ioN io m.length x, m ++ [.ins C []], .ref m.length :: ps, S2, ?_, (Post.of_bnd h2).mono fun d m3 h3 io3 H3 v e4 S3 r3 => ?_⟩
  · rw [List.length_append, List.length_singleton]
    exact ⟨_, _, rfl, rx, hp.keep S e3⟩
  · split at h3
    · rw [List.length_append, List.length_singleton] at e4
      have h3 : WV X.K X.mg io m H Q (.ref m.length) m3 := h3
      refine ⟨r3, h3 io3 H3 _ (e3.trans e4) S3 ?_⟩
      refine ⟨Nat.lt_of_lt_of_le (Nat.lt_succ_self _) e4.le, ?_⟩
      rw [e4.ag _ (Nat.lt_succ_self _), ioN_eq]
    · exact h3.elim
theorem se_mkRunK (W : Wd X P T ca kws n L) {c : LC.Cls} {k : Nat} {ks : List Str} {pm : List Nat} (hc : P.cl C = some c) (hk : c.init = some k) (hkw : (k, ks, pm) ∈ kws) (pins : List (Addr × Obj)) (st : L2.St) (H : Hp) (s : Shared) (Q : VK) (us ws : List Value) (vs zs : List V) (I : L2.Inv X pins st H s) (rl : Vals vs us) (rz : Vals zs ws)
    (h : rCK X.K X.mg (opMkK P C (permK (pm.length - ks.length) ks.length pm)) vs zs H Q) : wpAny (model X.prog X.w) X.A (PySem.call (.ref (ca C)) us (ks.zip ws)) (EP X pins st Q) X.xe s := by
  obtain ⟨io, m, ps, qs, S, hp, hq, h⟩ := h
  unfold opMkK at h
  rw [hc] at h
  simp only [hk] at h
  have A := W.top.one C c hc
  obtain ⟨l0, hrun⟩ : ∃ l, Post (P.call k l (m ++ [.ins C []])) (fun _ _ => True) := by
    have z := Post.of_bnd (Post.of_bnd h)
    unfold permK at z
    split at z
    · split at z
      · rename_i l e
        exact ⟨l, Post.mono z fun _ _ _ => trivial⟩
      · exact z.elim
    · exact z.elim
  have hkn : k < n := W.out k _ _ _ hrun
  refine (W.fn k hkn).makeK (A.ini k hk) W.gd W.rm (W.kb k ks pm hkw) I rl rz fun x dx hx hdx ne => ?_
  have S1 := S.new (o := .own x) hdx
  have e1 : Ext io m.length H io m.length (upd H dx (.own x)) := Ext.new hdx
  have hx' : upd H dx (.own x) x = none := by rw [upd_ne (Ne.symm ne)]; exact hx
  have e2 : Ext io m.length (upd H dx (.own x)) (ioN io m.length x) (m.length + 1) (upd (upd H dx (.own x)) x (.ins (ca C) dx [])) := Ext.place hx'
  have S2 : SRel X.K X.mg (ioN io m.length x) (m ++ [.ins C []]) (upd (upd H dx (.own x)) x (.ins (ca C) dx [])) := S1.place hx' ⟨ca C, dx, [], A.mg, upd_same, rfl⟩
  have e3 := e1.trans e2
  have rx : RepV X.K X.mg (ioN io m.length x) (m.length + 1) (upd (upd H dx (.own x)) x (.ins (ca C) dx [])) (.ref m.length) (.ref x) := ⟨Nat.lt_succ_self _, by rw [ioN_eq]⟩
  have ra : RepVs X.K X.mg (ioN io m.length x) (m.length + 1) (upd (upd H dx (.own x)) x (.ins (ca C) dx [])) (.ref m.length :: ps) (.ref x :: vs) := ⟨_, _, rfl, rx, hp.keep S e3⟩
  obtain ⟨l, rl2, h2⟩ := permK_post ra (hq.keep S e3) (Post.of_bnd (Post.of_bnd h))
  refine ⟨ioN io m.length x, m ++ [.ins C []], l, S2, ?_, h2.mono fun d m3 h3 io3 H3 v e4 S3 r3 => ?_⟩
  · rw [List.length_append, List.length_singleton]
    exact rl2
  · split at h3
    · rw [List.length_append, List.length_singleton] at e4
      have h3 : WV X.K X.mg io m H Q (.ref m.length) m3 := h3
      refine ⟨r3, h3 io3 H3 _ (e3.trans e4) S3 ?_⟩
      refine ⟨Nat.lt_of_lt_of_le (Nat.lt_succ_self _) e4.le, ?_⟩
      rw [e4.ag _ (Nat.lt_succ_self _), ioN_eq]
    · exact h3.elim
theorem se_callRunK (W : Wd X P T ca kws n L) {k : Nat} {ks : List Str} {pm : List Nat} (hkw : (k, ks, pm) ∈ kws) (pins : List (Addr × Obj)) (st : L2.St) (H : Hp) (s : Shared) (Q : VK) (us ws : List Value) (vs zs : List V) (I : L2.Inv X pins st H s) (rl : Vals vs us) (rz : Vals zs ws)
    (h : rCK X.K X.mg (fun as bs => bnd (permK (pm.length - ks.length) ks.length pm as bs) (P.call k)) vs zs H Q) : wpAny (model X.prog X.w) X.A (PySem.call (.ref (T k).ad) us (ks.zip ws)) (EP X pins st Q) X.xe s := by
  obtain ⟨io, m, ps, qs, S, hp, hq, h⟩ := h
  obtain ⟨l, r, h2⟩ := permK_post hp hq (Post.of_bnd h)
  exact (W.fn k (W.out k _ _ _ h2)).callK W.gd (W.rm.mono (Nat.le_succ _)) (W.kb k ks pm hkw) I rl rz ⟨io, m, l, S, r, h2⟩
end
end LC

/-! # LcL: isinstance, repr, types, methods of lists -/
namespace LC
open PySem PySem.Spec PyProof.Rows L2 Sem Builtin PySem.SeqAt
open AutoSeq1 MeetsSeq MeetsSeq2 MeetsSeq3 SeqRoads2 in
theorem ext_tup (l : Addr) (xs : Array Value) (n : Nat) (b : Addr) (ys : Array Value) (k : Nat) (dd : Option Addr) (sl : Array (Option Value)) (h0 : ¬(!xs.isEmpty && Builtin.List.listTooLong (xs.size + ys.size)) = true) (h1 : xs.size ≤ sizeLine) (h2 : xs.size + ys.size ≤ sizeLine + 1) :
    Meets (Builtin.«list.extend» ⟨[.ref l, .ref b], []⟩) (fun _ R s => (s.heap.get? l = some { cls := .type "list", dict := none, data := .seq xs n, slots := #[] } ∧ s.heap.get? b = some { cls := .type "tuple", dict := dd, data := .seq ys k, slots := sl }) ∧
      R (.ok (.ret Value.none)) { s with heap := s.heap.update l (Obj.mapSeq fun x => x ++ ys), toks := s.toks }) :=
  .of_wp fun prog w A R s h => by
    obtain ⟨hp, g, d, tk, os⟩ := s; obtain ⟨⟨hl, hb⟩, h⟩ := h
    have f1 := idx_int
    have f2 := PyProof.Rows.sub_tuple_tuple; have f3 := PyProof.Rows.sub_list_list; have f4 := PyProof.Rows.sub_tuple_list; have f5 := PyProof.Rows.sub_list_tuple
    have hz' : (xs ++ ys).size ≤ sizeLine + 1 := by rw [Array.size_append]; exact h2
    wp_walk using (wpAny_updateSeq hl rfl (hz := h1) (_hz' := hz')), wpAny_loadPart' hl, wpAny_loadPart' hb
    exact ⟨_, rfl, h⟩
section
variable {X : Cx}
theorem mt_extT : MtR X "list.extend" fun x vs H Q => ∃ l b xs zs, x = .ref l ∧ vs = [.ref b] ∧ H l = some (.lst xs) ∧ SqT X.K H b zs ∧ xs.length + zs.length ≤ sizeLine ∧ Q .non (upd H l (.lst (xs ++ zs))) := by
  intro pins s σ H x vs v us Q I rx rv h
  obtain ⟨l, b, xs, zs, rfl, rfl, hH, hB, hz, q⟩ := h
  cases rx
  obtain ⟨u, rfl, ru⟩ := rv.one
  cases ru
  obtain ⟨z, its, n, r, hl, e⟩ := I.lstM hH
  obtain ⟨its2, r2, ⟨⟨cls, dd, data, sl⟩, e2, hc, n2, hd⟩, _⟩ := I.tuple hB
  simp only at hc hd
  subst hc hd
  have hl2 := r2.length
  have hsz : its.toArray.size + its2.toArray.size ≤ sizeLine := by rw [List.size_toArray, List.size_toArray]; omega
  have hlong : ¬ (!its.toArray.isEmpty && Builtin.List.listTooLong (its.toArray.size + its2.toArray.size)) = true := by rw [notLongL hsz, Bool.and_false]; exact Bool.false_ne_true
  refine call_meets F.slot_list_extend ⟨_, e, rfl⟩ F.entry_list_extend (F.args_list_extend_2 _ _) (ext_tup l its.toArray n b its2.toArray n2 dd sl hlong (by rw [List.size_toArray]; omega) (by omega)) ⟨⟨e, e2⟩, ?_⟩
  refine ⟨.non, _, I.lset (its' := its ++ its2) hH e (by simp) (r.append r2) (by rw [List.length_append]; omega), rfl, q⟩
end
end LC
namespace LC
open PySem PySem.Spec PyProof.Rows L2
theorem kitB_six : (["NoneType", "bool", "int", "str", "tuple", "list"].all fun a => ["int", "bool", "str", "tuple", "list", "dict"].all fun b => kitB a b == some (tyIs a b)) = true := by decide +kernel
theorem kit_ty6 {K : PySem.W.Frag} {a b : String} (ha : a ∈ ["NoneType", "bool", "int", "str", "tuple", "list"]) (hb : knownTy b = true) : PySem.W.kitOne K (.type a) (.type b) = some (tyIs a b) := by
  refine kit_ty (beq_iff_eq.mp (List.all_eq_true.mp (List.all_eq_true.mp kitB_six a ha) b ?_))
  unfold knownTy at hb
  simp only [Bool.or_eq_true, beq_iff_eq] at hb
  simp only [List.mem_cons, List.not_mem_nil, or_false]
  rcases hb with ((((h | h) | h) | h) | h) | h <;> simp [h]
theorem py_noDict : ∀ (d : D) (a : PyData), d.py = some a → a.hasDict = false
  | .non, a, e => by cases e; rfl
  | .bl b, a, e => by cases e; rfl
  | .int i, a, e => by cases e; rfl
  | .str s, a, e => by cases e; rfl
  | .tup xs, a, e => by
    unfold D.py at e
    cases z : D.pys xs with
    | none => rw [z] at e; cases e
    | some l => rw [z] at e; cases e; simpa [PyData.hasDict] using py_noDicts xs l z
  | .lst xs, a, e => by
    unfold D.py at e
    cases z : D.pys xs with
    | none => rw [z] at e; cases e
    | some l => rw [z] at e; cases e; simpa [PyData.hasDict] using py_noDicts xs l z
  | .scr _, a, e => by cases e
  | .ref _, a, e => by cases e
  | .glb _, a, e => by cases e
  | .ty _, a, e => by cases e
where py_noDicts : ∀ (ds : List D) (l : List PyData), D.pys ds = some l → PyData.hasDictAll l = false
  | [], l, e => by cases e; rfl
  | d :: ds, l, e => by
    unfold D.pys at e
    cases z : D.py d with
    | none => rw [z] at e; cases e
    | some x =>
      cases z2 : D.pys ds with
      | none => rw [z, z2] at e; cases e
      | some r =>
        rw [z, z2] at e
        cases e
        simp only [PyData.hasDictAll, py_noDict d x z, py_noDicts ds r z2, Bool.or_self]

section
variable {X : Cx} {P : Phi} {T : Nat → DefAt} {ca : Str → Addr} {kws : List (Nat × List Str × List Nat)} {n L : Nat}
/-- the built-in type of a value -/
theorem ty_rep {io : Pl} {m : Sto} {H : Hp} {d : D} {v : V} {t : String} (S : SRel X.K X.mg io m H) (hv : RepV X.K X.mg io m.length H d v) (e : tyOf m d = some t) : TyX X.K H v (.type t) ∧ t ∈ ["NoneType", "bool", "int", "str", "tuple", "list"] := by
  unfold tyOf at e
  split at e
  · rename_i z
    have z := nref z (fun _ z => nomatch z) (fun _ z => nomatch z)
    subst z; cases e; subst hv; exact ⟨.base .non, by simp⟩
  · rename_i z
    have z := nref z (fun _ z => nomatch z) (fun _ z => nomatch z)
    subst z; cases e; subst hv; exact ⟨.base (.bl _), by simp⟩
  · rename_i z
    have z := nref z (fun _ z => nomatch z) (fun _ z => nomatch z)
    subst z; cases e; subst hv; exact ⟨.base (.int _), by simp⟩
  · rename_i z
    have z := nref z (fun _ z => nomatch z) (fun _ z => nomatch z)
    subst z; cases e; subst hv; exact ⟨.base (.str _), by simp⟩
  · rename_i z
    rw [top_tup z] at hv
    cases e
    obtain ⟨a, vs, rfl, q, r⟩ := hv
    refine ⟨?_, by simp⟩
    rcases q with (q | ⟨o, q⟩) | ⟨o, its, k, q, hc, _⟩
    · exact .base (.tup q)
    · exact .fTuple q
    · exact .kTuple q hc
  · rename_i z
    cases e
    obtain ⟨a, vs, rfl, q, r⟩ := topLst S hv z
    exact ⟨.base (.lst q), by simp⟩
  · rename_i z
    rw [top_scr z] at hv
    cases e
    obtain ⟨a, rfl, q⟩ := hv
    refine ⟨?_, by simp⟩
    rcases q with ⟨o, q⟩ | ⟨o, its, k, q, hc, _⟩
    · exact .base (.frz q)
    · exact .kList q hc
  · cases e
theorem cb_isinst (W : Wd X P T ca kws n L) : CallR X (.builtin "isinstance") (rCB X.K X.mg (bIsinst P)) := by
  intro pins s st H xs us Q I r ⟨io, m, ps, S, hp, h⟩
  unfold bIsinst at h
  split at h <;> first | exact h.elim | skip
  rename_i d c
  obtain ⟨v, u, rfl, hv, hu⟩ := rep2 hp
  obtain ⟨b, eb, h⟩ := bOut_post h
  have fin : ∀ {t w : Value}, ClsV u w → TyX X.K H v t → PySem.W.kitOne X.K t w = some b → wpAny (model X.prog X.w) X.A (PySem.call (.builtin "isinstance") us) (EP X pins st Q) X.xe s := fun {t w} k ty e =>
    call_isi pins s st H _ us Q I r ⟨v, u, t, w, b, rfl, k, ty, e, WV.here h S rfl⟩
  unfold isInst1 at eb
  split at eb
  · rename_i ty
    cases (show u = .ty ty from hu)
    split at eb <;> first | cases eb | skip
    rename_i hk
    split at eb
    · rename_i j
      split at eb
      · rename_i C fs e
        split at eb <;> first | cases eb | skip
        rename_i hc
        obtain ⟨c, ec⟩ := Option.isSome_iff_exists.mp hc
        obtain ⟨Ca, dx, fvs, rfl, h0, ea, rf⟩ := ins_at S hv e
        have A := W.top.one C c ec
        cases A.same h0
        exact fin (.ty ty) (.base (.ins ea A.cls A.kc A.kg A.kt A.ko)) (W.top.kt C c ty ec hk)
      · rename_i zs e
        cases eb
        obtain ⟨hn, rfl⟩ := hv
        obtain ⟨vs, h1, _⟩ := S.ob j _ e
        exact fin (.ty ty) (.base (.lst h1)) (kit_ty6 (by simp) hk)
      · cases eb
    · cases et : tyOf m d with
      | none => rw [et] at eb; cases eb
      | some t =>
        rw [et] at eb
        cases eb
        obtain ⟨h1, h2⟩ := ty_rep S hv et
        exact fin (.ty ty) h1 (kit_ty6 h2 hk)
  · rename_i C
    split at eb <;> first | cases eb | skip
    rename_i hc
    obtain ⟨c, ec⟩ := Option.isSome_iff_exists.mp hc
    have A := W.top.one C c ec
    obtain ⟨a, h0, rfl⟩ := (show ∃ a, X.mg C = some (.ref a) ∧ u = .ref a from hu)
    cases A.same h0
    split at eb
    · rename_i j
      split at eb
      · rename_i C' fs e
        split at eb <;> first | cases eb | skip
        rename_i hc'
        obtain ⟨c', ec'⟩ := Option.isSome_iff_exists.mp hc'
        obtain ⟨Ca, dx, fvs, rfl, h0', ea, rf⟩ := ins_at S hv e
        have A' := W.top.one C' c' ec'
        cases A'.same h0'
        exact fin (.own _) (.base (.ins ea A'.cls A'.kc A'.kg A'.kt A'.ko)) (W.top.kk C' c' C c ec' ec)
      · rename_i zs e
        cases eb
        obtain ⟨hn, rfl⟩ := hv
        obtain ⟨vs, h1, _⟩ := S.ob j _ e
        exact fin (.own _) (.base (.lst h1)) (W.top.tk C c "list" ec (by simp))
      · cases eb
    · cases et : tyOf m d with
      | none => rw [et] at eb; cases eb
      | some t =>
        rw [et] at eb
        cases eb
        obtain ⟨h1, h2⟩ := ty_rep S hv et
        exact fin (.own _) h1 (W.top.tk C c t ec h2)
  · cases eb

theorem cb_repr (W : Wd X P T ca kws n L) : CallR X (.builtin "repr") (rCB X.K X.mg (bRep P)) := by
  intro pins s st H xs us Q I r ⟨io, m, ps, S, hp, h⟩
  unfold bRep at h
  split at h <;> first | exact h.elim | skip
  rename_i d
  obtain ⟨v, rfl, hv⟩ := rep1 hp
  obtain ⟨u, rfl, ru⟩ := vals1 r
  unfold bRepr at h
  split at h
  · rename_i a ea
    split at h <;> first | exact h.elim | skip
    rename_i hs
    unfold showOk at hs
    simp only [Bool.and_eq_true, decide_eq_true_eq] at hs
    obtain ⟨⟨h1, h2⟩, h3⟩ := hs
    rw [lim] at h3
    have q : Q (.str a.shown) H := WV.here h S rfl
    have dp := dp_top S hv ea
    have big : ∀ b, u = .ref b → wpAny (model X.prog X.w) X.A (PySem.call (.builtin "repr") [u]) (EP X pins st Q) X.xe s := fun b eb => by
      subst eb
      obtain ⟨as, rd⟩ := Dp.reads I a v _ dp ru
      have un := W.rm.un
      refine repr_of_reads' rd h1 (PyData.noDict_hsm (py_noDict _ a ea)) W.gd (by omega) (fun _ _ e => e) (fun h' t tk hk => ?_) h3
      exact ⟨.str a.shown, H, I.kept hk, ⟨_, rfl⟩, q⟩
    cases dp with
    | non =>
      cases ru
      exact PySem.P.repr_of_none ⟨.str "None", H, I.tok _, ⟨_, rfl⟩, q⟩
    | bl b =>
      cases ru
      exact PySem.P.repr_of_bool ⟨.str (if b then "True" else "False"), H, I.tok _, ⟨_, rfl⟩, q⟩
    | int i =>
      obtain ⟨t, rfl⟩ := ru
      exact PySem.P.repr_of_int (of_decide_eq_true h1) ⟨.str (toString i), H, I.tok _, ⟨_, rfl⟩, q⟩
    | str x =>
      obtain ⟨t, rfl⟩ := ru
      exact PySem.P.repr_of_str ⟨.str (reprText x), H, I.tok _, ⟨_, rfl⟩, q⟩ h3
    | lst _ _ => exact big _ ru
    | tup _ _ => exact big _ ru
  · split at h <;> first | exact h.elim | skip
    rename_i j _
    split at h <;> first | exact h.elim | skip
    rename_i C fs e
    split at h <;> first | exact h.elim | skip
    rename_i c ec
    split at h <;> first | exact h.elim | skip
    rename_i k ek
    split at h <;> first | exact h.elim | skip
    rename_i hf
    obtain ⟨Ca, dx, fvs, rfl, h0, ea, rf⟩ := ins_at S hv e
    have A := W.top.one C c ec
    cases A.same h0
    cases (show u = Value.ref _ from ru)
    obtain ⟨mA, O, _⟩ := ins_get I.hok ea
    obtain ⟨od, J, _⟩ := O.look
    obtain ⟨mf, F⟩ := I.fr
    have hr : rCB X.K X.mg (P.call k) [.ref (io j)] H (fun v H' => ∃ z, v = .str z ∧ Q (.str z) H') := ⟨io, m, [.ref j], S, ⟨_, _, rfl, hv, rfl⟩, (Post.of_bnd h).mono fun d' m' h' io' H' v' e' S' r' => by
      split at h'
      · rename_i z
        exact ⟨z, r', (show WV X.K X.mg io m H Q (.str z) m' from h') io' H' (.str z) e' S' rfl⟩
      · exact h'.elim⟩
    have hk := rCB.lt W hr
    have un := W.rm.units
    have b := W.bd k hk s [.ref (io j)] I.kIn ((W.fn k hk).len _ _ _ E0 hr)
    rw [List.append_nil] at b
    refine PySem.W.repr_K (by show X.A.units + 1 < cLine; omega) F I.ok.mod.kin J (A.met _ k ek).at_ (A.met _ k ek).fn (wpAny_call (codeAny_mono ((W.fn k hk).go X.A.in1 X.stack s H ⟨[.ref (io j)], []⟩ [.ref (io j)] [.ref (io j)] _ W.gd W.rm.in1 I.env0.in1 b (.cons rfl .nil) hr) fun res s' zz => ?_))
    obtain ⟨u', rfl, v, H', I3, rv, z, rfl, q3⟩ := CR.ends I zz
    obtain ⟨t, rfl⟩ := rv
    exact ⟨.str z, H', I3, ⟨t, rfl⟩, q3⟩

theorem ct_int : CallR X (.type "int") (rCB X.K X.mg tInt) := by
  intro pins s st H xs us Q I r ⟨io, m, ps, S, hp, h⟩
  unfold tInt at h
  split at h <;> first | exact h.elim | skip
  · rename_i i
    obtain ⟨v, rfl, hv⟩ := rep1 hp
    subst hv
    exact call_int1 pins s st H _ us Q I r (.inl ⟨i, rfl, WV.here h S rfl⟩)
  · rename_i i
    obtain ⟨v, rfl, hv⟩ := rep1 hp
    subst hv
    exact call_int1 pins s st H _ us Q I r (.inr ⟨i, rfl, WV.here h S rfl⟩)
  · rename_i z
    obtain ⟨v, rfl, hv⟩ := rep1 hp
    subst hv
    split at h <;> first | exact h.elim | skip
    rename_i k ek
    split at h <;> first | exact h.elim | skip
    rename_i hz
    exact call_int_str pins s st H _ us Q I r ⟨z, k, rfl, ek, of_decide_eq_true hz, WV.here h S rfl⟩
theorem ct_str : CallR X (.type "str") (rCB X.K X.mg tStr) := by
  intro pins s st H xs us Q I r ⟨io, m, ps, S, hp, h⟩
  unfold tStr at h
  split at h <;> first | exact h.elim | skip
  · rename_i i
    obtain ⟨v, rfl, hv⟩ := rep1 hp
    subst hv
    split at h <;> first | exact h.elim | skip
    rename_i hz
    exact call_str_int pins s st H _ us Q I r ⟨i, rfl, of_decide_eq_true hz, WV.here h S rfl⟩
  · rename_i z
    obtain ⟨v, rfl, hv⟩ := rep1 hp
    subst hv
    exact SkE.call_str_str pins s st H _ us Q I r ⟨z, rfl, WV.here h S rfl⟩
theorem ct_bool : CallR X (.type "bool") (rCB X.K X.mg tBool) := by
  intro pins s st H xs us Q I r ⟨io, m, ps, S, hp, h⟩
  unfold tBool at h
  split at h <;> first | exact h.elim | skip
  · rename_i i
    obtain ⟨v, rfl, hv⟩ := rep1 hp
    subst hv
    exact call_bool1 pins s st H _ us Q I r (.inl ⟨i, rfl, WV.here h S rfl⟩)
  · rename_i i
    obtain ⟨v, rfl, hv⟩ := rep1 hp
    subst hv
    exact call_bool1 pins s st H _ us Q I r (.inr ⟨i, rfl, WV.here h S rfl⟩)
theorem ct_tuple : CallR X (.type "tuple") (rCB X.K X.mg tTuple) := by
  intro pins s st H xs us Q I r ⟨io, m, ps, S, hp, h⟩
  unfold tTuple at h
  split at h <;> first | exact h.elim | skip
  rename_i d
  obtain ⟨v, rfl, hv⟩ := rep1 hp
  split at h <;> first | exact h.elim | skip
  · rename_i ys e
    obtain ⟨a, vs, rfl, q1, r1⟩ := topLst S hv e
    exact call_tuple_of pins s st H _ us Q I r ⟨a, vs, rfl, .inl ⟨SqL.of q1, fun l hl => WV.frozen h S hl (repTup S hl r1)⟩⟩
  · rename_i ys e
    rw [top_tup e] at hv
    obtain ⟨a, vs, rfl, q1, r1⟩ := hv
    exact call_tuple_of pins s st H _ us Q I r ⟨a, vs, rfl, .inr ⟨q1, WV.here h S ⟨a, vs, rfl, q1, r1⟩⟩⟩
theorem ct_list {mu : Bool} : CallR X (.type "list") (rCB X.K X.mg (tList mu)) := by
  intro pins s st H xs us Q I r ⟨io, m, ps, S, hp, h⟩
  unfold tList at h
  split at h <;> first | exact h.elim | skip
  rename_i d
  obtain ⟨v, rfl, hv⟩ := rep1 hp
  split at h <;> first | exact h.elim | skip
  · rename_i ys e
    obtain ⟨a, vs, rfl, q1, r1⟩ := topLst S hv e
    exact call_list_of pins s st H _ us Q I r ⟨a, vs, rfl, .inl (SqL.of q1), fun l hl => Post.lst h S hl r1⟩
  · rename_i ys e
    rw [top_tup e] at hv
    obtain ⟨a, vs, rfl, q1, r1⟩ := hv
    exact call_list_of pins s st H _ us Q I r ⟨a, vs, rfl, .inr q1, fun l hl => Post.lst h S hl r1⟩

def rMB (K : PySem.W.Frag) (mg : Str → Option Value) (f : D → List D → M D) : V → List V → Hp → VK → Prop := fun x xs H Q => ∃ io m p ps, SRel K mg io m H ∧ RepV K mg io m.length H p x ∧ RepVs K mg io m.length H ps xs ∧ Post (f p ps m) (WV K mg io m H Q)
theorem mr_append : MtR X "list.append" (rMB X.K X.mg mAppend) := by
  intro pins s st H x xs v us Q I rx r ⟨io, m, p, ps, S, hx, hp, h⟩
  unfold mAppend at h
  split at h <;> first | exact h.elim | skip
  rename_i j d
  split at h <;> first | exact h.elim | skip
  rename_i zs e
  split at h <;> first | exact h.elim | skip
  rename_i hz
  obtain ⟨hj, rfl⟩ := hx
  obtain ⟨w, rfl, hw⟩ := rep1 hp
  obtain ⟨vs, h1, r1⟩ := S.ob j _ e
  refine mt_append pins s st H _ _ v us Q I rx r ⟨io j, vs, w, rfl, rfl, h1, by rw [← lim, ← r1.length]; exact of_decide_eq_true hz, ?_⟩
  have x := Ext.write (u := .lst (vs ++ [w])) S hj
  refine (show WV X.K X.mg io m H Q .non (m.set j (.lst (zs ++ [d]))) from h) io _ .non (by rw [List.length_set]; exact x) (S.write hj ⟨_, upd_same, ?_⟩) rfl
  exact (r1.append hp).keep S x
theorem mr_extend : MtR X "list.extend" (rMB X.K X.mg mExtend) := by
  intro pins s st H x xs v us Q I rx r ⟨io, m, p, ps, S, hx, hp, h⟩
  unfold mExtend at h
  split at h <;> first | exact h.elim | skip
  rename_i j d
  split at h <;> first | exact h.elim | skip
  · rename_i zs ys e e2
    split at h <;> first | exact h.elim | skip
    rename_i hz
    obtain ⟨hj, rfl⟩ := hx
    obtain ⟨w, rfl, hw⟩ := rep1 hp
    obtain ⟨vs, h1, r1⟩ := S.ob j _ e
    obtain ⟨b, ws, rfl, h2, r2⟩ := topLst S hw e2
    refine mt_extend pins s st H _ _ v us Q I rx r ⟨io j, b, vs, ws, rfl, rfl, h1, h2, by rw [← lim, ← r1.length, ← r2.length]; exact of_decide_eq_true hz, ?_⟩
    have x := Ext.write (u := .lst (vs ++ ws)) S hj
    refine (show WV X.K X.mg io m H Q .non (m.set j (.lst (zs ++ ys))) from h) io _ .non (by rw [List.length_set]; exact x) (S.write hj ⟨_, upd_same, ?_⟩) rfl
    exact (r1.append r2).keep S x
  · rename_i zs ys e e2
    split at h <;> first | exact h.elim | skip
    rename_i hz
    obtain ⟨hj, rfl⟩ := hx
    obtain ⟨w, rfl, hw⟩ := rep1 hp
    obtain ⟨vs, h1, r1⟩ := S.ob j _ e
    rw [top_tup e2] at hw
    obtain ⟨b, ws, rfl, h2, r2⟩ := hw
    refine mt_extT pins s st H _ _ v us Q I rx r ⟨io j, b, vs, ws, rfl, rfl, h1, h2, by rw [← lim, ← r1.length, ← r2.length]; exact of_decide_eq_true hz, ?_⟩
    have x := Ext.write (u := .lst (vs ++ ws)) S hj
    refine (show WV X.K X.mg io m H Q .non (m.set j (.lst (zs ++ ys))) from h) io _ .non (by rw [List.length_set]; exact x) (S.write hj ⟨_, upd_same, ?_⟩) rfl
    exact (r1.append r2).keep S x
/-- o.m(e, ..), m a method of lists -/
theorem se_bm {name : Str} {id : String} {g : D → List D → M D} {o a : Expr} {es : List Expr} {ma : Env → M D} {ml : Env → M (List D)} {apos pos : Pos} (slot : Slot "list" name id) (hty : typeOf (.builtin id) = pure (.type "method_descriptor")) (hm : MtR X id (rMB X.K X.mg g))
    (ha : PE X o (tM X.K X.mg ma)) (hn : nsup o = true) (hline : (apos.endLine == pos.line) = true) (hs : (a :: es).all nst = true) (hlt : decide ((a :: es).length < 29) = true) (hl : PA X (a :: es) (tL X.K X.mg ml)) :
    PE X (.Call (.Attribute o name apos) (a :: es) [] pos) (tM X.K X.mg fun r => bnd (ma r) fun p => bnd (preL p) fun _ => bnd (ml r) fun as => g p as) := by
  have hs' := hs
  rw [List.all_cons, Bool.and_eq_true] at hs'
  refine PE.mono (pe_bm PySem.F.plainAttrs_list slot hty hm ha hl (base_nsup hn) (by
      have := of_decide_eq_true hlt
      rw [nst_all hs]
      show (true && true && decide ((a :: es).length + 0 + 0 < 30)) = true
      simp only [Bool.true_and, decide_eq_true_eq]
      omega) hline (each_nst hs'.1) (nst_none hs'.2)) fun st H Q ⟨io, r, m, s, h⟩ => tM.bind s h fun io1 H1 m1 p x e1 s1 r1 h1 => ?_
  have h1 := Post.of_bnd h1
  unfold preL at h1
  split at h1 <;> first | exact h1.elim | skip
  rename_i j _
  split at h1 <;> first | exact h1.elim | skip
  rename_i zs e
  have r1' := r1
  obtain ⟨hj, rfl⟩ := r1'
  obtain ⟨vs, h3, _⟩ := s1.s.ob j _ e
  refine ⟨.inl ⟨rfl, vs, SqL.of h3⟩, ?_⟩
  exact tL.bind s1 (show Post (bnd (ml r) (fun as => g (.ref j) as) m1) _ from h1) fun io2 H2 m2 q y e2 s2 r2 h2 => ⟨io2, m2, .ref j, q, s2.s, r1.keep s1.s e2, r2, WVpost.from (e1.trans e2) h2⟩
end
end LC

/-! # OwA: == and != of instances with an own __eq__ -/
namespace LC
open PySem PySem.Spec PyProof.Rows L2 Sem Builtin PySem.SeqAt
open AutoSeq1 (wpAny_loadPart')
open MeetsSeq MeetsSeq2 MeetsSeq3 SeqRoads2
theorem on_slot : Slot "object" "__ne__" "object.__ne__" :=
  Slot.of (owner := "object") (n := "__ne__") (by rw [typeLookup_type, builtinLookup_eq_fast]; kernel_rfl) (by decide +kernel) (by decide +kernel) (by decide +kernel) (.inl (by decide +kernel)) (by rw [isSubtype_type]; kernel_rfl)
section
variable {prog : Program} {w : World} {A : Around} {E : Value → Shared → Prop} {s : Shared} {K : PySem.W.Frag} {x C f : Addr} {ox : Obj} {od : Option Obj} {b : Value}
/-- != by object's own -/
theorem ne_bound {Q : Option Value → Shared → Prop} (hu : A.in1.units < cLine) (X : K.In s.heap) (I : PySem.W.InstAt s.heap x ox C od) (hn : PySem.W.findIn K (.ref C) "__ne__" = some (some (.builtin "object.__ne__")))
    (hm : PySem.W.mroIn K C (.type "object") = some true) (he : PySem.W.findIn K (.ref C) "__eq__" = some (some (.ref f))) (hf : PySem.W.isFn K (.ref f) = true)
    (h : wpAny (model prog w) A.in1 (call (.ref f) [.ref x, b]) (fun v s' => ∃ k, v = .bool k ∧ Q (some (.bool (!k))) s') E s) :
    wpAny (model prog w) A (callSpecialIfBound? (.ref x) "__ne__" [b]) Q E s := by
  have body : wpAny (model prog w) A (call (.builtin "object.__ne__") [.ref x, b]) (fun v s' => Q (some v) s') E s := by
    refine wpAny_call (codeAny_call_builtin on_slot.plain F.cmpEntry_ne (PySem.W.check_slot F.cmpKind_ne F.cmpSplit_ne (I.type.andThen (PySem.W.looks_mroIn X hm)) (F.cmpArgs_ne _ _) ?_))
    unfold Builtin.«object.__ne__»
    repeat (first
      | with_reducible refine wpAny_cRoomFor hu ?_
      | (refine wpAny_bind (m := callSpecialIfBound? (.ref x) (Str.ofString "__eq__") [b])
          (PySem.W.ifBound_K X I he hf (wpAny_mono h (fun r s' hr => by
            obtain ⟨k, rfl, hq⟩ := hr
            repeat (first | exact hq | exact wpAny_pure hq | exact wpAny_truthy_bool hq | (refine wpAny_bind (m := truthy (.bool _)) (wpAny_truthy_bool ?_)) | wp_step)) fun _ _ e => e)))
      | wp_step)
  simp only [callSpecialIfBound?, bindSpecialIfBound?]
  refine wpAny_holding (wpAny_bind (wpAny_bind (wpAny_bind (I.type.here ((PySem.W.looks_findIn X hn).here ?_)))))
  refine wpAny_bind (wpAny_askSetting (wpAny_ite ?_))
  have fin : wpAny (model prog w) A (call (.builtin "object.__ne__") ([.ref x] ++ [b]) >>= fun v => Pure.pure (some v)) Q E s := wpAny_bind (wpAny_mono body (fun v s' h' => wpAny_pure h') fun _ _ h' => h')
  split
  · exact wpAny_bind (wpAny_of_eq (on_slot.bind _) (wpAny_pure (by exact fin)))
  · exact wpAny_tryCatch (wpAny_bind (wpAny_of_eq (on_slot.bind _) (wpAny_pure (by exact fin))))

theorem cmp_ne_K {Q : Value → Shared → Prop} {tb : Value} (hu0 : A.units < cLine) (hu : A.in1.units < cLine) (X : K.In s.heap) (I : PySem.W.InstAt s.heap x ox C od)
    (hb : PySem.W.Looks (model prog w) s.heap (typeOf b) tb) (hnf : PySem.W.notFirst K C tb = true)
    (hn : PySem.W.findIn K (.ref C) "__ne__" = some (some (.builtin "object.__ne__"))) (hm : PySem.W.mroIn K C (.type "object") = some true) (he : PySem.W.findIn K (.ref C) "__eq__" = some (some (.ref f))) (hf : PySem.W.isFn K (.ref f) = true)
    (h : wpAny (model prog w) A.in1 (call (.ref f) [.ref x, b]) (fun v s' => ∃ k, v = .bool k ∧ Q (.bool (!k)) s') E s) : wpAny (model prog w) A (richCompare .NotEq (.ref x) b) Q E s := by
  have one : wpAny (model prog w) A (tryCompare (.ref x) "__ne__" b) (fun r s' => ∃ v, r = some v ∧ Q v s') E s := by
    unfold tryCompare
    refine wpAny_bind (ne_bound hu X I hn hm he hf (wpAny_mono h (fun v s' hv => ?_) fun _ _ e => e))
    obtain ⟨k, rfl, hq⟩ := hv
    exact ⟨k, rfl, wpAny_pure ⟨_, rfl, hq⟩⟩
  unfold richCompare
  simp only [oneThing_ref]
  refine wpAny_holding (wpAny_bind (wpAny_cRoomFor hu0 ?_))
  refine wpAny_bind (I.type.here (wpAny_bind (hb.here ?_)))
  split
  · rename_i q
    have e : PySem.W.subIn K tb (.ref C) = some false := by
      rcases Bool.or_eq_true_iff.mp hnf with e | e
      · rw [beq_iff_eq.mp e] at q; simp at q
      · exact beq_iff_eq.mp e
    refine wpAny_bind ((PySem.W.looks_subIn X e).here ?_)
    simp only [Bool.false_eq_true, if_false]
    refine wpAny_bind (wpAny_mono one (fun r s' z => ?_) fun _ _ e => e)
    obtain ⟨v, rfl, hq⟩ := z
    exact wpAny_pure hq
  · refine wpAny_bind (wpAny_pure ?_)
    simp only [Bool.false_eq_true, if_false]
    refine wpAny_bind (wpAny_mono one (fun r s' z => ?_) fun _ _ e => e)
    obtain ⟨v, rfl, hq⟩ := z
    exact wpAny_pure hq
/-- v == x, where v's own type declines -/
theorem cmp_refl_K {Q : Value → Shared → Prop} {T id : String} (hu0 : A.units < cLine) (X : K.In s.heap) (I : PySem.W.InstAt s.heap x ox C od)
    (ht : s.TypeIs b T) (ho : ∀ M : Model, True → oneThing? .Eq b (.ref x) = none) (hsub : PySem.W.mroIn K C (.type T) = some false) (sl : Slot T (cmpInfo .Eq).2.1 id)
    (dec : ∀ Q' : Value → Shared → Prop, Q' .notImplemented s → wpAny (model prog w) A (call (.builtin id) [b, .ref x]) Q' E s)
    (he : PySem.W.findIn K (.ref C) "__eq__" = some (some (.ref f))) (hf : PySem.W.isFn K (.ref f) = true)
    (h : wpAny (model prog w) A (call (.ref f) [.ref x, b]) (fun v s' => ∃ k, v = .bool k ∧ Q (.bool k) s') E s) : wpAny (model prog w) A (richCompare .Eq b (.ref x)) Q E s := by
  have one : wpAny (model prog w) A (tryCompare (.ref x) "__eq__" b) (fun r s' => ∃ v, r = some v ∧ Q v s') E s := by
    unfold tryCompare
    refine wpAny_bind (PySem.W.ifBound_K X I he hf (wpAny_mono h (fun v s' hv => ?_) fun _ _ e => e))
    obtain ⟨k, rfl, hq⟩ := hv
    exact wpAny_pure ⟨_, rfl, hq⟩
  unfold richCompare
  rw [ho (model prog w) trivial]
  refine wpAny_holding (wpAny_bind (wpAny_cRoomFor hu0 ?_))
  refine wpAny_bind (wpAny_typeOf ht (wpAny_bind (I.type.here ?_)))
  have ne : (Value.type T != Value.ref C) = true := by simp
  simp only [ne, if_true]
  refine wpAny_bind ((PySem.W.looks_mroIn X hsub).here ?_)
  simp only [Bool.false_eq_true, if_false, Bool.not_false, if_true]
  refine wpAny_bind (wpAny_tryCompare_declines ht sl (dec _ ⟨rfl, ?_⟩))
  refine wpAny_bind (wpAny_mono one (fun r s' z => ?_) fun _ _ e => e)
  obtain ⟨v, rfl, hq⟩ := z
  exact wpAny_pure hq
end
end LC

namespace LC
open PySem PySem.Spec PyProof.Rows L2 Sem Builtin PySem.SeqAt
open AutoSeq1 (wpAny_loadPart')
open MeetsSeq MeetsSeq2 MeetsSeq3 SeqRoads2
theorem int_dec (b : Int) (u : Tok) (x C dx : Addr) :
    Meets (Builtin.«int.__eq__» ⟨[.int b u, .ref x], []⟩) (fun _ R s => s.heap.get? x = some (PySem.W.instObj C dx) ∧ R (.ok (.ret .notImplemented)) s) :=
  .of_wp fun prog w A R s h => by obtain ⟨hp, g, d, tk, os⟩ := s; obtain ⟨hl, h⟩ := h; wp_walk using wpAny_loadPart' hl, wpAny_load hl; exact ⟨_, rfl, h⟩
theorem bool_dec (b : Bool) (x C dx : Addr) :
    Meets (Builtin.«int.__eq__» ⟨[.bool b, .ref x], []⟩) (fun _ R s => s.heap.get? x = some (PySem.W.instObj C dx) ∧ R (.ok (.ret .notImplemented)) s) :=
  .of_wp fun prog w A R s h => by obtain ⟨hp, g, d, tk, os⟩ := s; obtain ⟨hl, h⟩ := h; wp_walk using wpAny_loadPart' hl, wpAny_load hl; exact ⟨_, rfl, h⟩
theorem str_dec (b : Str) (u : Tok) (x C dx : Addr) :
    Meets (Builtin.«str.__eq__» ⟨[.str b u, .ref x], []⟩) (fun _ R s => s.heap.get? x = some (PySem.W.instObj C dx) ∧ R (.ok (.ret .notImplemented)) s) :=
  .of_wp fun prog w A R s h => by obtain ⟨hp, g, d, tk, os⟩ := s; obtain ⟨hl, h⟩ := h; wp_walk using wpAny_loadPart' hl, wpAny_load hl; exact ⟨_, rfl, h⟩
section
variable {prog : Program} {w : World} {A : Around} {E : Value → Shared → Prop} {s : Shared} {x l : Addr} {Q : Value → Shared → Prop}
theorem tup_dec (hT : s.TypeIs (.ref l) "tuple") (hi : ∀ (A : Around) (Q : Bool → Shared → Prop) (E : Value → Shared → Prop), Q false s → wpAny (model prog w) A (isInstance (.ref x) (.type "tuple")) Q E s) (hq : Q .notImplemented s) :
    wpAny (model prog w) A (PySem.call (.builtin "tuple.__eq__") [.ref l, .ref x]) Q E s := by
  refine wpAny_call (codeAny_call_builtin F.slot_tuple_eq.plain F.entry_tuple_eq (F.slot_tuple_eq.check _ _ _ _ _ _ _ _ hT (F.args_tuple_eq_2 _ _) ?_))
  obtain ⟨hp, g, d, tk, os⟩ := s
  wp_walk using hi
  exact hq
theorem lst_dec (hT : s.TypeIs (.ref l) "list") (hi : ∀ (A : Around) (Q : Bool → Shared → Prop) (E : Value → Shared → Prop), Q false s → wpAny (model prog w) A (isInstance (.ref x) (.type "list")) Q E s) (hq : Q .notImplemented s) :
    wpAny (model prog w) A (PySem.call (.builtin "list.__eq__") [.ref l, .ref x]) Q E s := by
  refine wpAny_call (codeAny_call_builtin F.slot_list_eq.plain F.entry_list_eq (F.slot_list_eq.check _ _ _ _ _ _ _ _ hT (F.args_list_eq_2 _ _) ?_))
  obtain ⟨hp, g, d, tk, os⟩ := s
  wp_walk using hi
  exact hq
end
end LC

/-! # OwC: own ==, own !=, bool of an instance, as rules of the small language -/
namespace LC
open PySem PySem.Spec PyProof.Rows L2
theorem eqOf_some {P : Phi} {m : Sto} {d : D} {C : Str} {k : Nat} (h : eqOf P m d = some (C, k)) : ∃ j fs c, d = .ref j ∧ m[j]? = some (.ins C fs) ∧ P.cl C = some c ∧ c.meths.lookup ("__eq__" : Str) = some k := by
  unfold eqOf at h
  split at h <;> first | cases h | skip
  rename_i j
  split at h <;> first | cases h | skip
  rename_i C' fs e
  split at h <;> first | cases h | skip
  rename_i c ec
  obtain ⟨k', e', e2⟩ := Option.map_eq_some_iff.mp h
  cases e2
  exact ⟨j, fs, c, rfl, e, ec, e'⟩
theorem insOf_some {m : Sto} {d : D} {C : Str} (h : insOf m d = some C) : ∃ j fs, d = .ref j ∧ m[j]? = some (.ins C fs) := by
  unfold insOf at h
  split at h <;> first | cases h | skip
  rename_i j
  split at h <;> first | cases h | skip
  rename_i C' fs e
  exact ⟨j, fs, rfl, e⟩
theorem subB {K : PySem.W.Frag} {Ca : Addr} {a : String} (h : a ∈ ["NoneType", "bool", "int", "str", "tuple", "list"]) : PySem.W.subIn K (.type a) (.ref Ca) = some false := by
  have mro6 : (["NoneType", "bool", "int", "str", "tuple", "list"].all fun a => (PySem.fastBuiltinMro a).isSome && ((PySem.fastBuiltinMro a).getD []).all fun v => match v with | .type _ => true | _ => false) = true := by decide +kernel
  have z := List.all_eq_true.mp mro6 a h
  rw [Bool.and_eq_true] at z
  obtain ⟨l, e⟩ := Option.isSome_iff_exists.mp z.1
  show (PySem.fastBuiltinMro a).map (fun l => l.contains (.ref Ca)) = some false
  have z2 := z.2
  rw [e] at z2 ⊢
  show some (l.contains (.ref Ca)) = some false
  congr 1
  cases q : l.contains (Value.ref Ca) with
  | false => rfl
  | true =>
    have m : Value.ref Ca ∈ l := by simpa using q
    have := List.all_eq_true.mp z2 _ m
    cases this
theorem notB_post {ne : Bool} {d : D} {m : Sto} {F : D → Sto → Prop} (h : Post (notB ne d m) F) : ∃ b, d = .bl b ∧ F (.bl (b != ne)) m := by
  cases d with
  | bl b => exact ⟨b, rfl, h⟩
  | _ => exact h.elim
section
variable {X : Cx} {P : Phi} {T : Nat → DefAt} {ca : Str → Addr} {kws : List (Nat × List Str × List Nat)} {n L : Nat} {a b : Expr} {ma mb : Env → M D} {pos np : Pos}
/-- its own __eq__ called, at the line or one deeper -/
theorem run_eq (W : Wd X P T ca kws n L) {k : Nat} {u1 u2 : Value} {v1 v2 : V} {p1 p2 : D} {io : Pl} {m : Sto} {H : Hp} {s : Shared} {pins : List (Addr × Obj)} {st : L2.St} {ne : Bool} {Q : VK} (I : L2.Inv X pins st H s) (S : SRel X.K X.mg io m H)
    (ru1 : RelV v1 u1) (ru2 : RelV v2 u2) (rv1 : RepV X.K X.mg io m.length H p1 v1) (rv2 : RepV X.K X.mg io m.length H p2 v2) (h : Post (bnd (P.call k [p1, p2]) (notB ne) m) (WV X.K X.mg io m H Q)) :
    wpAny (model X.prog X.w) X.A (PySem.call (.ref (T k).ad) [u1, u2]) (fun v s' => ∃ b, v = .bool b ∧ EP X pins st Q (.bool (b != ne)) s') X.xe s ∧
    wpAny (model X.prog X.w) X.A.in1 (PySem.call (.ref (T k).ad) [u1, u2]) (fun v s' => ∃ b, v = .bool b ∧ EP X pins st Q (.bool (b != ne)) s') X.xe s := by
  have hr : rCB X.K X.mg (P.call k) [v1, v2] H (fun v H' => ∃ z, v = .bl z ∧ Q (.bl (z != ne)) H') := ⟨io, m, [p1, p2], S, ⟨_, _, rfl, rv1, _, _, rfl, rv2, rfl⟩, (Post.of_bnd h).mono fun d' m' h' io' H' v' e' S' r' => by
    obtain ⟨z, rfl, hz⟩ := notB_post h'
    exact ⟨z, r', hz io' H' (.bl (z != ne)) e' S' rfl⟩⟩
  have hk := rCB.lt W hr
  have bd := W.bd k hk s [u1, u2] I.kIn ((W.fn k hk).len _ _ _ E0 hr)
  rw [List.append_nil] at bd
  refine ⟨wpAny_mono (W.call0 (us := [u1, u2]) (vs := [v1, v2]) hk I (.cons ru1 (.cons ru2 .nil)) hr) (fun w s' z => ?_) fun _ _ x => x, wpAny_call (codeAny_mono ((W.fn k hk).go X.A.in1 X.stack s H ⟨[u1, u2], []⟩ [u1, u2] [v1, v2] _ W.gd W.rm.in1 I.env0.in1 bd (.cons ru1 (.cons ru2 .nil)) hr) fun res s' zz => ?_)⟩
  · obtain ⟨v, H', I3, rv, z, rfl, q3⟩ := z
    exact ⟨z, rv, .bl (z != ne), H', I3, rfl, q3⟩
  · obtain ⟨u', rfl, v, H', I3, rv, z, rfl, q3⟩ := CR.ends I zz
    exact ⟨z, rv, .bl (z != ne), H', I3, rfl, q3⟩
theorem tyOf_ref {m : Sto} {j : Nat} {C : Str} {fs : List (Str × D)} (e : m[j]? = some (.ins C fs)) : tyOf m (.ref j) = none := by
  unfold tyOf top
  simp only [topR]
  rw [e]
theorem op_own (W : Wd X P T ca kws n L) {ne : Bool} : OpR X (compareOp (if ne then .NotEq else .Eq)) (rOp X.K X.mg (opOwn P ne)) := by
  refine rOp.of fun pins s st H x y v u Q io m p q I rx ry S hp hq h => ?_
  unfold opOwn at h
  split at h
  · rename_i C k eo
    obtain ⟨j, fs, c, rfl, ej, ec, ek⟩ := eqOf_some eo
    split at h <;> first | exact h.elim | skip
    rename_i hy
    obtain ⟨Ca, dx, fvs, rfl, h0, ea, rf⟩ := ins_at S hp ej
    have A := W.top.one C c ec
    cases A.same h0
    cases (show v = Value.ref _ from rx)
    obtain ⟨mA, O, _⟩ := ins_get I.hok ea
    obtain ⟨od, J, _⟩ := O.look
    have hp' := hp
    have run := run_eq W I S rx ry hp hq h
    have un := W.rm.units
    have tb : ∃ tb, PySem.W.Looks (model X.prog X.w) s.heap (typeOf u) tb ∧ PySem.W.notFirst X.K (ca C) tb = true := by
      cases et : tyOf m q with
      | some t =>
        obtain ⟨h1, h2⟩ := ty_rep S hq et
        obtain ⟨Pd, kx, hP, _⟩ := kit_of I ry h1
        exact ⟨_, kx.ty _ _ I.kIn hP, by unfold PySem.W.notFirst; rw [subB h2]; simp⟩
      | none =>
        rw [et] at hy
        have hy : insOf m q = some C := by simpa using hy
        obtain ⟨j2, fs2, rfl, ej2⟩ := insOf_some hy
        obtain ⟨Ca2, dx2, fvs2, rfl, h02, ea2, rf2⟩ := ins_at S hq ej2
        cases A.same h02
        cases (show u = Value.ref _ from ry)
        obtain ⟨mA2, O2, _⟩ := ins_get I.hok ea2
        obtain ⟨od2, J2, _⟩ := O2.look
        exact ⟨_, J2.type, by simp [PySem.W.notFirst]⟩
    obtain ⟨tb, hb, hnf⟩ := tb
    obtain ⟨mf, F⟩ := I.fr
    cases ne with
    | false =>
      refine PySem.W.cmp_K (op := .Eq) (tb := tb) (by omega) F I.ok.mod.kin J hb hnf (A.met _ k ek).at_ (A.met _ k ek).fn (wpAny_mono run.1 (fun w s' z => ?_) fun _ _ x => x)
      obtain ⟨z, rfl, hz⟩ := z
      exact (show EP X pins st Q (.bool z) s' from by simpa using hz)
    | true =>
      refine cmp_ne_K (tb := tb) (by omega) (by show X.A.units + 1 < cLine; omega) I.kIn J hb hnf A.kn A.ko (A.met _ k ek).at_ (A.met _ k ek).fn (wpAny_mono run.2 (fun w s' z => ?_) fun _ _ x => x)
      obtain ⟨z, rfl, hz⟩ := z
      exact ⟨z, rfl, by simpa using hz⟩
  · rename_i eo
    split at h
    · rename_i C k eo2
      obtain ⟨j, fs, c, rfl, ej, ec, ek⟩ := eqOf_some eo2
      split at h <;> first | exact h.elim | skip
      rename_i hy
      simp only [Bool.and_eq_true, Bool.not_eq_true'] at hy
      obtain ⟨rfl, hy⟩ := hy
      obtain ⟨t, et⟩ := Option.isSome_iff_exists.mp hy
      obtain ⟨Ca, dx, fvs, rfl, h0, ea, rf⟩ := ins_at S hq ej
      have A := W.top.one C c ec
      cases A.same h0
      cases (show u = Value.ref _ from ry)
      obtain ⟨mA, O, _⟩ := ins_get I.hok ea
      obtain ⟨od, J, _⟩ := O.look
      have run := (run_eq W I S ry rx hq hp h).1
      have un := W.rm.units
      have run : wpAny (model X.prog X.w) X.A (PySem.call (.ref (T k).ad) [.ref (io j), v]) (fun w s' => ∃ z, w = .bool z ∧ EP X pins st Q (.bool z) s') X.xe s := wpAny_mono run (fun w s' z => by
        obtain ⟨z, rfl, hz⟩ := z
        exact ⟨z, rfl, by simpa using hz⟩) fun _ _ x => x
      obtain ⟨h1, h2⟩ := ty_rep S hp et
      have ix : ∀ T2 ∈ ["NoneType", "bool", "int", "str", "tuple", "list"], ∀ (A' : Around) (Q : Bool → Shared → Prop) (E : Value → Shared → Prop), Q false s → wpAny (model X.prog X.w) A' (isInstance (.ref (io j)) (.type T2)) Q E s := fun T2 hT A' Q E q => (show PySem.W.Looks (model X.prog X.w) s.heap (isInstance (.ref (io j)) (.type T2)) false from J.type.andThen (PySem.W.looks_mroIn I.kIn (A.nt T2 hT))).here q
      have go : ∀ {T2 id : String}, T2 ∈ ["NoneType", "bool", "int", "str", "tuple", "list"] → s.TypeIs v T2 → (oneThing? .Eq v (.ref (io j)) = none) → Slot T2 (cmpInfo .Eq).2.1 id → (∀ Q' : Value → Shared → Prop, Q' .notImplemented s → wpAny (model X.prog X.w) X.A (PySem.call (.builtin id) [v, .ref (io j)]) Q' X.xe s) →
          wpAny (model X.prog X.w) X.A (compareOp .Eq v (.ref (io j))) (EP X pins st Q) X.xe s := fun hT ht ho sl dec =>
        cmp_refl_K (by omega) I.kIn J ht (fun _ _ => ho) (A.nt _ hT) sl dec (A.met _ k ek).at_ (A.met _ k ek).fn run
      have tup : ∀ l, v = .ref l → s.TypeIs (.ref l) "tuple" → wpAny (model X.prog X.w) X.A (compareOp .Eq v (.ref (io j))) (EP X pins st Q) X.xe s := fun l e hT => by
        subst e
        exact go (by simp) hT (oneThing_ref ..) F.slot_tuple_eq fun Q' hq' => tup_dec hT (ix "tuple" (by simp)) hq'
      have lst : ∀ l, v = .ref l → s.TypeIs (.ref l) "list" → wpAny (model X.prog X.w) X.A (compareOp .Eq v (.ref (io j))) (EP X pins st Q) X.xe s := fun l e hT => by
        subst e
        exact go (by simp) hT (oneThing_ref ..) F.slot_list_eq fun Q' hq' => lst_dec hT (ix "list" (by simp)) hq'
      cases h1 with
      | base b =>
        cases b with
        | non =>
          cases (show v = Value.none from rx)
          exact go (by simp) rfl rfl F.slot_NoneType_eq fun Q' hq' => call_gives F.slot_NoneType_eq rfl F.entry_NoneType_eq (F.args_NoneType_eq_2 _ _) (PySem.SeqAt.NoneType___eq___none_ref_0 _) hq'
        | bl y =>
          cases (show v = Value.bool y from rx)
          exact go (by simp) rfl rfl F.slot_bool_eq fun Q' hq' => call_meets F.slot_bool_eq rfl F.entry_int_eq (F.args_int_eq_2 _ _) (bool_dec y _ _ _) ⟨J.at_, hq'⟩
        | int i =>
          obtain ⟨t, q⟩ := (show ∃ t, v = Value.int i t from rx)
          cases q
          exact go (by simp) (typeIs_int s i t) rfl F.slot_int_eq fun Q' hq' => call_meets F.slot_int_eq (typeIs_int s i t) F.entry_int_eq (F.args_int_eq_2 _ _) (int_dec i t _ _ _) ⟨J.at_, hq'⟩
        | str y =>
          obtain ⟨t, q⟩ := (show ∃ t, v = Value.str y t from rx)
          cases q
          exact go (by simp) (typeIs_str s y t) rfl F.slot_str_eq fun Q' hq' => call_meets F.slot_str_eq (typeIs_str s y t) F.entry_str_eq (F.args_str_eq_2 _ _) (str_dec y t _ _ _) ⟨J.at_, hq'⟩
        | flt y => simp at h2
        | @lst a xs ea =>
          obtain ⟨_, _, n, _, h1⟩ := (show ObjOk X.prog X.w H s.heap a (.lst xs) from I.hok a _ ea)
          exact lst a rx ⟨_, h1, rfl⟩
        | @frz a ob xs ea =>
          obtain ⟨_, _, _, n, _, h1⟩ := (show ObjOk X.prog X.w H s.heap a (.frz ob (.lst xs)) from I.hok a _ ea)
          exact lst a rx ⟨_, h1, rfl⟩
        | @tup a xs ea =>
          obtain ⟨_, _, _, o, h1, h2, _⟩ := (show ObjOk X.prog X.w H s.heap a (.tup xs) from I.hok a _ ea)
          exact tup a rx ⟨o, h1, h2⟩
        | dK _ => simp at h2
        | dT _ => simp at h2
      | byt y => simp at h2
      | set _ => simp at h2
      | @kList a o e c => exact lst a rx ⟨o, I.kIn a o e, c⟩
      | @kTuple a o e c => exact tup a rx ⟨o, I.kIn a o e, c⟩
      | kDict _ _ => simp at h2
      | @fTuple a ob xs ea =>
        obtain ⟨_, _, _, _, o, h1, h2, _⟩ := (show ObjOk X.prog X.w H s.heap a (.frz ob (.tup xs)) from I.hok a _ ea)
        exact tup a rx ⟨o, h1, h2⟩
      | fDict _ => simp at h2
    · cases ne with
      | false => exact op_cmp W.rm.units pins s st H x y v u Q I rx ry ⟨io, m, p, q, S, hp, hq, h⟩
      | true => exact op_cmp W.rm.units pins s st H x y v u Q I rx ry ⟨io, m, p, q, S, hp, hq, h⟩

theorem meets_bool_ins {K : PySem.W.Frag} {x C : Addr} {ox : Obj} {od : Option Obj} (hs : PySem.W.findIn K (.ref C) "__bool__" = some none) (hl : PySem.W.findIn K (.ref C) "__len__" = some none) :
    Meets (Builtin.«bool.__new__» ⟨[.type "bool", .ref x], []⟩) (fun _ R s => (K.In s.heap ∧ PySem.W.InstAt s.heap x ox C od) ∧ R (.ok (.ret (.bool true))) s) :=
  Meets.of_wp fun prog w A R s hs' => by
    obtain ⟨⟨hK, J⟩, hs'⟩ := hs'
    obtain ⟨hp, g, d, tk, os⟩ := s
    have f1 := F.conv_sub_bool
    have tr : ∀ {M : Model} {A : Around} {E : Value → Shared → Prop} {Q : Bool → Shared → Prop}, Q true ⟨hp, g, d, tk, os⟩ → wpAny M A (truthy (.ref x)) Q E ⟨hp, g, d, tk, os⟩ := fun {M A E Q} h => by
      unfold truthy
      refine wpAny_bind (m := callSpecial? (.ref x) (Str.ofString "__bool__")) (wpAny_bind (wpAny_bind (J.type.here ((PySem.W.looks_findIn hK hs).here (wpAny_pure ?_)))))
      refine wpAny_bind (wpAny_bind (J.type.here ((PySem.W.looks_findIn hK hl).here ?_)))
      exact wpAny_pure h
    repeat (any_goals (first | assumption | (with_reducible refine tr ?_) | wp_step))
    all_goals first | exact ⟨_, rfl, hs'⟩ | exact hs' | skip
theorem ct_bo (W : Wd X P T ca kws n L) : CallR X (.type "bool") (rCB X.K X.mg (tBo P)) := by
  intro pins s st H xs us Q I r ⟨io, m, ps, S, hp, h⟩
  unfold tBo at h
  split at h <;> first | exact h.elim | skip
  rename_i d
  obtain ⟨v, rfl, hv⟩ := rep1 hp
  obtain ⟨u, rfl, ru⟩ := vals1 r
  unfold opBo at h
  split at h <;> first | exact h.elim | skip
  rename_i j
  split at h <;> first | exact h.elim | skip
  rename_i C fs e
  split at h <;> first | exact h.elim | skip
  rename_i c ec
  split at h <;> first | exact h.elim | skip
  rename_i hf
  rw [Bool.and_eq_true] at hf
  obtain ⟨Ca, dx, fvs, rfl, h0, ea, rf⟩ := ins_at S hv e
  have A := W.top.one C c ec
  cases A.same h0
  cases (show u = Value.ref _ from ru)
  obtain ⟨mA, O, _⟩ := ins_get I.hok ea
  obtain ⟨od, J, _⟩ := O.look
  exact call_bool_1 (meets_bool_ins (A.fld _ hf.1) (A.fld _ hf.2)) ⟨⟨I.kIn, J⟩, (show wants (fun obj s₁ => s₁.TypeIs obj "bool" ∧ EP X pins st Q obj s₁) X.xe (.ok (.ret (.bool true))) s from ⟨rfl, .bl true, H, I, rfl, WV.here h S rfl⟩)⟩
theorem se_bo {es : List Expr} {ml : Env → M (List D)} (W : Wd X P T ca kws n L) (hg : Gl X "bool") (hm : X.mg "bool" = none) (hs : (a :: es).all nst = true) (hl : PA X (a :: es) (tL X.K X.mg ml)) :
    PE X (.Call (.Name "bool" np) (a :: es) [] pos) (tM X.K X.mg fun r => bnd (ml r) (tBo P)) := by
  have hs' := hs
  rw [List.all_cons, Bool.and_eq_true] at hs'
  exact PE.mono (pe_callTy (ct_bo W) hg hm (by decide +kernel) hl (by decide) (by decide) (each_nst hs'.1) (nst_none hs'.2)) fun st H Q ⟨io, r, m, s, h⟩ => many s h
theorem ct_so (W : Wd X P T ca kws n L) : CallR X (.type "str") (rCB X.K X.mg (tSo P)) := by
  intro pins s st H xs us Q I r ⟨io, m, ps, S, hp, h⟩
  unfold tSo at h
  split at h <;> first | exact h.elim | skip
  rename_i d
  obtain ⟨v, rfl, hv⟩ := rep1 hp
  obtain ⟨u, rfl, ru⟩ := vals1 r
  unfold opSo at h
  split at h <;> first | exact h.elim | skip
  rename_i j
  split at h <;> first | exact h.elim | skip
  rename_i C fs e
  split at h <;> first | exact h.elim | skip
  rename_i c ec
  split at h <;> first | exact h.elim | skip
  rename_i k ek
  obtain ⟨Ca, dx, fvs, rfl, h0, ea, rf⟩ := ins_at S hv e
  have A := W.top.one C c ec
  cases A.same h0
  cases (show u = Value.ref _ from ru)
  obtain ⟨mA, O, _⟩ := ins_get I.hok ea
  obtain ⟨od, J, _⟩ := O.look
  have hr : rCB X.K X.mg (P.call k) [.ref (io j)] H (fun v H' => ∃ z, v = .str z ∧ Q (.str z) H') := ⟨io, m, [.ref j], S, ⟨_, _, rfl, hv, rfl⟩, (Post.of_bnd h).mono fun d' m' h' io' H' v' e' S' r' => by
    unfold strB at h'
    split at h'
    · rename_i z
      exact ⟨z, r', (show WV X.K X.mg io m H Q (.str z) m' from h') io' H' (.str z) e' S' rfl⟩
    · exact h'.elim⟩
  have hk := rCB.lt W hr
  have un := W.rm2.units
  have b := W.bd k hk s [.ref (io j)] I.kIn ((W.fn k hk).len _ _ _ E0 hr)
  rw [List.append_nil] at b
  refine PySem.W.kso_call (by show X.A.units + 2 < cLine; omega) I.kIn J (A.met _ k ek).at_ (A.met _ k ek).fn (wpAny_call (codeAny_mono ((W.fn k hk).go X.A.in1.in1 X.stack s H ⟨[.ref (io j)], []⟩ [.ref (io j)] [.ref (io j)] _ W.gd W.rm2.in1.in1 I.env0.in1.in1 b (.cons rfl .nil) hr) fun res s' zz => ?_))
  obtain ⟨u', rfl, v, H', I3, rv, z, rfl, q3⟩ := CR.ends I zz
  obtain ⟨t, rfl⟩ := rv
  exact ⟨.str z, H', I3, ⟨t, rfl⟩, q3⟩
theorem se_so {es : List Expr} {ml : Env → M (List D)} (W : Wd X P T ca kws n L) (hg : Gl X "str") (hm : X.mg "str" = none) (hs : (a :: es).all nst = true) (hl : PA X (a :: es) (tL X.K X.mg ml)) :
    PE X (.Call (.Name "str" np) (a :: es) [] pos) (tM X.K X.mg fun r => bnd (ml r) (tSo P)) := by
  have hs' := hs
  rw [List.all_cons, Bool.and_eq_true] at hs'
  exact PE.mono (pe_callTy (ct_so W) hg hm (by decide +kernel) hl (by decide) (by decide) (each_nst hs'.1) (nst_none hs'.2)) fun st H Q ⟨io, r, m, s, h⟩ => many s h
theorem se_eo (W : Wd X P T ca kws n L) {ne : Bool} (hm : behindInMarks (if ne then CmpOp.NotEq else CmpOp.Eq) b = false) (ha : PE X a (tM X.K X.mg ma)) (hb : PE X b (tM X.K X.mg mb)) : PE X (.Compare a [if ne then CmpOp.NotEq else CmpOp.Eq] [b] pos) (tM X.K X.mg fun r => bnd (ma r) fun p => bnd (mb r) fun q => opOwn P ne p q) :=
  PE.mono (pe_cmpR (op_own W) ha hb hm) fun st H Q ⟨io, r, m, s, h⟩ => two s h
theorem st_te (W : Wd X P T ca kws n L) {ne : Bool} (hm : behindInMarks (if ne then CmpOp.NotEq else CmpOp.Eq) b = false) (ha : PE X a (tM X.K X.mg ma)) (hb : PE X b (tM X.K X.mg mb)) : PT X (.Compare a [if ne then CmpOp.NotEq else CmpOp.Eq] [b] pos) (tT X.K X.mg fun r => bnd (ma r) fun p => bnd (mb r) fun q => bnd (opOwn P ne p q) asB) :=
  PT.mono (pt_cmpR (op_own W) ha hb hm) fun st H Q ⟨io, r, m, s, h⟩ =>
    tM.bind s h fun io1 H1 m1 p x e1 s1 r1 h1 => tM.bind s1 h1 fun io2 H2 m2 q y e2 s2 r2 h2 => rOp.mk s2.s (r1.keep s1.s e2) r2 <| (Post.of_bnd h2).mono fun d m3 h3 io3 H3 v e3 S3 r3 => by
      obtain ⟨k, rfl, h4⟩ := asB_post h3
      exact ⟨k, repBl r3, h4 io3 H3 ((e1.trans e2).trans e3) S3⟩
end
end LC

/-! # OwD: texts cut, classmethods, a class in a variable -/
namespace LC
open PySem PySem.Spec PyProof.Rows L2
theorem strs_of {K : PySem.W.Frag} {mg : Str → Option Value} {io : Pl} {N : Nat} {H : Hp} : ∀ xs : List Str, RepVs K mg io N H (xs.map D.str) (xs.map V.str)
  | [] => rfl
  | x :: xs => ⟨.str x, xs.map V.str, rfl, rfl, strs_of xs⟩
section
variable {X : Cx} {P : Phi} {T : Nat → DefAt} {ca : Str → Addr} {kws : List (Nat × List Str × List Nat)} {n L : Nat} {a b : Expr} {es : List Expr} {ma mb : Env → M D} {ml mk : Env → M (List D)} {pos apos np : Pos} {C f : Str}
theorem se_sp (ha : PE X a (tM X.K X.mg ma)) (hb : PE X b (tM X.K X.mg mb)) (hn : nsup a = true) (hs : nst b = true) (hl : (apos.endLine == pos.line) = true) :
    PE X (.Call (.Attribute a "split" apos) [b] [] pos) (tM X.K X.mg fun r => bnd (ma r) fun p => bnd (mb r) fun q => opSplit p q) :=
  PE.mono (pe_split ha hb (by cases b <;> first | rfl | cases hs) (base_nsup hn) hl) fun st H Q ⟨io, r, m, s, h⟩ => tM.bind s h fun io1 H1 m1 p x e1 s1 r1 h1 => by
    cases p with
    | str z =>
      cases (show x = .str z from r1)
      refine ⟨⟨z, rfl⟩, tM.bind s1 h1 fun io2 H2 m2 q y e2 s2 r2 h2 => ?_⟩
      cases q with
      | str w =>
        cases (show y = .str w from r2)
        unfold opSplit at h2
        dsimp only at h2
        split at h2 <;> first | exact h2.elim | skip
        rename_i hz
        have hz := of_decide_eq_true hz
        refine ⟨z, w, rfl, rfl, by simpa using hz.1, by rw [sizeLine_eq]; have := hz.2; unfold LIM at this; omega, fun p hp => ?_⟩
        exact WV.frozen (WV.from (e1.trans e2) (show WV X.K X.mg io m H Q (.lst ((Txt.split z w).map .str)) m2 from h2)) s2.s hp (repLst s2.s hp (strs_of _))
      | _ => exact h2.elim
    | _ =>
      exfalso
      have h2 := Post.of_bnd h1
      cases e : mb r m1 with
      | ok q m2 => rw [e] at h2; exact (show False from h2).elim
      | exc C fs m2 => rw [e] at h2; exact (show False from h2).elim
      | bad => rw [e] at h2; exact (show False from h2).elim
theorem se_pt (ha : PE X a (tM X.K X.mg ma)) (hb : PE X b (tM X.K X.mg mb)) (hn : nsup a = true) (hs : nst b = true) (hl : (apos.endLine == pos.line) = true) :
    PE X (.Call (.Attribute a "partition" apos) [b] [] pos) (tM X.K X.mg fun r => bnd (ma r) fun p => bnd (mb r) fun q => opPart p q) :=
  PE.mono (pe_partition ha hb (by cases b <;> first | rfl | cases hs) (base_nsup hn) hl) fun st H Q ⟨io, r, m, s, h⟩ => tM.bind s h fun io1 H1 m1 p x e1 s1 r1 h1 => by
    cases p with
    | str z =>
      cases (show x = .str z from r1)
      refine ⟨⟨z, rfl⟩, tM.bind s1 h1 fun io2 H2 m2 q y e2 s2 r2 h2 => ?_⟩
      cases q with
      | str w =>
        cases (show y = .str w from r2)
        unfold opPart at h2
        dsimp only at h2
        split at h2 <;> first | exact h2.elim | skip
        rename_i hz
        have hz := of_decide_eq_true hz
        refine ⟨z, w, rfl, rfl, by simpa using hz.1, by rw [sizeLine_eq]; have := hz.2; unfold LIM at this; omega, fun p hp => ?_⟩
        exact WV.frozen (WV.from (e1.trans e2) (show WV X.K X.mg io m H Q (.tup [.str (Txt.partition z w).1, .str (Txt.partition z w).2.1, .str (Txt.partition z w).2.2]) m2 from h2)) s2.s hp (repTup s2.s hp (strs_of [(Txt.partition z w).1, (Txt.partition z w).2.1, (Txt.partition z w).2.2]))
      | _ => exact h2.elim
    | _ =>
      exfalso
      have h2 := Post.of_bnd h1
      cases e : mb r m1 with
      | ok q m2 => rw [e] at h2; exact (show False from h2).elim
      | exc C fs m2 => rw [e] at h2; exact (show False from h2).elim
      | bad => rw [e] at h2; exact (show False from h2).elim
theorem opCm_eq {c : LC.Cls} {k : Nat} (ec : P.cl C = some c) (ek : c.cms.lookup f = some k) {as : List D} : opCm P C f as = P.call k (.glb C :: as) := by
  funext m
  unfold opCm
  rw [ec]
  simp only [ek]
theorem opCmK_eq {c : LC.Cls} {k : Nat} (ec : P.cl C = some c) (ek : c.cms.lookup f = some k) {g : List D → List D → M (List D)} {bs : List D} : opCmK P C f g bs = bnd (g [.glb C] bs) (P.call k) := by
  funext m
  unfold opCmK
  rw [ec]
  simp only [ek]
theorem se_cm {e : Expr} (W : Wd X P T ca kws n L) {c : LC.Cls} {k : Nat} (hg : Gl X C) (hd : (C == ("__debug__" : Str)) = false) (ec : P.cl C = some c) (ek : c.cms.lookup f = some k) (hline : (apos.endLine == pos.line) = true) (hs : (e :: es).all nst = true) (hlt : decide ((e :: es).length < 29) = true)
    (hl : PA X (e :: es) (tL X.K X.mg ml)) : PE X (.Call (.Attribute (.Name C np) f apos) (e :: es) [] pos) (tM X.K X.mg fun r => bnd (ml r) (opCm P C f)) := by
  have A := W.top.one C c ec
  obtain ⟨p, mc, cr, cm⟩ := A.cme f k ek
  have hs' := hs
  rw [List.all_cons, Bool.and_eq_true] at hs'
  refine ⟨fun pins s st H Q I ⟨io, r, m, s0, h⟩ => ?_⟩
  refine PySem.W.methodCall_KW (ld_glob I hg A.mg ?_ hd) (meth_form rfl (by
    have := of_decide_eq_true hlt
    simp only [hs, List.all_nil, Bool.and_true, List.length_nil, List.isEmpty_nil, if_true, Nat.add_zero, Bool.true_and, decide_eq_true_eq]
    omega) hline)
  refine ClX.getmethcm_ok I cr cm fun s2 I2 => ?_
  refine ClX.callwith_cm I2 (ClX.base_none I (Nat.le_refl _)) cm.fi (thn (hl.run pos _ s2 st H (fun vs H2 => rCB X.K X.mg (P.call k) (.ref (ca C) :: vs) H2 Q) I2
    (tL.bind s0 h fun io1 H1 m1 q y e1 s1 r1 h1 => ⟨io1, m1, .glb C :: q, s1.s, ⟨_, _, rfl, ⟨ca C, A.mg, rfl⟩, r1⟩, WVpost.from e1 (by rw [opCm_eq ec ek] at h1; exact h1)⟩)) fun us s3 ⟨vs, H2, I3, rv, hr⟩ => ⟨⟨ClX.pin_at I3, I3.kIn⟩, ?_⟩) (each_nst hs'.1) (nst_none hs'.2)
  have hk := rCB.lt W hr
  have r2 : Vals (V.ref (ca C) :: vs) (Value.ref (ca C) :: us) := .cons rfl rv
  have len : ((Value.ref (ca C) :: us) ++ []).length = (T k).ps.length := by rw [List.append_nil, ← r2.length]; exact (W.fn k hk).len _ _ _ E0 hr
  have b := W.bd k hk s3 (.ref (ca C) :: us) I3.kIn len
  rw [List.append_nil] at b
  have z : wpAny (model X.prog X.w) X.A (PySem.call (.ref s.heap.objs.size) us) (EP X ((s.heap.objs.size, PySem.W.methodObj (.ref (T k).ad) (.ref (ca C))) :: pins) st Q) X.xe s3 := by
    refine wpAny_call (PySem.W.method_call (ClX.pin_at I3) (codeAny_mono ((W.fn k hk).go X.A X.stack s3 H2 ⟨.ref (ca C) :: us, []⟩ (.ref (ca C) :: us) (.ref (ca C) :: vs) Q W.gd (W.rm.mono (Nat.le_succ _)) I3.env0 b r2 hr) fun res s' z => ?_))
    obtain ⟨u, rfl, q⟩ := CR.ends I3 z
    exact q
  exact thn z fun _ _ y => ClX.unpinE y
theorem se_cmk {ks : List Str} {pm : List Nat} {kw : List Keyword} (W : Wd X P T ca kws n L) {c : LC.Cls} {k : Nat} (hg : Gl X C) (hd : (C == ("__debug__" : Str)) = false) (ec : P.cl C = some c) (ek : c.cms.lookup f = some k) (hline : (apos.endLine == pos.line) = true)
    (hks : kw.all (fun k => k.arg.isSome) = true) (hnm : kw.filterMap (·.arg) = ks) (hlt : decide (kw.length < 28) = true) (hkw : (k, ks, pm) ∈ kws) (hk : PK X kw (tL X.K X.mg mk)) :
    PE X (.Call (.Attribute (.Name C np) f apos) [] kw pos) (tM X.K X.mg fun r => bnd (mk r) (opCmK P C f (permK (pm.length - ks.length) ks.length pm))) := by
  have A := W.top.one C c ec
  obtain ⟨p, mc, cr, cm⟩ := A.cme f k ek
  refine ⟨fun pins s st H Q I ⟨io, r, m, s0, h⟩ => ?_⟩
  refine PySem.W.methodCall_KW (ld_glob I hg A.mg ?_ hd) (meth_form rfl (by
    have := of_decide_eq_true hlt
    simp only [hks, List.all_nil, Bool.and_true, List.length_nil, Bool.true_and, decide_eq_true_eq]
    split <;> omega) hline)
  refine ClX.getmethcm_ok I cr cm fun s2 I2 => ?_
  refine PySem.W.callWith_of (P := PySem.W.MethP X.K s.heap.objs.size (T k).ad (.ref (ca C))) (by rw [kw_none hks] <;> rfl) (PySem.W.keeps_M cm.fi) (evalArgs_kw2_nil (kw_all hks) (thn (hk.run pos _ s2 st H (fun zs H2 => rCK X.K X.mg (fun as bs => bnd (permK (pm.length - ks.length) ks.length pm as bs) (P.call k)) [.ref (ca C)] zs H2 Q) I2
    (tL.bind s0 h fun io1 H1 m1 q y e1 s1 r1 h1 => ⟨io1, m1, [.glb C], q, s1.s, ⟨_, _, rfl, ⟨ca C, A.mg, rfl⟩, rfl⟩, r1, WVpost.from e1 (by rw [opCmK_eq ec ek] at h1; exact h1)⟩)) fun ws s3 ⟨zs, H2, I3, rz, hr⟩ => ⟨⟨ClX.pin_at I3, I3.kIn⟩, ?_⟩))
  rw [kw_names, hnm]
  obtain ⟨io5, m5, ps5, qs5, S5, hp5, hq5, h5⟩ := hr
  obtain ⟨l, rl, h6⟩ := permK_post hp5 hq5 (Post.of_bnd h5)
  have hkn := W.out k _ _ _ h6
  have hb := W.kb k ks pm hkw
  have r1 : Vals [V.ref (ca C)] [Value.ref (ca C)] := .cons rfl .nil
  have r2 := hb.rel r1 rz
  have sp : rCB X.K X.mg (P.call k) (gOf (pm.length - ks.length) ks.length pm [V.ref (ca C)] zs) H2 Q := ⟨io5, m5, l, S5, rl, h6⟩
  have hl : (gOf (pm.length - ks.length) ks.length pm [Value.ref (ca C)] ws).length = (T k).ps.length := by rw [← r2.length]; exact (W.fn k hkn).len _ _ _ E0 sp
  have z : wpAny (model X.prog X.w) X.A (PySem.call (.ref s.heap.objs.size) [] (ks.zip ws)) (EP X ((s.heap.objs.size, PySem.W.methodObj (.ref (T k).ad) (.ref (ca C))) :: pins) st Q) X.xe s3 := by
    refine wpAny_call (PySem.W.method_call (ClX.pin_at I3) (codeAny_mono ((W.fn k hkn).go X.A X.stack s3 H2 ⟨[.ref (ca C)], ks.zip ws⟩ _ _ Q W.gd (W.rm.mono (Nat.le_succ _)) I3.env0 (hb.to s3 [.ref (ca C)] ws I3.kIn hl) r2 sp) fun res s' z => ?_))
    obtain ⟨u, rfl, q⟩ := CR.ends I3 z
    exact q
  exact thn z fun _ _ y => ClX.unpinE y
theorem opMv_post {d : D} {F : D → Sto → Prop} {o : Out (List D)} (h : Post o fun l m => Post (opMv P d l m) F) : ∃ C c k, d = .glb C ∧ P.cl C = some c ∧ c.init = some k := by
  cases o with
  | ok l m =>
    have h : Post (opMv P d l m) F := h
    cases d with
    | glb C =>
      have h : Post (opMk P C l m) F := h
      unfold opMk opMkK at h
      cases ec : P.cl C with
      | none => rw [ec] at h; exact h.elim
      | some c =>
        rw [ec] at h
        cases ek : c.init with
        | none => simp only [ek] at h; exact h.elim
        | some k => exact ⟨C, c, k, rfl, ec, ek⟩
    | _ => exact h.elim
  | exc C fs m => exact h.elim
  | bad => exact h.elim
theorem se_mv {e : Expr} (W : Wd X P T ca kws n L) {k : Nat} {x : Str} (hN : X.N[k]? = some x) (hv : Vis X.env.scope x) (hd : (x == ("__debug__" : Str)) = false) (hc : (x == ("__classdict__" : Str)) = false) (hs : (e :: es).all nst = true) (hl : PA X (e :: es) (tL X.K X.mg ml)) :
    PE X (.Call (.Name x np) (e :: es) [] pos) (tM X.K X.mg fun r => bnd (getV k r) fun d => bnd (ml r) (opMv P d)) := by
  have hs' := hs
  rw [List.all_cons, Bool.and_eq_true] at hs'
  refine ⟨fun pins s st H Q I ⟨io, r, m, s0, h⟩ => ?_⟩
  refine wpAny_Call_Name_kw (thn ((se_var (pos := np) hN hv hd hc).run pins s st H (fun x H1 => ∃ io1 m1 p, Ext io m.length H io1 m1.length H1 ∧ S0 X.K X.mg io1 r m1 st H1 ∧ RepV X.K X.mg io1 m1.length H1 p x ∧ Post (bnd (ml r) (opMv P p) m1) (WV X.K X.mg io m H Q)) I
    (tM.bind s0 h fun io1 H1 m1 p x e1 s1 r1 h1 => ⟨io1, m1, p, e1, s1, r1, h1⟩)) fun u s1 ⟨x, H1, I1, rx, io1, m1, p, e1, s2, r1, h1⟩ => ?_)
  obtain ⟨C, c, j, rfl, ec, ej⟩ := opMv_post (Post.of_bnd h1)
  have A := W.top.one C c ec
  obtain ⟨Ca, h0, rfl⟩ := r1
  cases A.same h0
  cases (show u = Value.ref _ from rx)
  refine PySem.W.callWith_K (h₀ := X.base) I.ok.mod.kin (A.ini j ej).kp (thn (hl.run pos pins s1 st H1 (fun vs H2 => rCB X.K X.mg (opMk P C) vs H2 Q) I1
    (tL.bind s2 h1 fun io3 H3 m3 q y e3 s3 r3 h3 => ⟨io3, m3, q, s3.s, r3, WVpost.from (e1.trans e3) h3⟩)) fun us s4 ⟨vs, H4, I4, rl, hr⟩ => ⟨I4.kIn, se_mkRun W ec ej pins st H4 s4 Q us vs I4 rl hr⟩) (each_nst hs'.1) (nst_none hs'.2)
end
end LC

/-! # LcM: targets, what is walked, loops -/
namespace LC
open PySem PySem.Spec PyProof.Rows L2
theorem PG.mono {X : Cx} {e : Expr} {t t' : TG} (h : PG X e t) (k : ∀ v st H Q, t' v st H Q → t v st H Q) : PG X e t' := ⟨fun pins s st H v u Q I r q => h.run pins s st H v u Q I r (k _ _ _ _ q)⟩
theorem PGs.mono {X : Cx} {e : List Expr} {t t' : TGs} (h : PGs X e t) (k : ∀ v st H Q, t' v st H Q → t v st H Q) : PGs X e t' := ⟨fun pins s st H v u Q I r q => h.run pins s st H v u Q I r (k _ _ _ _ q)⟩
theorem PI.mono {X : Cx} {tg e : Expr} {t t' : TI} (h : PI X tg e t) (k : ∀ st H R, t' st H R → t st H R) : PI X tg e t' := ⟨fun pins s st H R I q => h.run pins s st H R I (k _ _ _ q)⟩
/-- a target that is no starred one -/
theorem stores_nst {e : Expr} {es : List Expr} {env : PySem.Env} (h : nst e = true) : assignEach (e :: es) env = (false, assign e env) :: assignEach es env := by
  cases e <;> first | rfl | cases h
theorem stores_len : ∀ {es : List Expr} {env : PySem.Env}, es.all nst = true → (assignEach es env).length = es.length ∧ (assignEach es env).findIdx? (·.1) = none
  | [], _, _ => ⟨rfl, rfl⟩
  | e :: es, env, h => by
    rw [List.all_cons, Bool.and_eq_true] at h
    obtain ⟨h1, h2⟩ := stores_len (env := env) h.2
    rw [stores_nst h.1]
    refine ⟨by rw [List.length_cons, List.length_cons, h1], ?_⟩
    rw [List.findIdx?_cons, h2]
    rfl
section
variable {X : Cx} {a b o : Expr} {es : List Expr} {ma mb : Env → M D} {pos : Pos}
theorem sg_var {k : Nat} {x : Str} (hN : X.N.Nodup) (hi : X.N[k]? = some x) (hx : Loc X.env.scope x) (hf : X.fn x = true ∨ X.env.scope.names.lookup x = some .local) : PG X (.Name x pos) (tG X.K X.mg (fun d r => LC.ret (r.set k (some d))) [k]) :=
  PG.mono (pg_name hN hi hx hf) fun v st H Q ⟨io, r, m, d, s, hv, h⟩ => (Post.of_ret h) io (st.set k (some v)) H LC.Ext.refl s.s (s.e.set hv) ⟨by rw [List.length_set], fun j hj => List.getElem?_set_ne (fun e => hj (by rw [e]; exact List.mem_singleton.mpr rfl))⟩
theorem sgs_nil : PGs X [] (tGs X.K X.mg (fun ds r => match ds with | [] => LC.ret r | _ => LC.bad) []) :=
  PGs.mono pgs_nil fun vs st H Q ⟨io, r, m, ds, s, hv, h⟩ => by
    cases ds with
    | nil => exact ⟨hv, (Post.of_ret h) io st H LC.Ext.refl s.s s.e Off.refl⟩
    | cons d ds => exact (show False from h).elim
theorem sgs_cons {g : D → Env → M Env} {gs : List D → Env → M Env} {w ws : List Nat} (hn : nst a = true) (ha : PG X a (tG X.K X.mg g w)) (hl : PGs X es (tGs X.K X.mg gs ws)) :
    PGs X (a :: es) (tGs X.K X.mg (fun ds r => match ds with | d :: ds => bnd (g d r) (fun r' => gs ds r') | [] => LC.bad) (w ++ ws)) :=
  PGs.mono (pgs_cons ha hl (by rw [stores_nst hn] <;> rfl)) fun vs st H Q ⟨io, r, m, ds, s, hv, h⟩ => by
    cases ds with
    | nil => exact (show False from h).elim
    | cons d ds =>
      obtain ⟨v, vr, rfl, h1, h2⟩ := hv
      refine ⟨v, vr, rfl, io, r, m, d, s, h1, (Post.of_bnd h).mono fun r2 m2 q io2 st2 H2 e2 S2 re2 w2 => ?_⟩
      refine ⟨io2, r2, m2, ds, ⟨S2, re2⟩, h2.keep s.s e2, q.mono fun r3 m3 q3 io3 st3 H3 e3 S3 re3 w3 => q3 io3 st3 H3 (e2.trans e3) S3 re3 ⟨w3.1.trans w2.1, fun k hk => ?_⟩⟩
      rw [List.mem_append, not_or] at hk
      rw [w3.2 k hk.2, w2.2 k hk.1]
theorem sg_tup {gs : List D → Env → M Env} {ws : List Nat} {j : Nat} (hc : X.calm = true) (hn : es.all nst = true) (hl : PGs X es (tGs X.K X.mg gs ws)) (hlen : ∀ ds r m F, Post (gs ds r m) F → ds.length = es.length) :
    PG X (.Tuple es j pos) (tG X.K X.mg (fun d r => match d with | .tup xs => gs xs r | _ => LC.bad) ws) := by
  obtain ⟨h1, h2⟩ := stores_len (env := X.env) hn
  refine PG.mono (pg_tup hc hl h1 h2) fun v st H Q ⟨io, r, m, d, s, hv, h⟩ => ?_
  cases d with
  | tup xs =>
    obtain ⟨c, vs, rfl, q1, rv⟩ := hv
    exact ⟨c, vs, rfl, q1, by rw [← rv.length]; exact hlen _ _ _ _ h, io, r, m, xs, s, rv, h⟩
  | _ => exact (show False from h).elim
def rSet (K : PySem.W.Frag) (mg : Str → Option Value) (f : D → D → D → M Unit) : TSet := fun o i v H Q => ∃ io m po pi pv, SRel K mg io m H ∧ RepV K mg io m.length H po o ∧ RepV K mg io m.length H pi i ∧ RepV K mg io m.length H pv v ∧
  Post (f po pi pv m) fun _ m' => ∀ H', LC.Ext io m.length H io m'.length H' → SRel K mg io m' H' → Q H'
theorem set_any : PSet X (rSet X.K X.mg opSet) := fun pins s st H o i v ov iv u Q I ro ri rv ⟨io, m, po, pi, pv, S, h1, h2, h3, h⟩ => set_rule pins s st H o i v ov iv u Q io m po pi pv I ro ri rv S h1 h2 h3 h
theorem sg_sub (hs : nsl b = true) (ha : PE X a (tM X.K X.mg ma)) (hb : PE X b (tM X.K X.mg mb)) : PG X (.Subscript a b pos) (tG X.K X.mg (fun d r => bnd (ma r) fun p => bnd (mb r) fun q => bnd (opSet p q d) fun _ => LC.ret r) []) :=
  PG.mono (pg_sub ha hb set_any (fun v => by cases b <;> first | rfl | cases hs)) fun v st H Q ⟨io, r, m, d, s, hv, h⟩ =>
    tM.bind s h fun io1 H1 m1 p x e1 s1 r1 h1 => tM.bind s1 h1 fun io2 H2 m2 q y e2 s2 r2 h2 =>
      ⟨io2, m2, p, q, d, s2.s, r1.keep s1.s e2, r2, (hv.keep s.s e1).keep s1.s e2, (Post.of_bnd h2).mono fun _ m3 h3 H3 e3 S3 => (Post.of_ret h3) io2 st H3 ((e1.trans e2).trans e3) S3 (s2.e.keep s2.s e3) Off.refl⟩
/-- o.f = v -/
theorem sg_at {P : Phi} {T : Nat → DefAt} {ca : Str → Addr} {kws : List (Nat × List Str × List Nat)} {n L : Nat} {f : Str} (W : Wd X P T ca kws n L) (ha : PE X a (tM X.K X.mg ma)) : PG X (.Attribute a f pos) (tG X.K X.mg (fun d r => bnd (ma r) fun p => bnd (opFld P f p d) fun _ => LC.ret r) []) := by
  refine ⟨fun pins s st H v u Q I rv ⟨io, r, m, d, s0, hv, h⟩ => ?_⟩
  rw [assign_Attribute]
  refine wpAny_bind (wpAny_holding (thn (ha.run pins s st H (fun x H1 => ∃ io1 m1 p, LC.Ext io m.length H io1 m1.length H1 ∧ S0 X.K X.mg io1 r m1 st H1 ∧ RepV X.K X.mg io1 m1.length H1 p x ∧ Post (bnd (opFld P f p d) (fun _ => LC.ret r) m1) (WE X.K X.mg io m H st [] Q)) I
    (tM.bind s0 h fun io1 H1 m1 p x e1 s1 r1 h1 => ⟨io1, m1, p, e1, s1, r1, h1⟩)) fun ov s1 ⟨x, H1, I1, rx, io1, m1, p, e1, s2, r1, h1⟩ => ?_))
  have h1 := Post.of_bnd h1
  unfold opFld at h1
  split at h1 <;> first | exact h1.elim | skip
  rename_i j _
  split at h1 <;> first | exact h1.elim | skip
  rename_i C fs e
  split at h1 <;> first | exact h1.elim | skip
  rename_i c ec
  split at h1 <;> first | exact h1.elim | skip
  rename_i hf
  rw [Bool.and_eq_true] at hf
  obtain ⟨Ca, dx, fvs, rfl, h0, ea, rf⟩ := ins_at s2.s r1 e
  have A := W.top.one C c ec
  cases A.same h0
  cases (show ov = Value.ref _ from rx)
  have hv1 := hv.keep s0.s e1
  have hj : j < m1.length := (List.getElem?_eq_some_iff.mp e).1
  refine wpAny_bind (wpAny_standAt (wpAny_bind (wpAny_holding (setattr_ok I1 ea A.cls (A.fld f hf.1) (by rw [← rf.length]; exact of_decide_eq_true hf.2) rv fun s3 I3 => wpAny_release ?_))))
  have x := LC.Ext.write (u := .ins (ca C) dx (L2.putF f v fvs)) s2.s hj
  have S3 : SRel X.K X.mg io1 (m1.set j (.ins C (putF f d fs))) (upd H1 (io1 j) (.ins (ca C) dx (L2.putF f v fvs))) := s2.s.write hj ⟨ca C, dx, _, h0, upd_same, RepF.put (hv1.keep s2.s x) (rf.keep s2.s x)⟩
  have h1 : WE X.K X.mg io m H st [] Q r (m1.set j (.ins C (putF f d fs))) := h1
  have x' : LC.Ext io1 m1.length H1 io1 (m1.set j (.ins C (putF f d fs))).length (upd H1 (io1 j) (.ins (ca C) dx (L2.putF f v fvs))) := by rw [List.length_set]; exact x
  exact ⟨st, _, I3, h1 io1 st _ (e1.trans x') S3 (s2.e.keep s2.s x') Off.refl⟩
end

/-! ### what is walked -/
/-- the iterator J goes as the source tells -/
def SrcOk (K : PySem.W.Frag) (mg : Str → Option Value) (io : Pl) (m : Sto) (H : Hp) (J : It) : Src → Prop
  | .fix ds => ∀ io' (m' : Sto) H', ExtW io m.length H io' m'.length H' → SRel K mg io' m' H' → (∀ i, i < ds.length → J.go i H') ∧ J.stop ds.length H' ∧
      ∀ i x H'', i < ds.length → J.yld i H' x H'' → ∃ d, ds[i]? = some d ∧ LC.Ext io' m'.length H' io' m'.length H'' ∧ SRel K mg io' m' H'' ∧ RepV K mg io' m'.length H'' d x
  | .live n => ∀ io' (m' : Sto) H' xs, ExtW io m.length H io' m'.length H' → SRel K mg io' m' H' → m'[n]? = some (.lst xs) → (∀ i, i < xs.length → J.go i H') ∧ (∀ i, xs.length ≤ i → J.stop i H') ∧
      ∀ i x H'', i < xs.length → J.yld i H' x H'' → ∃ d, xs[i]? = some d ∧ LC.Ext io' m'.length H' io' m'.length H'' ∧ SRel K mg io' m' H'' ∧ RepV K mg io' m'.length H'' d x
def tQ (K : PySem.W.Frag) (mg : Str → Option Value) (q : Env → M Src) : TI := fun st H R => ∃ io r m, S0 K mg io r m st H ∧ Post (q r m) fun src m1 => ∀ io' H' J, LC.Ext io m.length H io' m1.length H' → SRel K mg io' m1 H' → SrcOk K mg io' m1 H' J src → R J H'
section
variable {K : PySem.W.Frag} {mg : Str → Option Value} {io : Pl} {m : Sto} {H : Hp} {J : It}
theorem SrcOk.fixV {ds : List D} {vs : List V} {G : Hp → Prop} (S : SRel K mg io m H) (hl : RepVs K mg io m.length H ds vs) (w : Walk J vs.length G (YAt vs)) (hG : ∀ io' N' H', ExtW io m.length H io' N' H' → G H') : SrcOk K mg io m H J (.fix ds) := by
  intro io' m' H' x S'
  have g := hG io' _ H' x
  rw [hl.length]
  refine ⟨fun i hi => w.goes i H' hi g, w.stops H' g, fun i y H'' hi hy => ?_⟩
  obtain ⟨rfl, e⟩ := w.yields i H' y H'' hi g hy
  obtain ⟨d, e1, r1⟩ := (RepVs.keepW S x _ _ hl).getV e
  exact ⟨d, e1, LC.Ext.refl, S', r1⟩
theorem SrcOk.fixP {ds es : List D} {vs us : List V} {n : Nat} {G : Hp → Prop} (S : SRel K mg io m H) (hl : RepVs K mg io m.length H ds vs) (hr : RepVs K mg io m.length H es us) (hn : n = min vs.length us.length) (w : Walk J n G (YPair (fun i => vs[i]?) (fun i => us[i]?)))
    (hG : ∀ io' N' H', ExtW io m.length H io' N' H' → G H') : SrcOk K mg io m H J (.fix ((ds.zip es).map fun p => .tup [p.1, p.2])) := by
  intro io' m' H' x S'
  have g := hG io' _ H' x
  have hlen : ((ds.zip es).map fun p => D.tup [p.1, p.2]).length = n := by rw [List.length_map, List.length_zip, hl.length, hr.length, hn]
  rw [hlen]
  refine ⟨fun i hi => w.goes i H' hi g, w.stops H' g, fun i y H'' hi hy => ?_⟩
  obtain ⟨T, a, b, rfl, h1, rfl, h2, h3⟩ := w.yields i H' y H'' hi g hy
  obtain ⟨d, e1, r1⟩ := (RepVs.keepW S x _ _ hl).getV h2
  obtain ⟨e, e2, r2⟩ := (RepVs.keepW S x _ _ hr).getV h3
  refine ⟨.tup [d, e], ?_, LC.Ext.new h1, S'.new h1, T, [a, b], rfl, .inl (.inl upd_same), ?_⟩
  · rw [List.getElem?_map, show (ds.zip es)[i]? = some (d, e) from List.getElem?_zip_eq_some.mpr ⟨e1, e2⟩]
    rfl
  · exact ⟨a, [b], rfl, r1.keep S' (LC.Ext.new h1), b, [], rfl, r2.keep S' (LC.Ext.new h1), rfl⟩
theorem SrcOk.range {lo : Int} {n : Nat} {ds : List D} (e : ds = (List.range n).map fun k => .int (lo + (k : Nat))) : SrcOk K mg io m H (Itr lo n) (.fix ds) := by
  intro io' m' H' x S'
  have hl : ds.length = n := by rw [e]; simp
  rw [hl]
  refine ⟨fun i hi => hi, Nat.le_refl _, fun i y H'' hi hy => ?_⟩
  obtain ⟨rfl, rfl⟩ := hy
  refine ⟨.int (lo + i), ?_, LC.Ext.refl, S', rfl⟩
  rw [e, List.getElem?_map, List.getElem?_range hi]
  rfl
theorem SrcOk.str {z : Str} : SrcOk K mg io m H (Its z) (.fix (z.cps.toList.map fun c => .str ⟨#[c]⟩)) := by
  intro io' m' H' x S'
  have hl : (z.cps.toList.map fun c => D.str ⟨#[c]⟩).length = z.cps.size := by simp
  rw [hl]
  refine ⟨fun i hi => hi, Nat.le_refl _, fun i y H'' hi hy => ?_⟩
  obtain ⟨rfl, c, ec, rfl⟩ := hy
  refine ⟨.str ⟨#[c]⟩, ?_, LC.Ext.refl, S', rfl⟩
  rw [List.getElem?_map, Array.getElem?_toList, ec]
  rfl
theorem SrcOk.live {n : Nat} (hn : n < m.length) : SrcOk K mg io m H (Itl K (io n)) (.live n) := by
  intro io' m' H' xs x S' e
  obtain ⟨vs, h1, h2⟩ := S'.ob n _ e
  rw [x.ag n hn] at h1
  have w := walk_list (K := K) (a := io n) (xs := vs)
  have g : SqL K H' (io n) vs := SqL.of h1
  refine ⟨fun i hi => w.goes i H' (by rw [← h2.length]; exact hi) g, fun i hi => ⟨vs, g, by rw [← h2.length]; exact hi⟩, fun i y H'' hi hy => ?_⟩
  obtain ⟨rfl, e1⟩ := w.yields i H' y H'' (by rw [← h2.length]; exact hi) g hy
  obtain ⟨d, e2, r1⟩ := h2.getV e1
  exact ⟨d, e2, LC.Ext.refl, S', r1⟩
end
section
variable {X : Cx} {a b : Expr} {es : List Expr} {ma mb : Env → M D} {ml : Env → M (List D)} {pos np : Pos} {tg : Expr}
/-- a list, a tuple, a text -/
theorem pi_seq {te : TE} (he : PE X a te) : PI X tg a (fun st H R => te st H fun x H1 => (∃ c, x = .ref c ∧ (((∃ xs, SqL X.K H1 c xs) ∧ R (Itl X.K c) H1) ∨ ((∃ xs, SqT X.K H1 c xs) ∧ R (Itt X.K c) H1))) ∨ ∃ z, x = .str z ∧ R (Its z) H1) := by
  refine ⟨fun pins s st H R I h => thn (he.run pins s st H _ I h) fun v s1 ⟨x, H1, I1, r1, q1⟩ => ?_⟩
  rcases q1 with ⟨c, rfl, ⟨⟨xs, hq⟩, q⟩ | ⟨⟨xs, hq⟩, q⟩⟩ | ⟨z, rfl, q⟩
  · cases r1
    obtain ⟨its, rv, pl, _⟩ := I1.list hq
    exact wpAny_pyIter_list pl.isList (pi_one (tk := s1.toks) I1 _ (turn_list c _) ⟨_, Heap.get?_push_size _ rfl, rfl, rfl⟩ q)
  · cases r1
    obtain ⟨its, rv, pl, _⟩ := I1.tuple hq
    exact wpAny_pyIter_tuple (show s1.heap.IsTuple c its.toArray from pl) (pi_one (tk := s1.toks) I1 _ (turn_tuple c _) ⟨_, Heap.get?_push_size _ rfl, rfl, rfl⟩ q)
  · obtain ⟨t, rfl⟩ := r1
    cases hz : z.cps.all (· < 128) with
    | false => exact wpAny_pyIter_wide hz (pi_one (tk := s1.toks) I1 _ (turn_str _ z t "str_iterator" (.inr rfl)) ⟨_, Heap.get?_push_size _ rfl, rfl, rfl⟩ q)
    | true => exact wpAny_pyIter_ascii hz (pi_one (tk := s1.toks) I1 _ (turn_str _ z t "str_ascii_iterator" (.inl rfl)) ⟨_, Heap.get?_push_size _ rfl, rfl, rfl⟩ q)
theorem si_val (ha : PE X a (tM X.K X.mg ma)) : PI X tg a (tQ X.K X.mg fun r => bnd (ma r) srcV) :=
  PI.mono (pi_seq ha) fun st H R ⟨io, r, m, s, h⟩ => tM.bind s h fun io1 H1 m1 p x e1 s1 r1 h1 => by
    unfold srcV at h1
    split at h1 <;> first | exact h1.elim | skip
    · obtain ⟨c, vs, rfl, q, rv⟩ := r1
      exact .inl ⟨c, rfl, .inr ⟨⟨vs, q⟩, h1 io1 H1 _ e1 s1.s (SrcOk.fixV s1.s rv walk_tup fun io' N' H' x => SqT.keepW s1.s x q)⟩⟩
    · obtain ⟨c, vs, rfl, q, nw, rv⟩ := r1
      exact .inl ⟨c, rfl, .inl ⟨⟨vs, SqL.of q⟩, h1 io1 H1 _ e1 s1.s (SrcOk.fixV s1.s rv walk_list fun io' N' H' x => SqL.of (x.kp _ _ q nw))⟩⟩
    · rename_i ns
      obtain ⟨c, rfl, q⟩ := r1
      exact .inl ⟨c, rfl, .inl ⟨⟨_, q.sq⟩, h1 io1 H1 _ e1 s1.s (SrcOk.fixV s1.s (RepVs.ints ns) walk_list fun io' N' H' x => (SqRead.keepW s1.s x q).sq)⟩⟩
    · rename_i z
      exact .inr ⟨z, r1, h1 io1 H1 _ e1 s1.s SrcOk.str⟩
    · rename_i j
      split at h1 <;> first | exact h1.elim | skip
      rename_i zs e
      obtain ⟨hj, rfl⟩ := r1
      obtain ⟨vs, h2, _⟩ := s1.s.ob j _ e
      exact .inl ⟨_, rfl, .inl ⟨⟨vs, SqL.of h2⟩, h1 io1 H1 _ e1 s1.s (SrcOk.live hj)⟩⟩
theorem small62_of {i : Int} (h : small62 i = true) : -(2 ^ 62) ≤ i ∧ i < 2 ^ 62 := of_decide_eq_true h
theorem si_range1 (hg : Gl X "range") (hm : X.mg "range" = none) (hn : nst a = true) (hl : PA X [a] (tL X.K X.mg ml)) (h1 : ∀ r m ds m', ml r m = .ok ds m' → ds.length = 1) : PI X tg (.Call (.Name "range" np) [a] [] pos) (tQ X.K X.mg fun r => bnd (ml r) srcR) :=
  PI.mono (pi_range1 hg hm hl (each_nst hn)) fun st H R ⟨io, r, m, s, h⟩ => by
    cases e : ml r m with
    | bad => have h := Post.of_bnd h; rw [e] at h; exact h.elim
    | exc C fs m' => have h := Post.of_bnd h; rw [e] at h; exact h.elim
    | ok ds0 m0 =>
      have hlen := h1 r m ds0 m0 e
      refine ⟨io, r, m, s, ?_⟩
      replace h := Post.of_bnd h
      rw [e] at h ⊢
      intro io1 H1 vs e1 S1 rv
      replace h : Post (srcR ds0 m0) _ := h
      unfold srcR at h
      split at h <;> first | exact h.elim | skip
      · rename_i j
        split at h <;> first | exact h.elim | skip
        rename_i hj
        obtain ⟨q1, q2⟩ := small62_of hj
        obtain ⟨v, rfl, hv⟩ := rep1 rv
        cases (show v = .int j from hv)
        exact ⟨j, rfl, q1, q2, h io1 H1 _ e1 S1 (SrcOk.range (by unfold rangeL; rw [Int.sub_zero]))⟩
      · cases hlen
      · cases hlen
theorem si_range2 (hg : Gl X "range") (hm : X.mg "range" = none) (hn : nst a = true) (hn2 : nst b = true) (hl : PA X [a, b] (tL X.K X.mg ml)) (h1 : ∀ r m ds m', ml r m = .ok ds m' → ds.length = 2) : PI X tg (.Call (.Name "range" np) [a, b] [] pos) (tQ X.K X.mg fun r => bnd (ml r) srcR) :=
  PI.mono (pi_range2 hg hm hl (by rw [each_nst hn, each_nst hn2] <;> rfl) (each_nst hn2)) fun st H R ⟨io, r, m, s, h⟩ => by
    cases e : ml r m with
    | bad => have h := Post.of_bnd h; rw [e] at h; exact h.elim
    | exc C fs m' => have h := Post.of_bnd h; rw [e] at h; exact h.elim
    | ok ds0 m0 =>
      have hlen := h1 r m ds0 m0 e
      refine ⟨io, r, m, s, ?_⟩
      replace h := Post.of_bnd h
      rw [e] at h ⊢
      intro io1 H1 vs e1 S1 rv
      replace h : Post (srcR ds0 m0) _ := h
      unfold srcR at h
      split at h <;> first | exact h.elim | skip
      · cases hlen
      · rename_i i j
        split at h <;> first | exact h.elim | skip
        rename_i hj
        rw [Bool.and_eq_true] at hj
        obtain ⟨q1, q2⟩ := small62_of hj.1
        obtain ⟨q3, q4⟩ := small62_of hj.2
        obtain ⟨v, u, rfl, hv, hu⟩ := rep2 rv
        cases (show v = .int i from hv)
        cases (show u = .int j from hu)
        exact ⟨i, j, rfl, ⟨q1, q2, q3, q4⟩, h io1 H1 _ e1 S1 (SrcOk.range rfl)⟩
      · cases hlen
theorem SrcOk.rangeC {K : PySem.W.Frag} {mg : Str → Option Value} {io : Pl} {m : Sto} {H : Hp} {lo c : Int} {n : Nat} {ds : List D} (e : ds = (List.range n).map fun k => .int (lo + (k : Nat) * c)) : SrcOk K mg io m H (Itc lo c n) (.fix ds) := by
  intro io' m' H' x S'
  have hl : ds.length = n := by rw [e]; simp
  rw [hl]
  refine ⟨fun i hi => hi, Nat.le_refl _, fun i y H'' hi hy => ?_⟩
  obtain ⟨rfl, rfl⟩ := hy
  refine ⟨.int (lo + i * c), ?_, LC.Ext.refl, S', rfl⟩
  rw [e, List.getElem?_map, List.getElem?_range hi]
  rfl
theorem si_range3 {c : Expr} (hg : Gl X "range") (hm : X.mg "range" = none) (hn : nst a = true) (hn2 : nst b = true) (hn3 : nst c = true) (hl : PA X [a, b, c] (tL X.K X.mg ml)) (h1 : ∀ r m ds m', ml r m = .ok ds m' → ds.length = 3) : PI X tg (.Call (.Name "range" np) [a, b, c] [] pos) (tQ X.K X.mg fun r => bnd (ml r) srcR) :=
  PI.mono (pi_range3 hg hm hl (each_nst hn) (nst_none (by rw [List.all_cons, List.all_cons, hn2, hn3] <;> rfl))) fun st H R ⟨io, r, m, s, h⟩ => by
    cases e : ml r m with
    | bad => have h := Post.of_bnd h; rw [e] at h; exact h.elim
    | exc C fs m' => have h := Post.of_bnd h; rw [e] at h; exact h.elim
    | ok ds0 m0 =>
      have hlen := h1 r m ds0 m0 e
      refine ⟨io, r, m, s, ?_⟩
      replace h := Post.of_bnd h
      rw [e] at h ⊢
      intro io1 H1 vs e1 S1 rv
      replace h : Post (srcR ds0 m0) _ := h
      unfold srcR at h
      split at h <;> first | exact h.elim | skip
      · cases hlen
      · cases hlen
      · rename_i i j k
        split at h <;> first | exact h.elim | skip
        rename_i hj
        unfold rgOk3 at hj
        rw [Bool.and_eq_true, Bool.and_eq_true, Bool.and_eq_true, decide_eq_true_eq, decide_eq_true_eq, decide_eq_true_eq] at hj
        obtain ⟨⟨⟨q1, q2⟩, q3⟩, q4⟩ := hj
        obtain ⟨v, vt, rfl, hv, ht⟩ := rv
        obtain ⟨u, ut, rfl, hu, ht⟩ := ht
        obtain ⟨w, wt, rfl, hw, ht⟩ := ht
        cases (show wt = [] from ht)
        cases (show v = .int i from hv)
        cases (show u = .int j from hu)
        cases (show w = .int k from hw)
        exact ⟨i, j, k, _, rfl, ⟨q1, q2, q3, by omega⟩, h io1 H1 _ e1 S1 (SrcOk.rangeC rfl)⟩
theorem walk_zipT {K : PySem.W.Frag} {c d : Addr} {xs ys : List V} {n : Nat} (hn : n = min xs.length ys.length) : Walk (RZ.ItzT K c d) n (fun H => SqT K H c xs ∧ SqT K H d ys) (YPair (fun i => xs[i]?) (fun i => ys[i]?)) := by
  subst hn
  refine ⟨fun i _ hi q => ?_, fun _ q => ⟨xs, ys, q.1, q.2, by omega⟩, fun i H v H' _ q y => ?_⟩
  · have h1 : i < xs.length := by omega
    have h2 : i < ys.length := by omega
    exact ⟨xs, ys, xs[i], ys[i], q.1, q.2, by simp [h1], by simp [h2]⟩
  · obtain ⟨T, x, z, h1, h2, h3, h4, h5⟩ := y
    exact ⟨T, x, z, h1, h2, h3, h4 xs q.1, h5 ys q.2⟩
theorem si_zip {elts : List Expr} {kk : Nat} {tpos : Pos} (hg : Gl X "zip") (hm : X.mg "zip" = none) (hn : nst a = true) (hn2 : nst b = true) (hl : PA X [a, b] (tL X.K X.mg ml)) : PI X (.Tuple elts kk tpos) (.Call (.Name "zip" np) [a, b] [] pos) (tQ X.K X.mg fun r => bnd (ml r) srcZ) :=
  PI.mono (RZ.pi_zipA hg hm hl (each_nst hn) (by rw [each_nst hn2] <;> rfl)) fun st H R ⟨io, r, m, s, h⟩ => tL.bind s h fun io1 H1 m1 p x e1 s1 r1 h1 => by
    unfold srcZ at h1
    split at h1 <;> first | exact h1.elim | skip
    · obtain ⟨v, u, rfl, hv, hu⟩ := rep2 r1
      obtain ⟨c, vs, rfl, q, rv⟩ := hv
      obtain ⟨d, us, rfl, q2, ru⟩ := hu
      exact ⟨c, d, vs, us, rfl, .inr ⟨q, q2, h1 io1 H1 _ e1 s1.s (SrcOk.fixP s1.s rv ru rfl (walk_zipT rfl) fun io' N' H' x => ⟨SqT.keepW s1.s x q, SqT.keepW s1.s x q2⟩)⟩⟩
    · obtain ⟨v, u, rfl, hv, hu⟩ := rep2 r1
      obtain ⟨c, vs, rfl, q, nw, rv⟩ := hv
      obtain ⟨d, us, rfl, q2, nw2, ru⟩ := hu
      exact ⟨c, d, vs, us, rfl, .inl ⟨SqL.of q, SqL.of q2, h1 io1 H1 _ e1 s1.s (SrcOk.fixP s1.s rv ru rfl (walk_zip rfl) fun io' N' H' x => ⟨SqL.of (x.kp _ _ q nw), SqL.of (x.kp _ _ q2 nw2)⟩)⟩⟩
end
end LC

/-! # LcN: loops, comprehensions, statements -/
namespace LC
open PySem PySem.Spec PyProof.Rows L2

/-! ### one step of the loops -/
theorem forL_step {body : D → Env → M Flow} {d : D} {ds : List D} {r : Env} {m : Sto} {F : Flow → Sto → Prop} (h : Post (forL body (d :: ds) r m) F) :
    Post (body d r m) fun fl m' => match fl with
      | .nx r' => Post (forL body ds r' m') F
      | .ct r' => Post (forL body ds r' m') F
      | .bk r' => F (.nx r') m'
      | .rt x => F (.rt x) m' := by
  unfold forL at h
  cases e : body d r m with
  | ok fl m' => rw [e] at h; cases fl <;> exact h
  | exc C fs m' => rw [e] at h; exact h.elim
  | bad => rw [e] at h; exact h.elim
theorem forV_step {body : D → Env → M Flow} {n w k : Nat} {r : Env} {m : Sto} {F : Flow → Sto → Prop} (h : Post (forV body n (w + 1) k r m) F) :
    ∃ xs, m[n]? = some (.lst xs) ∧ ((xs[k]? = none ∧ F (.nx r) m) ∨ ∃ d, xs[k]? = some d ∧ Post (body d r m) fun fl m' => match fl with
      | .nx r' => Post (forV body n w (k + 1) r' m') F
      | .ct r' => Post (forV body n w (k + 1) r' m') F
      | .bk r' => F (.nx r') m'
      | .rt x => F (.rt x) m') := by
  unfold forV at h
  split at h <;> first | exact h.elim | skip
  rename_i xs e
  refine ⟨xs, e, ?_⟩
  split at h
  · rename_i e2
    exact .inl ⟨e2, h⟩
  · rename_i d e2
    refine .inr ⟨d, e2, ?_⟩
    cases e3 : body d r m with
    | ok fl m' => rw [e3] at h; cases fl <;> exact h
    | exc C fs m' => rw [e3] at h; exact h.elim
    | bad => rw [e3] at h; exact h.elim
theorem whileM_step {c : Env → M Bool} {body : Env → M Flow} {w : Nat} {r : Env} {m : Sto} {F : Flow → Sto → Prop} (h : Post (whileM c body (w + 1) r m) F) :
    Post (c r m) fun b m' => if b = true then Post (body r m') (fun fl m2 => match fl with
      | .nx r' => Post (whileM c body w r' m2) F
      | .ct r' => Post (whileM c body w r' m2) F
      | .bk r' => F (.nx r') m2
      | .rt x => F (.rt x) m2) else F (.nx r) m' := by
  unfold whileM at h
  cases e : c r m with
  | ok b m' =>
    rw [e] at h
    cases b with
    | false => exact h
    | true =>
      show Post (body r m') _
      cases e3 : body r m' with
      | ok fl m2 => simp only [e3] at h; cases fl <;> exact h
      | exc C fs m2 => simp only [e3] at h; exact h.elim
      | bad => simp only [e3] at h; exact h.elim
  | exc C fs m' => rw [e] at h; exact h.elim
  | bad => rw [e] at h; exact h.elim

section
variable {K : PySem.W.Frag} {mg : Str → Option Value} {io io' : Pl} {m m' : Sto} {H H' : Hp}
/-- a body's end, seen by the loop around it -/
theorem WF.loop {io0 : Pl} {m0 : Sto} {H0 : Hp} {Ds : Ends} {N : L2.St → Hp → Prop} {fl : Flow} {m2 : Sto} {G : Env → Sto → Prop} (x : LC.Ext io0 m0.length H0 io m.length H)
    (h : match fl with
      | .nx r' => G r' m2
      | .ct r' => G r' m2
      | .bk r' => WF K mg io0 m0 H0 Ds (.nx r') m2
      | .rt v => WF K mg io0 m0 H0 Ds (.rt v) m2)
    (k : ∀ r' io2 st2 H2, G r' m2 → LC.Ext io m.length H io2 m2.length H2 → S0 K mg io2 r' m2 st2 H2 → N st2 H2) : WF K mg io m H { Ds with nx := N, ct := N, bk := Ds.nx } fl m2 := by
  cases fl with
  | nx r' => exact fun io2 st2 H2 y S e => k r' io2 st2 H2 h y ⟨S, e⟩
  | ct r' => exact fun io2 st2 H2 y S e => k r' io2 st2 H2 h y ⟨S, e⟩
  | bk r' => exact fun io2 st2 H2 y S e => (show WF K mg io0 m0 H0 Ds (.nx r') m2 from h) io2 st2 H2 (x.trans y) S e
  | rt v => exact fun io2 H2 u y S e => (show WF K mg io0 m0 H0 Ds (.rt v) m2 from h) io2 H2 u (x.trans y) S e
end

section
variable {X : Cx} {tg it : Expr} {body : List Stmt} {pos : Pos}
theorem ss_for {q : Env → M Src} {g : D → Env → M Env} {ws : List Nat} {b : Env → M Flow} {W : Nat} (hx : X.xe = fun _ _ => False) (hc : X.calm = true) (hi : PI X tg it (tQ X.K X.mg q)) (hg : PG X tg (tG X.K X.mg g ws)) (hb : PSs X body (tS X.K X.mg b))
    (hs : ∀ x, foldedSetIterable it X.env x = pure x) :
    PS X (.For tg it body [] pos) (tS X.K X.mg fun r => bnd (q r) fun src => match src with
      | .fix ds => forL (fun d r => bnd (g d r) fun r2 => b r2) ds r
      | .live n => forV (fun d r => bnd (g d r) fun r2 => b r2) n W 0 r) := by
  refine PS.mono (ps_for (by rw [hx]; exact PassesOwn.never) hc hi hg hb hs) fun Ds st H ⟨io, r, m, s, h⟩ => ?_
  refine ⟨io, r, m, s, (Post.of_bnd h).mono fun src m1 h1 io1 H1 J e1 S1 so => ?_⟩
  have s1 := s.next e1 S1
  cases src with
  | fix ds =>
    have h1 : Post (forL (fun d r => bnd (g d r) fun r2 => b r2) ds r m1) (WF X.K X.mg io m H Ds) := h1
    refine ⟨fun i mm st' H' => mm = ds.length - i ∧ i ≤ ds.length ∧ ∃ io' r' m', LC.Ext io1 m1.length H1 io' m'.length H' ∧ S0 X.K X.mg io' r' m' st' H' ∧ Post (forL (fun d r => bnd (g d r) fun r2 => b r2) (ds.drop i) r' m') (WF X.K X.mg io m H Ds),
      ⟨ds.length, rfl, Nat.zero_le _, io1, r, m1, LC.Ext.refl, s1, h1⟩, ?_⟩
    rintro i mm st' H' ⟨rfl, hi, io2, r2, m2, e2, s2, h2⟩
    obtain ⟨o1, o2, o3⟩ := so io2 m2 H' e2.toExtW s2.s
    by_cases hlt : i < ds.length
    · refine .inr ⟨o1 i hlt, fun st3 H3 => ∃ mm, mm < ds.length - i ∧ (mm = ds.length - (i + 1) ∧ i + 1 ≤ ds.length ∧ ∃ io' r' m', LC.Ext io1 m1.length H1 io' m'.length H3 ∧ S0 X.K X.mg io' r' m' st3 H3 ∧ Post (forL (fun d r => bnd (g d r) fun r2 => b r2) (ds.drop (i + 1)) r' m') (WF X.K X.mg io m H Ds)), fun st3 H3 z => z, fun x H3 y => ?_⟩
      obtain ⟨d, ed, e3, S3, r3⟩ := o3 i x H3 hlt y
      have s3 := s2.next e3 S3
      have hd : ds.drop i = d :: ds.drop (i + 1) := by
        rw [List.drop_eq_getElem_cons hlt]
        rw [List.getElem?_eq_getElem hlt] at ed
        rw [Option.some.inj ed]
      rw [hd] at h2
      refine ⟨io2, r2, m2, d, s3, r3, (Post.of_bnd (forL_step h2)).mono fun r4 m4 h4 io4 st4 H4 e4 S4 re4 _ => ?_⟩
      refine ⟨io4, r4, m4, ⟨S4, re4⟩, h4.mono fun fl m5 h5 => WF.loop (G := fun r' m5 => Post (forL (fun d r => bnd (g d r) fun r2 => b r2) (ds.drop (i + 1)) r' m5) (WF X.K X.mg io m H Ds)) (((e1.trans e2).trans e3).trans e4) h5 fun r6 io6 st6 H6 g6 e6 s6 => ?_⟩
      exact ⟨_, by omega, rfl, by omega, io6, r6, m5, ((e2.trans e3).trans e4).trans e6, s6, g6⟩
    · have ei : i = ds.length := by omega
      subst ei
      rw [List.drop_length] at h2
      exact .inl ⟨o2, (show WF X.K X.mg io m H Ds (.nx r2) m2 from h2) io2 st' H' (e1.trans e2) s2.s s2.e⟩
  | live n =>
    have h1 : Post (forV (fun d r => bnd (g d r) fun r2 => b r2) n W 0 r m1) (WF X.K X.mg io m H Ds) := h1
    refine ⟨fun i mm st' H' => ∃ io' r' m', LC.Ext io1 m1.length H1 io' m'.length H' ∧ S0 X.K X.mg io' r' m' st' H' ∧ Post (forV (fun d r => bnd (g d r) fun r2 => b r2) n mm i r' m') (WF X.K X.mg io m H Ds),
      ⟨W, io1, r, m1, LC.Ext.refl, s1, h1⟩, ?_⟩
    rintro i mm st' H' ⟨io2, r2, m2, e2, s2, h2⟩
    cases mm with
    | zero => exact (show False from h2).elim
    | succ mm =>
      obtain ⟨xs, ex, h2⟩ := forV_step h2
      obtain ⟨o1, o2, o3⟩ := so io2 m2 H' xs e2.toExtW s2.s ex
      rcases h2 with ⟨ek, h2⟩ | ⟨d, ek, h2⟩
      · exact .inl ⟨o2 i (List.getElem?_eq_none_iff.mp ek), (show WF X.K X.mg io m H Ds (.nx r2) m2 from h2) io2 st' H' (e1.trans e2) s2.s s2.e⟩
      · have hlt : i < xs.length := (List.getElem?_eq_some_iff.mp ek).1
        refine .inr ⟨o1 i hlt, fun st3 H3 => ∃ io' r' m', LC.Ext io1 m1.length H1 io' m'.length H3 ∧ S0 X.K X.mg io' r' m' st3 H3 ∧ Post (forV (fun d r => bnd (g d r) fun r2 => b r2) n mm (i + 1) r' m') (WF X.K X.mg io m H Ds), fun st3 H3 z => ⟨mm, Nat.lt_succ_self _, z⟩, fun x H3 y => ?_⟩
        obtain ⟨d', ed, e3, S3, r3⟩ := o3 i x H3 hlt y
        rw [ek] at ed
        cases ed
        have s3 := s2.next e3 S3
        refine ⟨io2, r2, m2, d, s3, r3, (Post.of_bnd h2).mono fun r4 m4 h4 io4 st4 H4 e4 S4 re4 _ => ?_⟩
        refine ⟨io4, r4, m4, ⟨S4, re4⟩, h4.mono fun fl m5 h5 => WF.loop (G := fun r' m5 => Post (forV (fun d r => bnd (g d r) fun r2 => b r2) n mm (i + 1) r' m5) (WF X.K X.mg io m H Ds)) (((e1.trans e2).trans e3).trans e4) h5 fun r6 io6 st6 H6 g6 e6 s6 => ?_⟩
        exact ⟨io6, r6, m5, ((e2.trans e3).trans e4).trans e6, s6, g6⟩
theorem ss_while {c : Expr} {t : Env → M Bool} {b : Env → M Flow} {W : Nat} (hx : X.xe = fun _ _ => False) (hc : PT X c (tT X.K X.mg t)) (hb : PSs X body (tS X.K X.mg b)) : PS X (.While c body [] pos) (tS X.K X.mg fun r => whileM t b W r) := by
  refine PS.mono (ps_while (by rw [hx]; exact PassesOwn.never) hc hb) fun Ds st H ⟨io, r, m, s, h⟩ => ?_
  refine ⟨fun mm st' H' => ∃ io' r' m', LC.Ext io m.length H io' m'.length H' ∧ S0 X.K X.mg io' r' m' st' H' ∧ Post (whileM t b mm r' m') (WF X.K X.mg io m H Ds), ⟨W, io, r, m, LC.Ext.refl, s, h⟩, ?_⟩
  rintro mm st' H' ⟨io2, r2, m2, e2, s2, h2⟩
  cases mm with
  | zero => exact (show False from h2).elim
  | succ mm =>
    refine ⟨io2, r2, m2, s2, (whileM_step h2).mono fun k m3 h3 io3 H3 e3 S3 => ?_⟩
    have s3 := s2.next e3 S3
    cases k with
    | false =>
      rw [if_neg Bool.false_ne_true] at h3
      exact iteF ((show WF X.K X.mg io m H Ds (.nx r2) m3 from h3) io3 st' H3 (e2.trans e3) S3 s3.e)
    | true =>
      rw [if_pos rfl] at h3
      refine iteT ⟨fun st4 H4 => ∃ io' r' m', LC.Ext io m.length H io' m'.length H4 ∧ S0 X.K X.mg io' r' m' st4 H4 ∧ Post (whileM t b mm r' m') (WF X.K X.mg io m H Ds), fun st4 H4 z => ⟨mm, Nat.lt_succ_self _, z⟩, io3, r2, m3, s3, h3.mono fun fl m5 h5 => WF.loop (G := fun r' m5 => Post (whileM t b mm r' m5) (WF X.K X.mg io m H Ds)) (e2.trans e3) h5 fun r6 io6 st6 H6 g6 e6 s6 => ?_⟩
      exact ⟨io6, r6, m5, (e2.trans e3).trans e6, s6, g6⟩
end

/-! ### small statements -/
section
variable {X : Cx} {a b : Expr} {st1 : Stmt} {rest body orelse : List Stmt} {ma mb : Env → M D} {ml : Env → M (List D)} {pos pos' : Pos}
theorem ss_nil : PSs X [] (tS X.K X.mg fun r => LC.ret (.nx r)) := PSs.mono pss_nil fun Ds st H ⟨io, r, m, s, h⟩ => (show WF X.K X.mg io m H Ds (.nx r) m from h) io st H LC.Ext.refl s.s s.e
theorem ss_cons {f g : Env → M Flow} (h1 : PS X st1 (tS X.K X.mg f)) (h2 : PSs X rest (tS X.K X.mg g)) : PSs X (st1 :: rest) (tS X.K X.mg fun r => bnd (f r) fun fl => seqF fl g) :=
  PSs.mono (pss_cons h1 h2) fun Ds st H ⟨io, r, m, s, h⟩ => ⟨io, r, m, s, (Post.of_bnd h).mono fun fl m1 h1 => by
    cases fl with
    | nx r' => exact fun io1 st1 H1 e1 S1 re1 => ⟨io1, r', m1, ⟨S1, re1⟩, WFpost.from e1 h1⟩
    | rt d => exact h1
    | bk r' => exact h1
    | ct r' => exact h1⟩
theorem s_ret (ha : PE X a (tM X.K X.mg ma)) : PS X (.Return (some a) pos) (tS X.K X.mg fun r => bnd (ma r) fun p => LC.ret (.rt p)) :=
  PS.mono (ps_ret ha) fun Ds st H ⟨io, r, m, s, h⟩ => tM.bind s h fun io1 H1 m1 p x e1 s1 r1 h1 => (show WF X.K X.mg io m H Ds (.rt p) m1 from h1) io1 H1 x e1 s1.s r1
theorem s_ret0 : PS X (.Return none pos) (tS X.K X.mg fun _ => LC.ret (.rt .non)) :=
  PS.mono ps_retN fun Ds st H ⟨io, r, m, s, h⟩ => (show WF X.K X.mg io m H Ds (.rt .non) m from h) io H .non LC.Ext.refl s.s rfl
theorem s_expr (hn : ncomp a = true) (ha : PE X a (tM X.K X.mg ma)) : PS X (.Expr a pos) (tS X.K X.mg fun r => bnd (ma r) fun _ => LC.ret (.nx r)) :=
  PS.mono (ps_expr ha (swaps_ncomp hn)) fun Ds st H ⟨io, r, m, s, h⟩ => tM.bind s h fun io1 H1 m1 p x e1 s1 r1 h1 => (show WF X.K X.mg io m H Ds (.nx r) m1 from h1) io1 st H1 e1 s1.s s1.e
theorem s_pass : PS X (.Pass pos) (tS X.K X.mg fun r => LC.ret (.nx r)) := PS.mono ps_pass fun Ds st H ⟨io, r, m, s, h⟩ => (show WF X.K X.mg io m H Ds (.nx r) m from h) io st H LC.Ext.refl s.s s.e
theorem s_brk : PS X (.Break pos) (tS X.K X.mg fun r => LC.ret (.bk r)) := PS.mono ps_break fun Ds st H ⟨io, r, m, s, h⟩ => (show WF X.K X.mg io m H Ds (.bk r) m from h) io st H LC.Ext.refl s.s s.e
theorem s_cnt : PS X (.Continue pos) (tS X.K X.mg fun r => LC.ret (.ct r)) := PS.mono ps_continue fun Ds st H ⟨io, r, m, s, h⟩ => (show WF X.K X.mg io m H Ds (.ct r) m from h) io st H LC.Ext.refl s.s s.e
theorem s_bad : PS X st1 (tS X.K X.mg fun _ => LC.bad) := PS.mono ps_never fun Ds st H ⟨io, r, m, s, h⟩ => h
theorem s_if {t : Env → M Bool} {f g : Env → M Flow} {c : Expr} (hc : PT X c (tT X.K X.mg t)) (h1 : PSs X body (tS X.K X.mg f)) (h2 : PSs X orelse (tS X.K X.mg g)) : PS X (.If c body orelse pos) (tS X.K X.mg fun r => bnd (t r) fun k => if k then f r else g r) :=
  PS.mono (ps_if hc h1 h2) fun Ds st H ⟨io, r, m, s, h⟩ => tT.bind s h fun io1 H1 m1 k e1 s1 h1 => by
    cases k with
    | true => exact iteT ⟨io1, r, m1, s1, WFpost.from e1 h1⟩
    | false => exact iteF ⟨io1, r, m1, s1, WFpost.from e1 h1⟩
theorem s_try {h0 : ExceptHandler} {hs : List ExceptHandler} {f : Env → M Flow} (h1 : PSs X.nox body (tS X.K X.mg f)) : PS X (.Try body (h0 :: hs) [] [] pos) (tS X.K X.mg fun r m => match f r m with | .exc _ _ _ => .bad | o => o) :=
  PS.mono (ps_try_thru0 h1) fun Ds st H ⟨io, r, m, s, h⟩ => ⟨io, r, m, s, by
    dsimp only at h
    cases e : f r m with
    | ok fl m1 => rw [e] at h; exact h
    | exc C fs m1 => rw [e] at h; exact h.elim
    | bad => rw [e] at h; exact h.elim⟩
theorem s_set {k : Nat} {x : Str} (hN : X.N.Nodup) (hi : X.N[k]? = some x) (hx : Loc X.env.scope x) (hf : X.fn x = true ∨ X.env.scope.names.lookup x = some .local) (hs : swapsWith a (some (.Name x pos')) pos.line X.env = pure false) (ha : PE X a (tM X.K X.mg ma)) :
    PS X (.Assign [.Name x pos'] a pos) (tS X.K X.mg fun r => bnd (ma r) fun p => LC.ret (.nx (r.set k (some p)))) :=
  PS.mono (ps_set hN hi hx ha hs hf) fun Ds st H ⟨io, r, m, s, h⟩ => tM.bind s h fun io1 H1 m1 p x e1 s1 r1 h1 => (show WF X.K X.mg io m H Ds (.nx (r.set k (some p))) m1 from h1) io1 _ H1 e1 s1.s (s1.e.set r1)
theorem s_asg {g : D → Env → M Env} {ws : List Nat} (hn : nst b = true) (ha : PE X a (tM X.K X.mg ma)) (hg : PG X b (tG X.K X.mg g ws)) (hs : swapsWithSole [b] a pos.line X.env = pure false) (hw : swappedStores [b] a X.env = pure none) :
    PS X (.Assign [b] a pos) (tS X.K X.mg fun r => bnd (ma r) fun p => bnd (g p r) fun r' => LC.ret (.nx r')) :=
  PS.mono (ps_asg ha hg hs hw (by rw [stores_nst hn] <;> rfl)) fun Ds st H ⟨io, r, m, s, h⟩ => tM.bind s h fun io1 H1 m1 p x e1 s1 r1 h1 =>
    ⟨io1, r, m1, p, s1, r1, (Post.of_bnd h1).mono fun r2 m2 h2 io2 st2 H2 e2 S2 re2 _ => (show WF X.K X.mg io m H Ds (.nx r2) m2 from h2) io2 st2 H2 (e1.trans e2) S2 re2⟩
theorem aug_any {o : Operator} : PIp X o (rOp X.K X.mg (opAug o)) := fun pins s st H x y v u Q I rx ry ⟨io, m, p, q, S, hp, hq, h⟩ => by
  unfold opAug at h
  split at h <;> first | exact h.elim | skip
  · subst hp; subst hq; exact ip_add pins s st H _ _ v u Q I rx ry ⟨_, _, rfl, rfl, WV.here h S rfl⟩
  · subst hp; subst hq; exact ip_sub pins s st H _ _ v u Q I rx ry ⟨_, _, rfl, rfl, WV.here h S rfl⟩
  · subst hp; subst hq
    split at h <;> first | exact h.elim | skip
    rename_i hz
    exact iop_add_str pins s st H _ _ v u Q I rx ry ⟨_, _, rfl, rfl, by rw [← lim]; exact of_decide_eq_true hz, WV.here h S rfl⟩
theorem s_aug {k : Nat} {x : Str} {o : Operator} (hN : X.N.Nodup) (hi : X.N[k]? = some x) (hx : Loc X.env.scope x) (hf : X.fn x = true ∨ X.env.scope.names.lookup x = some .local) (ha : PE X a (tM X.K X.mg ma)) :
    PS X (.AugAssign (.Name x pos') o a pos) (tS X.K X.mg fun r => bnd (getV k r) fun p => bnd (ma r) fun q => bnd (opAug o p q) fun z => LC.ret (.nx (r.set k (some z)))) :=
  PS.mono (ps_aug hN hi hx ha aug_any hf) fun Ds st H ⟨io, r, m, s, h⟩ => by
    have h := Post.of_bnd h
    unfold getV at h
    split at h <;> first | exact h.elim | skip
    rename_i d e
    obtain ⟨v, h1, h2⟩ := s.e.2 k d e
    refine ⟨v, h1, tM.bind s (show Post (bnd (ma r) (fun q => bnd (opAug o d q) fun z => LC.ret (Flow.nx (r.set k (some z)))) m) (WF X.K X.mg io m H Ds) from h) fun io1 H1 m1 p x e1 s1 r1 h3 => ?_⟩
    refine rOp.mk s1.s (h2.keep s.s e1) r1 ((Post.of_bnd h3).mono fun z m2 h4 io2 H2 w e2 S2 r2 => ?_)
    exact (show WF X.K X.mg io m H Ds (.nx (r.set k (some z))) m2 from h4) io2 _ H2 (e1.trans e2) S2 ((s1.e.keep s1.s e2).set r2)
theorem s_par2 {i j : Nat} {x y : Str} {px py pt : Pos} {kt k2 pt2} (hc : X.calm = true) (hN : X.N.Nodup) (hi : X.N[i]? = some x) (hj : X.N[j]? = some y) (hij : i ≠ j)
    (hx : X.env.scope.names.lookup x = some .local) (hy : X.env.scope.names.lookup y = some .local) (hl : PA X [a, b] (tL X.K X.mg ml))
    (hw : swappedStores [.Tuple [.Name x px, .Name y py] kt pt] (.Tuple [a, b] k2 pt2) X.env = pure (some [x, y])) (hs : swapsWithSole [.Tuple [.Name x px, .Name y py] kt pt] (.Tuple [a, b] k2 pt2) pos.line X.env = pure false) :
    PS X (.Assign [.Tuple [.Name x px, .Name y py] kt pt] (.Tuple [a, b] k2 pt2) pos) (tS X.K X.mg fun r => bnd (ml r) fun ds => bnd (setAll [i, j] ds r) fun r' => LC.ret (.nx r')) :=
  PS.mono (ps_par hc hN hi hj hij hx hy hl hw hs) fun Ds st H ⟨io, r, m, s, h⟩ => tL.bind s h fun io1 H1 m1 p x e1 s1 r1 h1 => by
    cases p with
    | nil => exact (show False from h1).elim
    | cons d p =>
      cases p with
      | nil => exact (show False from h1).elim
      | cons d2 p =>
        cases p with
        | cons d3 p => exact (show False from h1).elim
        | nil =>
          obtain ⟨v, u, rfl, hv, hu⟩ := rep2 r1
          exact ⟨v, u, rfl, (show WF X.K X.mg io m H Ds (.nx ((r.set i (some d)).set j (some d2))) m1 from h1) io1 _ H1 e1 s1.s ((s1.e.set hv).set hu)⟩
theorem s_par3 {c : Expr} {i j l : Nat} {x y z : Str} {px py pz pt : Pos} {kt k2 pt2} (hc : X.calm = true) (hN : X.N.Nodup) (hi : X.N[i]? = some x) (hj : X.N[j]? = some y) (hl : X.N[l]? = some z) (hij : i ≠ j) (hil : i ≠ l) (hjl : j ≠ l)
    (hx : X.env.scope.names.lookup x = some .local) (hy : X.env.scope.names.lookup y = some .local) (hz : X.env.scope.names.lookup z = some .local) (ha : PA X [a, b, c] (tL X.K X.mg ml))
    (hw : swappedStores [.Tuple [.Name x px, .Name y py, .Name z pz] kt pt] (.Tuple [a, b, c] k2 pt2) X.env = pure (some [x, y, z])) (hs : swapsWithSole [.Tuple [.Name x px, .Name y py, .Name z pz] kt pt] (.Tuple [a, b, c] k2 pt2) pos.line X.env = pure false) :
    PS X (.Assign [.Tuple [.Name x px, .Name y py, .Name z pz] kt pt] (.Tuple [a, b, c] k2 pt2) pos) (tS X.K X.mg fun r => bnd (ml r) fun ds => bnd (setAll [i, j, l] ds r) fun r' => LC.ret (.nx r')) :=
  PS.mono (ps_par3 hc hN hi hj hl hij hil hjl hx hy hz ha hw hs) fun Ds st H ⟨io, r, m, s, h⟩ => tL.bind s h fun io1 H1 m1 p x e1 s1 r1 h1 => by
    cases p with
    | nil => exact (show False from h1).elim
    | cons d p =>
      cases p with
      | nil => exact (show False from h1).elim
      | cons d2 p =>
        cases p with
        | nil => exact (show False from h1).elim
        | cons d3 p =>
          cases p with
          | cons d4 p => exact (show False from h1).elim
          | nil =>
            obtain ⟨v, w, rfl, hv, r2⟩ := r1
            obtain ⟨u, t, rfl, hu, ht⟩ := rep2 r2
            exact ⟨v, u, t, rfl, (show WF X.K X.mg io m H Ds (.nx (((r.set i (some d)).set j (some d2)).set l (some d3))) m1 from h1) io1 _ H1 e1 s1.s (((s1.e.set hv).set hu).set ht)⟩
end
end LC

/-! # LcO: comprehensions -/
namespace LC
open PySem PySem.Spec PyProof.Rows L2
theorem lcL_step {turn : D → M (Option D)} {d : D} {ds acc : List D} {m : Sto} {F : List D → Sto → Prop} (h : Post (lcL turn (d :: ds) acc m) F) :
    Post (turn d m) fun o m' => match o with
      | none => Post (lcL turn ds acc m') F
      | some x => acc.length < LIM ∧ Post (lcL turn ds (acc ++ [x]) m') F := by
  unfold lcL at h
  cases e : turn d m with
  | ok o m' =>
    rw [e] at h
    cases o with
    | none => exact h
    | some x =>
      simp only at h
      split at h
      · rename_i hz
        exact ⟨of_decide_eq_true hz, h⟩
      · exact h.elim
  | exc C fs m' => rw [e] at h; exact h.elim
  | bad => rw [e] at h; exact h.elim
theorem lcV_step {turn : D → M (Option D)} {n w k : Nat} {acc : List D} {m : Sto} {F : List D → Sto → Prop} (h : Post (lcV turn n (w + 1) k acc m) F) :
    ∃ xs, m[n]? = some (.lst xs) ∧ ((xs[k]? = none ∧ F acc m) ∨ ∃ d, xs[k]? = some d ∧ Post (turn d m) fun o m' => match o with
      | none => Post (lcV turn n w (k + 1) acc m') F
      | some x => acc.length < LIM ∧ Post (lcV turn n w (k + 1) (acc ++ [x]) m') F) := by
  unfold lcV at h
  split at h <;> first | exact h.elim | skip
  rename_i xs e
  refine ⟨xs, e, ?_⟩
  split at h
  · rename_i e2
    exact .inl ⟨e2, h⟩
  · rename_i d e2
    refine .inr ⟨d, e2, ?_⟩
    cases e3 : turn d m with
    | ok o m' =>
      rw [e3] at h
      cases o with
      | none => exact h
      | some x =>
        simp only at h
        split at h
        · rename_i hz
          exact ⟨of_decide_eq_true hz, h⟩
        · exact h.elim
    | exc C fs m' => rw [e3] at h; exact h.elim
    | bad => rw [e3] at h; exact h.elim
theorem wipe_same {st st' : L2.St} : ∀ {ws : List Nat}, st'.length = st.length → (∀ k, k ∉ ws → st'[k]? = st[k]?) → L2.wipe st' ws = L2.wipe st ws := fun {ws} hl h => by
  have len : ∀ (s : L2.St), (L2.wipe s ws).length = s.length := fun s => wipe_length s ws
  have get : ∀ (ws : List Nat) (s : L2.St) (k : Nat), (L2.wipe s ws)[k]? = if k ∈ ws then (if k < s.length then some none else none) else s[k]? := by
    intro ws
    induction ws with
    | nil => intro s k; simp [L2.wipe]
    | cons v vs ih =>
      intro s k
      unfold L2.wipe
      by_cases hk : v = k
      · subst hk
        rw [List.getElem?_set, wipe_length]
        simp
      · rw [List.getElem?_set_ne hk, ih s k]
        have : (k ∈ v :: vs) = (k ∈ vs) := by simp [Ne.symm hk]
        simp only [this]
  apply List.ext_getElem?
  intro k
  rw [get ws st' k, get ws st k, hl]
  split
  · rfl
  · rename_i hk
    exact h k hk
theorem wipe_idem (st : L2.St) (ws : List Nat) : L2.wipe (L2.wipe st ws) ws = L2.wipe st ws := by
  refine wipe_same (wipe_length st ws) fun k hk => ?_
  induction ws with
  | nil => rfl
  | cons v vs ih =>
    rw [List.mem_cons, not_or] at hk
    unfold L2.wipe
    rw [List.getElem?_set_ne (Ne.symm hk.1)]
    exact ih hk.2

section
variable {K : PySem.W.Frag} {mg : Str → Option Value} {io io' : Pl} {N N' : Nat} {H : Hp}
mutual
/-- the places told otherwise -/
theorem RepV.map (hf : ∀ n, n < N → io' n = io n) (hN : N ≤ N') (hn : ∀ a vs, H a = some (.lst vs) → Nowhere io N a → Nowhere io' N' a) : ∀ (d : D) (v : V), RepV K mg io N H d v → RepV K mg io' N' H d v
  | .non, v, r => r
  | .bl b, v, r => r
  | .int i, v, r => r
  | .str s, v, r => r
  | .tup ds, v, r => by
    obtain ⟨a, vs, e, q, r⟩ := r
    exact ⟨a, vs, e, q, RepVs.map hf hN hn ds vs r⟩
  | .lst ds, v, r => by
    obtain ⟨a, vs, e, q, ne, r⟩ := r
    exact ⟨a, vs, e, q, hn a vs q ne, RepVs.map hf hN hn ds vs r⟩
  | .scr ns, v, r => r
  | .ref n, v, r => by
    obtain ⟨h1, h2⟩ := r
    exact ⟨Nat.lt_of_lt_of_le h1 hN, by rw [hf n h1]; exact h2⟩
  | .glb y, v, r => r
  | .ty n, v, r => r
theorem RepVs.map (hf : ∀ n, n < N → io' n = io n) (hN : N ≤ N') (hn : ∀ a vs, H a = some (.lst vs) → Nowhere io N a → Nowhere io' N' a) : ∀ (ds : List D) (vs : List V), RepVs K mg io N H ds vs → RepVs K mg io' N' H ds vs
  | [], vs, r => r
  | d :: ds, vs, r => by
    obtain ⟨v, q, e, h1, h2⟩ := r
    exact ⟨v, q, e, RepV.map hf hN hn d v h1, RepVs.map hf hN hn ds q h2⟩
end
theorem RepF.map (hf : ∀ n, n < N → io' n = io n) (hN : N ≤ N') (hn : ∀ a vs, H a = some (.lst vs) → Nowhere io N a → Nowhere io' N' a) : ∀ (fs : List (Str × D)) (vs : List (Str × V)), RepF K mg io N H fs vs → RepF K mg io' N' H fs vs
  | [], vs, r => r
  | d :: ds, vs, r => by
    obtain ⟨v, q, e, h1, h2⟩ := r
    exact ⟨v, q, e, RepV.map hf hN hn _ v h1, RepF.map hf hN hn ds q h2⟩
theorem RepO.map (hf : ∀ n, n < N → io' n = io n) (hN : N ≤ N') (hn : ∀ a vs, H a = some (.lst vs) → Nowhere io N a → Nowhere io' N' a) {a : Addr} {o : Ob} (r : RepO K mg io N H a o) : RepO K mg io' N' H a o := by
  cases o with
  | lst ds => obtain ⟨vs, h1, h2⟩ := r; exact ⟨vs, h1, RepVs.map hf hN hn _ _ h2⟩
  | ins C fs => obtain ⟨Ca, dx, fvs, h0, h1, h2⟩ := r; exact ⟨Ca, dx, fvs, h0, h1, RepF.map hf hN hn _ _ h2⟩
end

section
variable {K : PySem.W.Frag} {mg : Str → Option Value}
theorem bare_f {io : Pl} {z : Addr → Prop} (n : Nat) : (bare io z) n = io n := rfl
theorem hide_f {io : Pl} {p : Addr} (n : Nat) : (hide io p) n = io n := rfl
/-- what stands between two turns: the list at p with acc, hidden -/
structure Mid (K : PySem.W.Frag) (mg : Str → Option Value) (io0 : Pl) (N0 : Nat) (H0 : Hp) (p : Addr) (st : L2.St) (en : Env) (io : Pl) (m : Sto) (H : Hp) (acc : List D) (accV : List V) : Prop where
  z : io.z = fun a => io0.z a ∨ a = p
  e : LC.Ext io0 N0 H0 (bare io io0.z) m.length H
  S : SRel K mg io m H
  at_ : H p = some (.lst accV)
  r : RepVs K mg io m.length H acc accV
  env : RelE K mg io m.length H en st
  fr : H0 p = none
  nz : ¬ io0.z p
section
variable {io0 : Pl} {m0 : Sto} {H0 : Hp} {p : Addr} {st : L2.St} {r : Env} {io io' : Pl} {m m' : Sto} {H H' : Hp} {acc : List D} {accV : List V}
theorem Mid.start {st : L2.St} {r : Env} (S : SRel K mg io0 m0 H0) (h : H0 p = none) (re : RelE K mg io0 m0.length H0 r st) : Mid K mg io0 m0.length H0 p st r (hide io0 p) m0 (upd H0 p (.lst [])) [] [] where
  z := rfl
  e := LC.Ext.begin h
  S := S.hide h
  at_ := upd_same
  r := rfl
  env := ⟨re.1, fun k d q => let ⟨v, h1, h2⟩ := re.2 k d q; ⟨v, h1, h2.hide h⟩⟩
  fr := h
  nz := fun hz => by obtain ⟨vs, e⟩ := S.zl p hz; rw [h] at e; cases e
theorem Mid.sb (x : Mid K mg io0 m0.length H0 p st r io m H acc accV) : SRel K mg (bare io io0.z) m H := x.S.bare fun a h => by rw [x.z]; exact .inl h
theorem Mid.bare {io1 : Pl} {m1 : Sto} {H1 : Hp} (x : Mid K mg io0 m0.length H0 p st r io m H acc accV) (e : LC.Ext io m.length H io1 m1.length H1) : LC.Ext (LC.bare io io0.z) m.length H (LC.bare io1 io0.z) m1.length H1 :=
  e.bare fun a h => by rw [x.z]; exact .inl h
/-- on, nothing taken -/
theorem Mid.next (x : Mid K mg io0 m0.length H0 p st r io m H acc accV) (e : LC.Ext io m.length H io' m'.length H') (S' : SRel K mg io' m' H') : Mid K mg io0 m0.length H0 p st r io' m' H' acc accV where
  z := e.zz.trans x.z
  e := x.e.trans (x.bare e)
  S := S'
  at_ := by rw [e.kz p (by rw [x.z]; exact .inr rfl) (by rw [x.at_]; simp)]; exact x.at_
  r := x.r.keep x.S e
  env := x.env.keep x.S e
  fr := x.fr
  nz := x.nz
/-- one more -/
theorem Mid.push {d : D} {v : V} (x : Mid K mg io0 m0.length H0 p st r io m H acc accV) (rv : RepV K mg io m.length H d v) : Mid K mg io0 m0.length H0 p st r io m (upd H p (.lst (accV ++ [v]))) (acc ++ [d]) (accV ++ [v]) := by
  have hz : io.z p := by rw [x.z]; exact .inr rfl
  have w := ExtW.over (N := m.length) (H := H) (u := .lst (accV ++ [v])) hz
  refine ⟨x.z, x.e.over x.fr fun n hn => ?_, x.S.over hz, upd_same, ?_, ⟨x.env.1, fun k d q => let ⟨v, h1, h2⟩ := x.env.2 k d q; ⟨v, h1, RepV.keepW x.S w _ _ h2⟩⟩, x.fr, x.nz⟩
  · intro e
    have hn' : n < m.length := Nat.lt_of_lt_of_le hn x.e.le
    refine x.S.zn n hn' ?_
    rw [x.z]
    refine .inr ?_
    rw [← e]
    exact x.e.ag n hn
  · exact RepVs.keepW x.S w _ _ (x.r.append ⟨v, [], rfl, rv, rfl⟩)
end

/-- done, a value -/
theorem Mid.fin {io0 : Pl} {m0 : Sto} {H0 : Hp} {p : Addr} {st : L2.St} {r : Env} {io : Pl} {m : Sto} {H : Hp} {acc : List D} {accV : List V} (x : Mid K mg io0 m0.length H0 p st r io m H acc accV) : RepV K mg (LC.bare io io0.z) m.length H (.lst acc) (.ref p) := by
  refine ⟨p, accV, rfl, x.at_, ⟨fun n hn e => ?_, fun hz => ?_⟩, RepVs.bare (fun a h => by rw [x.z]; exact .inl h) _ _ x.r⟩
  · exact x.S.zn n hn (by rw [x.z]; exact .inr e.symm)
  · exact x.nz hz
/-- done, at a place of its own -/
theorem Mid.own {io0 : Pl} {m0 : Sto} {H0 : Hp} {p : Addr} {st : L2.St} {r : Env} {io : Pl} {m : Sto} {H : Hp} {acc : List D} {accV : List V} (x : Mid K mg io0 m0.length H0 p st r io m H acc accV) :
    SRel K mg (ioN (LC.bare io io0.z) m.length p) (m ++ [.lst acc]) H := by
  have old : ∀ n, n < m.length → io n ≠ p := fun n hn e => x.S.zn n hn (by rw [x.z]; exact .inr e)
  have hf : ∀ n, n < m.length → (ioN (LC.bare io io0.z) m.length p) n = io n := fun n hn => ioN_lt hn
  have hn : ∀ a vs, H a = some (.lst vs) → Nowhere io m.length a → Nowhere (ioN (LC.bare io io0.z) m.length p) (m.length + 1) a := fun a vs _ q => by
    refine ⟨fun n hn e => ?_, fun hz => q.2 (by rw [x.z]; exact .inl hz)⟩
    by_cases hk : n < m.length
    · rw [hf n hk] at e; exact q.1 n hk e
    · have ek : n = m.length := by omega
      subst ek
      rw [ioN_eq] at e
      exact q.2 (by rw [x.z]; exact .inr e)
  refine ⟨fun j k hj hk e => ?_, fun k o e => ?_, fun a hz => x.S.zl a (by rw [x.z]; exact .inl hz), fun n hl hz => ?_⟩
  · rw [List.length_append, List.length_singleton] at hj hk
    by_cases h1 : j < m.length
    · rw [hf j h1] at e
      by_cases h2 : k < m.length
      · rw [hf k h2] at e; exact x.S.inj j k h1 h2 e
      · have e2 : k = m.length := by omega
        subst e2
        rw [ioN_eq] at e; exact absurd e (old j h1)
    · have e1 : j = m.length := by omega
      subst e1
      rw [ioN_eq] at e
      by_cases h2 : k < m.length
      · rw [hf k h2] at e; exact absurd e.symm (old k h2)
      · omega
  · rw [List.length_append, List.length_singleton]
    by_cases hk : k < m.length
    · rw [List.getElem?_append_left hk] at e
      rw [hf k hk]
      exact RepO.map hf (Nat.le_succ _) hn (x.S.ob k o e)
    · have hl : k < (m ++ [Ob.lst acc]).length := (List.getElem?_eq_some_iff.mp e).1
      rw [List.length_append, List.length_singleton] at hl
      have ek : k = m.length := by omega
      subst ek
      rw [List.getElem?_append_right (Nat.le_refl _), Nat.sub_self] at e
      have e' : Ob.lst acc = o := Option.some.inj e
      subst e'
      rw [ioN_eq]
      exact ⟨accV, x.at_, RepVs.map hf (Nat.le_succ _) hn _ _ x.r⟩
  · rw [List.length_append, List.length_singleton] at hl
    by_cases hk : n < m.length
    · rw [hf n hk] at hz; exact x.S.zn n hk (by rw [x.z]; exact .inl hz)
    · have ek : n = m.length := by omega
      subst ek
      rw [ioN_eq] at hz
      exact x.nz hz
theorem Ext.addPlace {io io' : Pl} {N N' : Nat} {H H' : Hp} {p : Addr} (x : LC.Ext io N H io' N' H') (h : H p = none) : LC.Ext io N H (ioN io' N' p) (N' + 1) H' :=
  ⟨⟨Nat.le_succ_of_le x.le, fun n hn => by rw [ioN_lt (Nat.lt_of_lt_of_le hn x.le)]; exact x.ag n hn, fun n h1 h2 => by
    by_cases hk : n < N'
    · rw [ioN_lt hk]; exact x.fr n h1 hk
    · have ek : n = N' := by omega
      subst ek
      rw [ioN_eq]; exact h, x.kp, x.zf⟩, x.th, x.kz, x.zz⟩
theorem Ext.none_back {io io' : Pl} {N N' : Nat} {H H' : Hp} {p : Addr} (x : LC.Ext io N H io' N' H') (h : H' p = none) : H p = none := by
  cases e : H p with
  | none => rfl
  | some o =>
    by_cases hz : io.z p
    · have q := x.kz p hz (by rw [e]; simp)
      rw [h, e] at q; cases q
    · by_cases hn : ∃ n, n < N ∧ p = io n
      · obtain ⟨n, hn, ep⟩ := hn
        have q := x.th n hn (by rw [← ep, e]; simp)
        rw [← ep] at q; exact absurd h q
      · have q := x.kp p o e ⟨fun n hl ep => hn ⟨n, hl, ep⟩, hz⟩
        rw [h] at q; cases q
/-- the new list, as the term wants it -/
theorem Mid.done {io io0 : Pl} {m m0 m2 : Sto} {H H0 : Hp} {p : Addr} {st : L2.St} {r : Env} {io2 : Pl} {H2 : Hp} {acc : List D} {accV : List V} {mu : Bool} {Q : VK} (x : Mid K mg io0 m0.length H0 p st r io2 m2 H2 acc accV) (e : LC.Ext io m.length H io0 m0.length H0)
    (h : Post ((if mu then new (.lst acc) else LC.ret (.lst acc)) m2) (WV K mg io m H Q)) : Q (.ref p) H2 := by
  cases mu with
  | false => exact (show WV K mg io m H Q (.lst acc) m2 from h) (LC.bare io2 io0.z) H2 _ (e.trans x.e) x.sb x.fin
  | true =>
    refine (show WV K mg io m H Q (.ref m2.length) (m2 ++ [.lst acc]) from h) (ioN (LC.bare io2 io0.z) m2.length p) H2 _ ?_ x.own ⟨by simp, by rw [ioN_eq]⟩
    rw [List.length_append, List.length_singleton]
    exact Ext.addPlace (e.trans x.e) (Ext.none_back e x.fr)
end

section
variable {X : Cx} {elt tg it : Expr} {ifs : List Expr} {pos : Pos} {scope : Scope}
theorem tLc_of {q : Env → M Src} {g : D → Env → M Env} {ws : List Nat} {t : Env → M Bool} {e : Env → M D} {own : List Nat} {W : Nat} {mu : Bool} {st : L2.St} {H : Hp} {Q : VK} (hsub : ∀ k ∈ ws, k ∈ own)
    (h : tM X.K X.mg (fun r => bnd (q r) fun src => bnd (match src with
      | .fix ds => lcL (lcTurn g t e (wipeE r own)) ds []
      | .live n => lcV (lcTurn g t e (wipeE r own)) n W 0 []) fun xs => if mu then new (.lst xs) else LC.ret (.lst xs)) st H Q) :
    tLc (tQ X.K X.mg q) (tG X.K X.mg g ws) (tT X.K X.mg t) (tM X.K X.mg e) own st H Q := by
  obtain ⟨io, r, m, s, h⟩ := h
  refine ⟨io, r, m, s, (Post.of_bnd h).mono fun src m1 h1 io1 H1 J e1 S1 so p hp => ?_⟩
  have s1 := s.next e1 S1
  have re := s1.e.wipe own
  have hst : Mid X.K X.mg io1 m1.length H1 p (L2.wipe st own) (wipeE r own) (hide io1 p) m1 (upd H1 p (.lst [])) [] [] := Mid.start S1 hp re
  -- one turn
  have turn : ∀ (N' : Hp → Prop) {io2 : Pl} {m2 : Sto} {H2 H3 : Hp} {acc : List D} {accV : List V} {d : D} {x : V} {F : Option D → Sto → Prop}, Mid X.K X.mg io1 m1.length H1 p (L2.wipe st own) (wipeE r own) io2 m2 H2 acc accV → LC.Ext io2 m2.length H2 io2 m2.length H3 → SRel X.K X.mg io2 m2 H3 → RepV X.K X.mg io2 m2.length H3 d x →
      Post (lcTurn g t e (wipeE r own) d m2) F →
      (∀ io5 m5 H5, F none m5 → Mid X.K X.mg io1 m1.length H1 p (L2.wipe st own) (wipeE r own) io5 m5 H5 acc accV → N' H5) →
      (∀ io5 m5 H5 d5 v5, F (some d5) m5 → Mid X.K X.mg io1 m1.length H1 p (L2.wipe st own) (wipeE r own) io5 m5 H5 acc accV → RepV X.K X.mg io5 m5.length H5 d5 v5 → accV.length < sizeLine ∧ N' (upd H5 p (.lst (accV ++ [v5])))) →
      tG X.K X.mg g ws x (L2.wipe st own) H3 fun st4 H4 => L2.wipe st4 own = L2.wipe st own ∧ tT X.K X.mg t st4 H4 fun b H5 =>
        if b = true then tM X.K X.mg e st4 H5 fun y H6 => ∃ acc, H6 p = some (.lst acc) ∧ acc.length < sizeLine ∧ N' (upd H6 p (.lst (acc ++ [y]))) else N' H5 := by
    intro N' io2 m2 H2 H3 acc accV d x F M e3 S3 rx h2 k0 k1
    have M3 := M.next e3 S3
    refine ⟨io2, wipeE r own, m2, d, ⟨S3, M3.env⟩, rx, (Post.of_bnd h2).mono fun r4 m4 h4 io4 st4 H4 e4 S4 re4 w4 => ⟨?_, ?_⟩⟩
    · rw [← wipe_idem st own]
      exact wipe_same w4.1 fun k hk => w4.2 k fun hw => hk (hsub k hw)
    · have M4 := M3.next e4 S4
      refine ⟨io4, r4, m4, ⟨S4, re4⟩, (Post.of_bnd h4).mono fun b m5 h5 io5 H5 e5 S5 => ?_⟩
      have M5 := M4.next e5 S5
      cases b with
      | false => exact iteF (k0 io5 m5 H5 h5 M5)
      | true =>
        refine iteT ⟨io5, r4, m5, ⟨S5, re4.keep S4 e5⟩, (Post.of_bnd h5).mono fun d6 m6 h6 io6 H6 v6 e6 S6 r6 => ?_⟩
        have M6 := M5.next e6 S6
        obtain ⟨z1, z2⟩ := k1 io6 m6 H6 d6 v6 h6 M6 r6
        exact ⟨accV, M6.at_, z1, z2⟩
  have up : ∀ {io2 : Pl} {m2 : Sto} {H2 : Hp} {acc : List D} {accV : List V}, Mid X.K X.mg io1 m1.length H1 p (L2.wipe st own) (wipeE r own) io2 m2 H2 acc accV → ExtW io1 m1.length H1 io2 m2.length H2 := fun {io2 m2 H2 acc accV} M =>
    ⟨M.e.le, M.e.ag, M.e.fr, M.e.kp, fun a hz => by
      rw [M.z] at hz
      rcases hz with hz | hz
      · exact .inl hz
      · exact .inr (by rw [hz]; exact hp)⟩
  cases src with
  | fix ds =>
    have h1 : Post (bnd (lcL (lcTurn g t e (wipeE r own)) ds []) (fun xs => if mu then new (.lst xs) else LC.ret (.lst xs)) m1) (WV X.K X.mg io m H Q) := h1
    refine ⟨fun i mm H' => mm = ds.length - i ∧ i ≤ ds.length ∧ ∃ io' m' acc accV, Mid X.K X.mg io1 m1.length H1 p (L2.wipe st own) (wipeE r own) io' m' H' acc accV ∧ Post (lcL (lcTurn g t e (wipeE r own)) (ds.drop i) acc m') (fun xs m2 => Post ((if mu then new (.lst xs) else LC.ret (.lst xs)) m2) (WV X.K X.mg io m H Q)),
      ⟨ds.length, rfl, Nat.zero_le _, _, _, [], [], hst, Post.of_bnd h1⟩, ?_⟩
    rintro i mm H' ⟨rfl, hi, io2, m2, acc, accV, M, h2⟩
    obtain ⟨o1, o2, o3⟩ := so io2 m2 H' (up M) M.S
    by_cases hlt : i < ds.length
    · refine .inr ⟨o1 i hlt, fun H3 => ∃ mm, mm < ds.length - i ∧ (mm = ds.length - (i + 1) ∧ i + 1 ≤ ds.length ∧ ∃ io' m' acc accV, Mid X.K X.mg io1 m1.length H1 p (L2.wipe st own) (wipeE r own) io' m' H3 acc accV ∧ Post (lcL (lcTurn g t e (wipeE r own)) (ds.drop (i + 1)) acc m') (fun xs m2 => Post ((if mu then new (.lst xs) else LC.ret (.lst xs)) m2) (WV X.K X.mg io m H Q))), fun H3 z => z, fun x H3 y => ?_⟩
      obtain ⟨d, ed, e3, S3, r3⟩ := o3 i x H3 hlt y
      have hd : ds.drop i = d :: ds.drop (i + 1) := by
        rw [List.drop_eq_getElem_cons hlt]
        rw [List.getElem?_eq_getElem hlt] at ed
        rw [Option.some.inj ed]
      rw [hd] at h2
      refine turn _ M e3 S3 r3 (lcL_step h2) (fun io5 m5 H5 f M5 => ⟨_, by omega, rfl, by omega, io5, m5, acc, accV, M5, f⟩) fun io5 m5 H5 d5 v5 f M5 r5 => ⟨by rw [← lim, ← M5.r.length]; exact f.1, _, by omega, rfl, by omega, io5, m5, _, _, M5.push r5, f.2⟩
    · have ei : i = ds.length := by omega
      subst ei
      rw [List.drop_length] at h2
      exact .inl ⟨o2, M.done e1 h2⟩
  | live n =>
    have h1 : Post (bnd (lcV (lcTurn g t e (wipeE r own)) n W 0 []) (fun xs => if mu then new (.lst xs) else LC.ret (.lst xs)) m1) (WV X.K X.mg io m H Q) := h1
    refine ⟨fun i mm H' => ∃ io' m' acc accV, Mid X.K X.mg io1 m1.length H1 p (L2.wipe st own) (wipeE r own) io' m' H' acc accV ∧ Post (lcV (lcTurn g t e (wipeE r own)) n mm i acc m') (fun xs m2 => Post ((if mu then new (.lst xs) else LC.ret (.lst xs)) m2) (WV X.K X.mg io m H Q)),
      ⟨W, _, _, [], [], hst, Post.of_bnd h1⟩, ?_⟩
    rintro i mm H' ⟨io2, m2, acc, accV, M, h2⟩
    cases mm with
    | zero => exact (show False from h2).elim
    | succ mm =>
      obtain ⟨xs, ex, h2⟩ := lcV_step h2
      obtain ⟨o1, o2, o3⟩ := so io2 m2 H' xs (up M) M.S ex
      rcases h2 with ⟨ek, h2⟩ | ⟨d, ek, h2⟩
      · exact .inl ⟨o2 i (List.getElem?_eq_none_iff.mp ek), M.done e1 h2⟩
      · have hlt : i < xs.length := (List.getElem?_eq_some_iff.mp ek).1
        refine .inr ⟨o1 i hlt, fun H3 => ∃ io' m' acc accV, Mid X.K X.mg io1 m1.length H1 p (L2.wipe st own) (wipeE r own) io' m' H3 acc accV ∧ Post (lcV (lcTurn g t e (wipeE r own)) n mm (i + 1) acc m') (fun xs m2 => Post ((if mu then new (.lst xs) else LC.ret (.lst xs)) m2) (WV X.K X.mg io m H Q)), fun H3 z => ⟨mm, Nat.lt_succ_self _, z⟩, fun x H3 y => ?_⟩
        obtain ⟨d', ed, e3, S3, r3⟩ := o3 i x H3 hlt y
        rw [ek] at ed
        cases ed
        refine turn _ M e3 S3 r3 h2 (fun io5 m5 H5 f M5 => ⟨io5, m5, acc, accV, M5, f⟩) fun io5 m5 H5 d5 v5 f M5 r5 => ⟨by rw [← lim, ← M5.r.length]; exact f.1, io5, m5, _, _, M5.push r5, f.2⟩
theorem se_lc {q : Env → M Src} {g : D → Env → M Env} {ws : List Nat} {t : Env → M Bool} {e : Env → M D} {own : List (Str × Nat)} {W : Nat} {mu : Bool} (hc : X.calm = true) (hN : X.N.Nodup) (ok : BlkOk X.N X.env.scope scope own) (hsub : ∀ k ∈ ws, k ∈ own.map (·.2)) (hi : PI X tg it (tQ X.K X.mg q))
    (hg : ∀ (s : Shared) (H : Hp) (C : Addr) (cl : List (Str × Addr)) (fp : List Addr), PG (X.blk s H scope (compEnvC scope cl C X.env) fp) tg (tG X.K X.mg g ws)) (ht : ∀ (s : Shared) (H : Hp) (C : Addr) (cl : List (Str × Addr)) (fp : List Addr), PTs (X.blk s H scope (compEnvC scope cl C X.env) fp) ifs (tT X.K X.mg t))
    (he : ∀ (s : Shared) (H : Hp) (C : Addr) (cl : List (Str × Addr)) (fp : List Addr), PE (X.blk s H scope (compEnvC scope cl C X.env) fp) elt (tM X.K X.mg e)) (hs : ∀ x, foldedSetIterable it X.env x = pure x) :
    PE X (.ListComp elt [⟨tg, it, ifs, 0⟩] scope pos) (tM X.K X.mg fun r => bnd (q r) fun src => bnd (match src with
      | .fix ds => lcL (lcTurn g t e (wipeE r (own.map (·.2)))) ds []
      | .live n => lcV (lcTurn g t e (wipeE r (own.map (·.2)))) n W 0 []) fun xs => if mu then new (.lst xs) else LC.ret (.lst xs)) :=
  PE.mono (pe_lc hc hN hi ok hg ht he hs) fun st H Q h => tLc_of hsub h
theorem s_setc {k : Nat} {x : Str} {py : Pos} {spos : Pos} {q : Env → M Src} {g : D → Env → M Env} {ws : List Nat} {t : Env → M Bool} {e : Env → M D} {own : List (Str × Nat)} {W : Nat} {mu : Bool} (hc : X.calm = true) (hN : X.N.Nodup) (hk : X.N[k]? = some x) (hx : X.env.scope.names.lookup x = some .local)
    (hsw : swapsWith (.ListComp elt [⟨tg, it, ifs, 0⟩] scope pos) (some (.Name x py)) spos.line X.env = pure true) (ok : BlkOk X.N X.env.scope scope own) (hsub : ∀ k ∈ ws, k ∈ own.map (·.2)) (hi : PI X tg it (tQ X.K X.mg q))
    (hg : ∀ (s : Shared) (H : Hp) (C : Addr) (cl : List (Str × Addr)) (fp : List Addr), PG (X.blk s H scope (compEnvC scope cl C X.env) fp) tg (tG X.K X.mg g ws)) (ht : ∀ (s : Shared) (H : Hp) (C : Addr) (cl : List (Str × Addr)) (fp : List Addr), PTs (X.blk s H scope (compEnvC scope cl C X.env) fp) ifs (tT X.K X.mg t))
    (he : ∀ (s : Shared) (H : Hp) (C : Addr) (cl : List (Str × Addr)) (fp : List Addr), PE (X.blk s H scope (compEnvC scope cl C X.env) fp) elt (tM X.K X.mg e)) (hs : ∀ x, foldedSetIterable it X.env x = pure x) :
    PS X (.Assign [.Name x py] (.ListComp elt [⟨tg, it, ifs, 0⟩] scope pos) spos) (tS X.K X.mg fun r => bnd (bnd (q r) fun src => bnd (match src with
      | .fix ds => lcL (lcTurn g t e (wipeE r (own.map (·.2)))) ds []
      | .live n => lcV (lcTurn g t e (wipeE r (own.map (·.2)))) n W 0 []) fun xs => if mu then new (.lst xs) else LC.ret (.lst xs)) fun p => LC.ret (.nx (r.set k (some p)))) :=
  PS.mono (ps_setLc hc hN hk hx hsw hi ok hg ht he hs) fun Ds st H ⟨io, r, m, s, h⟩ => tLc_of (mu := mu) (W := W) hsub (tM.bind s h fun io1 H1 m1 p x e1 s1 r1 h1 =>
    (show WF X.K X.mg io m H Ds (.nx (r.set k (some p))) m1 from h1) io1 _ H1 e1 s1.s (s1.e.set r1))
end
end LC

/-! # LcO2: joined texts, lists of ranges, places in lists, sorted ints -/
namespace LC
open PySem PySem.Spec PyProof.Rows L2
section
variable {K : PySem.W.Frag} {mg : Str → Option Value} {io : Pl} {N : Nat} {H : Hp}
theorem strs_rep : ∀ {ds : List D} {vs : List V} {ns : List Str}, asStrs ds = some ns → RepVs K mg io N H ds vs → vs = ns.map V.str
  | [], vs, ns, e, r => by cases (show vs = [] from r); cases e; rfl
  | d :: ds, vs, ns, e, r => by
    obtain ⟨v, us, rfl, h1, h2⟩ := r
    cases d with
    | str i =>
      cases (show v = .str i from h1)
      unfold asStrs at e
      cases z : asStrs ds with
      | none => rw [z] at e; cases e
      | some ms => rw [z] at e; cases e; rw [strs_rep z h2]; rfl
    | _ => cases e
end
theorem insI_perm (x : Int) : ∀ ys : List Int, (insI x ys).Perm (x :: ys)
  | [] => List.Perm.refl _
  | y :: ys => by
    unfold insI
    split
    · exact List.Perm.refl _
    · exact ((insI_perm x ys).cons y).trans (List.Perm.swap x y ys)
theorem sortI_perm : ∀ xs : List Int, (sortI xs).Perm xs
  | [] => List.Perm.refl _
  | x :: xs => (insI_perm x (sortI xs)).trans ((sortI_perm xs).cons x)
theorem insI_sorted (x : Int) : ∀ {ys : List Int}, ys.Pairwise (· ≤ ·) → (insI x ys).Pairwise (· ≤ ·)
  | [], _ => by simp [insI]
  | y :: ys, h => by
    have h' := List.pairwise_cons.mp h
    unfold insI
    split
    · rename_i hx
      refine List.pairwise_cons.mpr ⟨fun z hz => ?_, h⟩
      rcases List.mem_cons.mp hz with rfl | hz
      · exact hx
      · exact Int.le_trans hx (h'.1 z hz)
    · rename_i hx
      refine List.pairwise_cons.mpr ⟨fun z hz => ?_, insI_sorted x h'.2⟩
      rcases List.mem_cons.mp ((insI_perm x ys).mem_iff.mp hz) with rfl | hz
      · omega
      · exact h'.1 z hz
theorem sortI_sorted : ∀ xs : List Int, (sortI xs).Pairwise (· ≤ ·)
  | [] => List.Pairwise.nil
  | x :: xs => insI_sorted x (sortI_sorted xs)
theorem sorted_uniq : ∀ {xs ys : List Int}, xs.Perm ys → xs.Pairwise (· ≤ ·) → ys.Pairwise (· ≤ ·) → xs = ys
  | [], ys, p, _, _ => by rw [List.Perm.nil_eq p]
  | x :: xs, [], p, _, _ => absurd p.length_eq (by simp)
  | x :: xs, y :: ys, p, h1, h2 => by
    have a := List.pairwise_cons.mp h1
    have b := List.pairwise_cons.mp h2
    have e : x = y := by
      have m1 : x ∈ y :: ys := p.mem_iff.mp (by simp)
      have m2 : y ∈ x :: xs := p.mem_iff.mpr (by simp)
      rcases List.mem_cons.mp m1 with e | m1
      · exact e
      · rcases List.mem_cons.mp m2 with e | m2
        · exact e.symm
        · have := b.1 x m1
          have := a.1 y m2
          omega
    subst e
    rw [sorted_uniq ((List.perm_cons x).mp p) a.2 b.2]
section
variable {X : Cx} {a b : Expr} {ma mb : Env → M D} {pos apos p1 p2 p3 : Pos}
theorem cb_sorted : CallR X (.builtin "sorted") (rCB X.K X.mg bSorted) := by
  intro pins s st H xs us Q I r ⟨io, m, ps, S, hp, h⟩
  unfold bSorted at h
  split at h <;> first | exact h.elim | skip
  rename_i d
  obtain ⟨v, rfl, hv⟩ := rep1 hp
  split at h <;> first | exact h.elim | skip
  rename_i ys e
  obtain ⟨a, vs, rfl, q1, r1⟩ := topLst S hv e
  split at h <;> first | exact h.elim | skip
  rename_i ns e2
  have ev := ints_rep e2 r1
  subst ev
  refine cr_sortedI pins s st H _ us Q I r ⟨a, ns, rfl, SqL.of q1, fun ns' p hperm hs hp => ?_⟩
  have : ns' = sortI ns := sorted_uniq (hperm.trans (sortI_perm ns).symm) hs (sortI_sorted ns)
  subst this
  exact WV.frozen h S hp (repLst S hp (RepVs.ints _))
theorem se_jn (ha : PE X a (tM X.K X.mg ma)) (hb : PE X b (tM X.K X.mg mb)) (hn : nsup a = true) (hs : nst b = true) (hl : (apos.endLine == pos.line) = true) :
    PE X (.Call (.Attribute a "join" apos) [b] [] pos) (tM X.K X.mg fun r => bnd (ma r) fun p => bnd (mb r) fun q => opJoin p q) :=
  PE.mono (pe_join ha hb (by cases b <;> first | rfl | cases hs) (base_nsup hn) hl) fun st H Q ⟨io, r, m, s, h⟩ => tM.bind s h fun io1 H1 m1 p x e1 s1 r1 h1 => by
    have one : ∀ {p : D} {z : Str} {io2 : Pl} {m2 : Sto} {H2 : Hp} {q : D} {y : V}, p = .str z → Ext io m.length H io2 m2.length H2 → S0 X.K X.mg io2 r m2 st H2 → RepV X.K X.mg io2 m2.length H2 q y → Post (opJoin p q m2) (WV X.K X.mg io m H Q) →
        ∃ (a : Str) (p : Addr) (ys : List Str), V.str z = .str a ∧ [y] = [V.ref p] ∧ (SqL X.K H2 p (ys.map V.str) ∨ SqT X.K H2 p (ys.map V.str)) ∧ (ys.map (·.length)).sum + ys.length * a.length ≤ 16777216 ∧ Q (.str (Txt.join a ys)) H2 := by
      intro p z io2 m2 H2 q y ep e2 s2 r2 h2
      subst ep
      unfold opJoin at h2
      dsimp only at h2
      have fin : ∀ (xs : List D) (vs : List V) (c : Addr), y = .ref c → (SqL X.K H2 c vs ∨ SqT X.K H2 c vs) → RepVs X.K X.mg io2 m2.length H2 xs vs → Post (joinD z xs m2) (WV X.K X.mg io m H Q) → ∃ (a : Str) (p : Addr) (ys : List Str), V.str z = .str a ∧ [y] = [V.ref p] ∧ (SqL X.K H2 p (ys.map V.str) ∨ SqT X.K H2 p (ys.map V.str)) ∧ (ys.map (·.length)).sum + ys.length * a.length ≤ 16777216 ∧ Q (.str (Txt.join a ys)) H2 := by
        intro xs vs c ec q1 rr h3
        unfold joinD at h3
        split at h3 <;> first | exact h3.elim | skip
        rename_i ys e
        have ev := strs_rep e rr
        subst ev
        split at h3 <;> first | exact h3.elim | skip
        rename_i hz
        refine ⟨z, c, ys, rfl, by rw [ec], q1, of_decide_eq_true hz, ?_⟩
        rw [TL.join_eq]
        exact (show WV X.K X.mg io m H Q (.str (Str.join z ys)) m2 from h3) io2 H2 _ e2 s2.s rfl
      split at h2 <;> first | exact h2.elim | skip
      · rename_i xs e
        obtain ⟨c, vs, rfl, q1, rr⟩ := topLst s2.s r2 e
        exact fin xs vs c rfl (.inl (SqL.of q1)) rr h2
      · rename_i xs e
        rw [top_tup e] at r2
        obtain ⟨c, vs, rfl, q1, rr⟩ := r2
        exact fin xs vs c rfl (.inr q1) rr h2
    cases p with
    | str z =>
      cases (show x = .str z from r1)
      exact ⟨⟨z, rfl⟩, tM.bind s1 h1 fun io2 H2 m2 q y e2 s2 r2 h2 => one rfl (e1.trans e2) s2 r2 h2⟩
    | _ =>
      exfalso
      have h2 := Post.of_bnd h1
      cases e : mb r m1 with
      | ok q m2 => rw [e] at h2; exact (show False from h2).elim
      | exc C fs m2 => rw [e] at h2; exact (show False from h2).elim
      | bad => rw [e] at h2; exact (show False from h2).elim
theorem rgOk_of {a b : Int} (h : rgOk a b = true) : RgOk a b := by
  have := of_decide_eq_true h
  unfold LIM at this
  exact ⟨this.1, this.2.1, this.2.2.1, this.2.2.2.1, by omega⟩
theorem rng_rep {io : Pl} {N : Nat} {H : Hp} {a b : Int} {K : PySem.W.Frag} {mg : Str → Option Value} : RepVs K mg io N H (rngL a b) (rgV a b) := by
  have e1 : rngL a b = ((List.range (b - a).toNat).map fun k => a + ((k : Nat) : Int)).map D.int := by simp [rngL]
  have e2 : rgV a b = ((List.range (b - a).toNat).map fun k => a + ((k : Nat) : Int)).map V.int := by simp [rgV]
  rw [e1, e2]
  exact RepVs.ints _
theorem se_rl {mu : Bool} (hc : X.calm = true) (hg : Gl X "list") (hm : X.mg "list" = none) (hg2 : Gl X "range") (hm2 : X.mg "range" = none) (hs : nst a = true) (ha : PE X a (tM X.K X.mg ma)) :
    PE X (.Call (.Name "list" p1) [.Call (.Name "range" p2) [a] [] p3] [] pos) (tM X.K X.mg fun r => bnd (ma r) (opRg1 mu)) :=
  PE.mono (pe_listRg hc hg hm (prg_1 hg2 hm2 ha (each_nst hs))) fun st H Q ⟨io, r, m, s, h⟩ => tM.bind s h fun io1 H1 m1 p x e1 s1 r1 h1 => by
    unfold opRg1 at h1
    split at h1 <;> first | exact h1.elim | skip
    rename_i j
    cases repInt r1
    unfold mkRg at h1
    split at h1 <;> first | exact h1.elim | skip
    rename_i ok
    exact ⟨j, rfl, rgOk_of ok, fun q hq => Post.lst (WVpost.from e1 h1) s1.s hq rng_rep⟩
theorem se_rl2 {mu : Bool} (hc : X.calm = true) (hg : Gl X "list") (hm : X.mg "list" = none) (hg2 : Gl X "range") (hm2 : X.mg "range" = none) (hs : nst a = true) (hs2 : nst b = true) (ha : PE X a (tM X.K X.mg ma)) (hb : PE X b (tM X.K X.mg mb)) :
    PE X (.Call (.Name "list" p1) [.Call (.Name "range" p2) [a, b] [] p3] [] pos) (tM X.K X.mg fun r => bnd (ma r) fun p => bnd (mb r) fun q => opRg2 mu p q) :=
  PE.mono (pe_listRg hc hg hm (prg_2 hg2 hm2 ha hb (each_nst hs) (each_nst hs2) (nst_none (by rw [List.all_cons, hs2]; rfl)))) fun st H Q ⟨io, r, m, s, h⟩ => tM.bind s h fun io1 H1 m1 p x e1 s1 r1 h1 => tM.bind s1 h1 fun io2 H2 m2 q y e2 s2 r2 h2 => by
    unfold opRg2 at h2
    split at h2 <;> first | exact h2.elim | skip
    rename_i i j
    cases repInt r1
    cases repInt r2
    unfold mkRg at h2
    split at h2 <;> first | exact h2.elim | skip
    rename_i ok
    exact ⟨i, j, rfl, rfl, rgOk_of ok, fun q hq => Post.lst (WVpost.from (e1.trans e2) h2) s2.s hq rng_rep⟩
theorem find_rep {io : Pl} {N : Nat} {H : Hp} {K : PySem.W.Frag} {mg : Str → Option Value} {d : D} {v : V} (hd : d.flat = true) (q : RepV K mg io N H d v) : ∀ {ds : List D} {vs : List V} {k : Nat}, ds.all D.flat = true → RepVs K mg io N H ds vs → findD d ds = some k →
    ∃ z, vs[k]? = some z ∧ eqV z v = true ∧ ∀ (m : Nat) (z' : V), m < k → vs[m]? = some z' → eqV z' v = false
  | [], vs, k, _, _, e => by cases e
  | x :: xs, vs, k, h, r, e => by
    rw [List.all_cons, Bool.and_eq_true] at h
    obtain ⟨u, us, rfl, h1, h2⟩ := r
    have eu := eqF_rep h.1 hd h1 q
    unfold findD at e
    split at e
    · rename_i he
      cases e
      exact ⟨u, rfl, by rw [eu]; exact he, fun m z' hm _ => absurd hm (Nat.not_lt_zero _)⟩
    · rename_i he
      cases e2 : findD d xs with
      | none => rw [e2] at e; cases e
      | some j =>
        rw [e2] at e
        cases e
        obtain ⟨z, z1, z2, z3⟩ := find_rep hd q h.2 h2 e2
        refine ⟨z, by simpa using z1, z2, fun m z' hm hz => ?_⟩
        cases m with
        | zero =>
          simp at hz
          subst hz
          rw [eu]
          simpa using he
        | succ m => exact z3 m z' (by have hm : m + 1 < j + 1 := hm; omega) (by simpa using hz)
theorem se_li (ha : PE X a (tM X.K X.mg ma)) (hb : PE X b (tM X.K X.mg mb)) (hn : nsup a = true) (hs : nst b = true) (hl : (apos.endLine == pos.line) = true) :
    PE X (.Call (.Attribute a "index" apos) [b] [] pos) (tM X.K X.mg fun r => bnd (ma r) fun p => bnd (preT p) fun _ => bnd (mb r) fun q => opIdx p q) := by
  have hs' : [b].all nst = true := by rw [List.all_cons, hs]; rfl
  refine PE.mono (pe_bm PySem.F.plainAttrs_list PySem.F.slot_list_index PySem.F.type_list_index mt_index ha (pa_cons hb pa_nil (each_nst hs)) (base_nsup hn) (by
      rw [nst_all hs']
      rfl) hl (each_nst hs) rfl) fun st H Q ⟨io, r, m, s, h⟩ => tM.bind s h fun io1 H1 m1 p x e1 s1 r1 h1 => ?_
  have h1 := Post.of_bnd h1
  unfold preT at h1
  split at h1 <;> first | exact h1.elim | skip
  rename_i xs0 e0
  obtain ⟨c0, vs0, ex, q0, _⟩ := topLst s1.s r1 e0
  subst ex
  refine ⟨.inl ⟨rfl, vs0, SqL.of q0⟩, ?_⟩
  refine tM.bind s1 (show Post (bnd (mb r) (fun q => opIdx p q) m1) _ from h1) fun io2 H2 m2 q y e2 s2 r2 h2 => ?_
  unfold opIdx at h2
  split at h2 <;> first | exact h2.elim | skip
  rename_i xs e
  obtain ⟨c, vs, ec, q1, rr⟩ := topLst s2.s (r1.keep s1.s e2) e
  split at h2 <;> first | exact h2.elim | skip
  rename_i hf
  rw [Bool.and_eq_true] at hf
  split at h2 <;> first | exact h2.elim | skip
  rename_i k ek
  obtain ⟨z, z1, z2, z3⟩ := find_rep hf.1 r2 hf.2 rr ek
  refine ⟨c, vs, y, k, z, ec, rfl, SqL.of q1, flat_rep hf.1 r2, flats_rep hf.2 rr, z1, z2, z3, ?_⟩
  exact (show WV X.K X.mg io m H Q (.int (k : Nat)) m2 from h2) io2 H2 _ (e1.trans e2) s2.s rfl
end
end LC

/-! # LcO3: enumerate over a tuple, o[i] op= e -/
namespace PySem
open AutoSeq1 (wpAny_loadPart')
set_option maxHeartbeats 4000000 in
theorem meets_enumerate_newB1 {v : Value} {o : Obj} {H : Heap → Prop} (B : Begins v o H) :
    Meets (Builtin.«enumerate.__new__» ⟨[.type "enumerate", v], []⟩) (fun _ R s => H s.heap ∧
      R (.ok (.ret (.ref (s.heap.push o).objs.size))) { s with heap := (s.heap.push o).push { cls := .type "enumerate", data := .fields #[.none, .bool false, .ref s.heap.objs.size, rawInt 0, .none, .none] } }) :=
  .of_wp fun prog w A R s h => by
    obtain ⟨hp, g, d, tk, os⟩ := s; obtain ⟨h1, h⟩ := h
    have hsub := sub_enumerate
    have q1 : ∀ {A' : Around} {E : Value → Shared → Prop} {Q : Value → Shared → Prop}, Q (.ref hp.objs.size) ⟨hp.push o, g, d, tk, os⟩ → wpAny (model prog w) A' (pyIter v) Q E ⟨hp, g, d, tk, os⟩ :=
      fun q => B.iter prog w _ _ ⟨hp, g, d, tk, os⟩ _ h1 q
    wp_walk using q1
    refine wpAny_stack_any fun st => wpAny_pure ?_
    split
    · rename_i c _ _ _ _ _
      cases (c == Value.type "enumerate")
      · wp_walk using q1
        exact ⟨_, rfl, h⟩
      · wp_walk using q1
        exact ⟨_, rfl, h⟩
    · wp_walk using q1
      exact ⟨_, rfl, h⟩
theorem enum_begins1 {prog : Program} {w : World} {A : Around} {E : Value → Shared → Prop} {s : Shared} {v : Value} {o : Obj} {H : Heap → Prop} {Q : Value → Shared → Prop} (B : Begins v o H) (h1 : H s.heap)
    (h : ∀ h', IsEnum h' (s.heap.objs.size + 1) s.heap.objs.size 0 .none → h'.get? s.heap.objs.size = some o → h'.objs.size = s.heap.objs.size + 2 →
      (∀ b o, s.heap.get? b = some o → h'.get? b = some o) → Q (.ref (s.heap.objs.size + 1)) { s with heap := h' }) :
    wpAny (model prog w) A (call (.type "enumerate") [v]) Q E s := by
  refine callType_new F.called_enumerate (by decide) (F.typeCall_enumerate_1 _) (F.newCall_enumerate_1 _) (fun obj => F.args_object_init_2 obj _) F.entry_enumerate_new
    (meets_enumerate_newB1 B) ⟨h1, ?_⟩
  have hz : (s.heap.push o).objs.size = s.heap.objs.size + 1 := Heap.size_push ..
  show _ ∧ _
  rw [hz]
  have he : IsEnum ((s.heap.push o).push { cls := .type "enumerate", data := .fields #[.none, .bool false, .ref s.heap.objs.size, rawInt 0, .none, .none] }) (s.heap.objs.size + 1) s.heap.objs.size 0 .none := by
    have := Heap.get?_push_size (s.heap.push o) (o := { cls := .type "enumerate", data := .fields #[.none, .bool false, .ref s.heap.objs.size, rawInt 0, .none, .none] }) rfl
    rw [hz] at this; exact this
  refine ⟨⟨_, he, rfl⟩, h _ he (Heap.get?_push_of_some _ (Heap.get?_push_size _ B.free)) (by rw [Heap.size_push, hz]) fun b o x => Heap.get?_push_of_some _ (Heap.get?_push_of_some _ x)⟩
end PySem
namespace LC
open PySem PySem.Spec PyProof.Rows L2
/-- the tuple at a, each item in a new pair -/
def IteT (K : PySem.W.Frag) (a : Addr) : It :=
  ⟨fun i H => ∃ (xs : List V) (x : V), SqT K H a xs ∧ xs[i]? = some x, fun i H v H' => ∃ T x, v = .ref T ∧ H T = none ∧ H' = upd H T (.tup [.int (i : Nat), x]) ∧ ∀ xs, SqT K H a xs → xs[i]? = some x, fun i H => ∃ xs : List V, SqT K H a xs ∧ xs.length ≤ i⟩
theorem turn_enumT {P : Program} {w : World} {K : PySem.W.Frag} {elts : List Expr} {kk : Nat} {tpos : Pos} (a e it : Addr) :
    Turn P w K (.Tuple elts kk tpos) (IteT K a) [e, it] e (fun i h => (∃ old, IsEnum h e it ((i : Nat) : Int) old) ∧ h.IsTupleIter it a i ∧ e ≠ it) where
  mem := by simp
  obj := fun i h st b hb => by
    obtain ⟨⟨old, he⟩, ⟨o, ho, hc, hd⟩, _⟩ := st
    have e' : b = e ∨ b = it := by simpa using hb
    rcases e' with z | z
    · rw [z]; exact ⟨_, he, fun v q => nomatch q⟩
    · rw [z]; exact ⟨o, ho, fun v q => by rw [hd] at q; cases q⟩
  keep := fun i h h' st k => let ⟨⟨old, he⟩, hi, hne⟩ := st; ⟨⟨old, k e (by simp) _ he⟩, hi.at fun o q => k it (by simp) o q, hne⟩
  item := by
    intro X hP hw hK hc i pins s σ H E I hf st hg
    subst hP hw hK
    obtain ⟨⟨old, he⟩, hit, hne⟩ := st
    obtain ⟨xs, x, hq, hx⟩ := hg
    obtain ⟨its, rv, p, hz⟩ := I.tuple hq
    obtain ⟨u, hu, ru⟩ := rv.get hx
    have hel : e < s.heap.objs.size := Heap.lt_size he
    have hil : it < s.heap.objs.size := by obtain ⟨_, q, _⟩ := hit; exact Heap.lt_size q
    have hia : a ≠ it := by
      intro z
      obtain ⟨o1, q1, c1, _⟩ := hit
      obtain ⟨o2, q2, c2, _⟩ := p
      rw [z, q1] at q2
      cases q2
      rw [c1] at c2
      exact absurd (Value.type.inj c2) (by decide)
    have hea : a ≠ e := by
      intro z
      obtain ⟨o2, q2, c2, _⟩ := p
      rw [z] at q2
      rw [show s.heap.get? e = some _ from he] at q2
      cases q2
      exact absurd (Value.type.inj c2) (by decide)
    have hsz : i < its.toArray.size := by
      have := (List.getElem?_eq_some_iff.mp hu).1
      simpa using this
    refine wpAny_pyNext_enum_itemD (Draws.tuple (A := X.A.in1) (show X.A.in1.handled = none from I.ok.hd hc) it a hia its.toArray) he ⟨hit, p⟩ hsz hne (by simp [hne, Ne.symm hea]) fun x' h' tk hx' ho hit' hT hsz hk => ?_
    have ex : x' = u := by
      have : its.toArray[i]? = some u := by simpa using hu
      rw [this] at hx'
      exact (Option.some.inj hx').symm
    subst ex
    refine ⟨_, rfl, wpAny_letOwnedTupleGo_enum (s := { s with heap := h', toks := tk + 1 }) ho fun h'' he' sb => ?_⟩
    have hT2 : h''.get? s.heap.objs.size = some { cls := .type "tuple", data := .seq #[.int i tk, x'] } := (sb.2 _ (Nat.ne_of_gt hel)).trans hT
    have new : ObjOk X.prog X.w (upd H s.heap.objs.size (.tup [.int (i : Nat), x])) h'' s.heap.objs.size (.tup [.int (i : Nat), x]) :=
      ⟨by show 2 ≤ sizeLine; decide, [.int i tk, x'], .cons ⟨_, rfl⟩ (.cons ru .nil), ⟨_, hT2, rfl, _, rfl⟩⟩
    have I1 : Inv X pins σ (upd H s.heap.objs.size (.tup [.int (i : Nat), x])) { s with heap := h'', toks := tk + 1 } :=
      I.turnedNew (ch := [e, it]) (fun b ob hb q => (sb.2 b (fun z => hb (by simp [z]))).trans (hk b ob (fun z => hb (by simp [z])) (fun z => hb (by simp [z])) q)) hf (Nat.le_refl _) new
    refine ⟨.ref s.heap.objs.size, _, I1, rfl, ⟨_, x, rfl, I.hok.fresh (Nat.le_refl _), rfl, fun ys hy => by rw [I.tuple_inj hy hq]; exact hx⟩, ⟨⟨x', ?_⟩, hit'.1.at fun o q => (sb.2 it (Ne.symm hne)).trans q, hne⟩, fun b hb => ?_⟩
    · have e1 : ((i + 1 : Nat) : Int) = (i : Int) + 1 := by omega
      rw [e1]; exact he'
    · have hb' : b < s.heap.objs.size := by
        have e' : b = e ∨ b = it := by simpa using hb
        rcases e' with z | z
        · rw [z]; exact hel
        · rw [z]; exact hil
      rw [upd_ne (Nat.ne_of_lt hb')]
      exact (hf b hb).1
  done := by
    intro X hP hw hK hc i pins s σ H E I hf st hg
    subst hP hw hK
    obtain ⟨⟨old, he⟩, hit, hne⟩ := st
    obtain ⟨xs, hq, hx⟩ := hg
    obtain ⟨its, rv, p, hz⟩ := I.tuple hq
    obtain ⟨f0, f1, f2, f3, f4, f5⟩ := hf it (by simp)
    have hl := rv.length
    have hT : s.TypeIs (.ref e) "enumerate" := ⟨_, he, rfl⟩
    unfold pyNext
    refine wpAny_bind (wpAny_attempt (wpAny_callSpecial?_slot (name := Str.ofString "__next__") hT F.slot_enumerate_next
      (wpAny_call_entry F.slot_enumerate_next hT F.entry_enumerate_next ?_ (F.args_enumerate_next_1 _))))
    show wpAny _ _ (field (.ref e) 2 >>= _) _ _ _
    refine wpAny_bind (wpAny_field he rfl (x := .ref it) rfl ?_)
    refine wpAny_bind (wpAny_nextOf_tuple_end (I.ok.hd hc) hit p (by simp; omega) fun h' x he' hx' => ?_)
    obtain ⟨o, ho, hc⟩ := hx'
    refine wpAny_bind (wpAny_isInstance (T := "StopIteration") (b := true) ⟨o, ho, hc⟩ isSubtype_stop ?_)
    exact wpAny_pure ⟨rfl, I.turned (t' := s.toks) (fun b o hb q => he' b o hb q) f0 f1 f3 f4 f5⟩
  self := fun A i s Q E st h => let ⟨⟨_, he⟩, _⟩ := st; wpAny_pyIter_enum he h
def iEnumT (K : PySem.W.Frag) (ta : TA) : TI := fun σ H R => ta σ H fun vs H1 => ∃ a xs, vs = [.ref a] ∧ ((SqL K H1 a xs ∧ R (Ite K a) H1) ∨ (SqT K H1 a xs ∧ R (IteT K a) H1))
theorem pi_enumT {X : Cx} {e : Expr} {ta : TA} {p pos tpos : Pos} {elts : List Expr} {kk : Nat} (hg : Gl X "enumerate") (hm : X.mg "enumerate" = none) (ha : PA X [e] ta) (hs : starEach [e] X.env = [(false, eval e X.env)] := by rfl) :
    PI X (.Tuple elts kk tpos) (.Call (.Name "enumerate" p) [e] [] pos) (iEnumT X.K ta) := by
  refine ⟨fun pins s σ H R I h => ?_⟩
  refine Call_ (ld_blt I hg hm boot_enumerate (PyProof.Rows.callWith_type1 (thn (ha.run pos pins s σ H _ I h) fun us s1 ⟨vs, H1, I1, r1, q1⟩ => ?_) hs rfl))
  obtain ⟨a, xs, ex, q1⟩ := q1
  subst ex
  cases r1 with
  | cons r rr =>
    cases rr
    cases r
    rcases q1 with ⟨hq, q⟩ | ⟨hq, q⟩
    · obtain ⟨its, rv, p', hz⟩ := I1.list hq
      refine call_enumerate_list p'.isList fun h' he hit hsz hk => wpAny_pyIter_enum he ?_
      have I2 : Inv X pins σ H1 { s1 with heap := h' } := I1.kept (t' := s1.toks) hk
      refine ⟨s1.heap.objs.size + 1, [s1.heap.objs.size + 1, s1.heap.objs.size], _, _, H1, rfl, I2, turn_enum a (s1.heap.objs.size + 1) s1.heap.objs.size, ⟨⟨.none, he⟩, hit, Nat.succ_ne_self _⟩, fun b hb => ?_, q⟩
      have e' : b = s1.heap.objs.size + 1 ∨ b = s1.heap.objs.size := by simpa using hb
      have hle : s1.heap.objs.size ≤ b := by
        rcases e' with z | z
        · rw [z]; exact Nat.le_add_right _ _
        · rw [z]; exact Nat.le_refl _
      exact I1.fpOk hle (I1.hok.fresh hle)
    · obtain ⟨its, rv, p', hz⟩ := I1.tuple hq
      refine enum_begins1 (begins_tuple a its.toArray) p' fun h' he hit hsz hk => wpAny_pyIter_enum he ?_
      have I2 : Inv X pins σ H1 { s1 with heap := h' } := I1.kept (t' := s1.toks) hk
      refine ⟨s1.heap.objs.size + 1, [s1.heap.objs.size + 1, s1.heap.objs.size], _, _, H1, rfl, I2, turn_enumT a (s1.heap.objs.size + 1) s1.heap.objs.size, ⟨⟨.none, he⟩, ⟨_, hit, rfl, rfl⟩, Nat.succ_ne_self _⟩, fun b hb => ?_, q⟩
      have e' : b = s1.heap.objs.size + 1 ∨ b = s1.heap.objs.size := by simpa using hb
      have hle : s1.heap.objs.size ≤ b := by
        rcases e' with z | z
        · rw [z]; exact Nat.le_add_right _ _
        · rw [z]; exact Nat.le_refl _
      exact I1.fpOk hle (I1.hok.fresh hle)
section
variable {K : PySem.W.Frag} {mg : Str → Option Value} {io : Pl} {m : Sto} {H : Hp} {J : It}
theorem walk_enumT {K : PySem.W.Frag} {a : Addr} {xs : List V} : Walk (IteT K a) xs.length (fun H => SqT K H a xs) (YPair (fun i => some (.int (i : Nat))) (fun i => xs[i]?)) := by
  refine ⟨fun i _ hi q => ⟨xs, xs[i], q, by simp [hi]⟩, fun _ q => ⟨xs, q, Nat.le_refl _⟩, fun i H v H' _ q y => ?_⟩
  obtain ⟨T, x, h1, h2, h3, h4⟩ := y
  exact ⟨T, .int (i : Nat), x, h1, h2, h3, rfl, h4 xs q⟩
theorem SrcOk.fixE {ds : List D} {vs : List V} {G : Hp → Prop} (S : SRel K mg io m H) (hl : RepVs K mg io m.length H ds vs) (w : Walk J vs.length G (YPair (fun i => some (.int (i : Nat))) (fun i => vs[i]?)))
    (hG : ∀ io' N' H', ExtW io m.length H io' N' H' → G H') : SrcOk K mg io m H J (.fix ((List.range ds.length).zip ds |>.map fun p => .tup [.int (p.1 : Nat), p.2])) := by
  intro io' m' H' x S'
  have g := hG io' _ H' x
  have hlen : ((List.range ds.length).zip ds |>.map fun p => D.tup [.int (p.1 : Nat), p.2]).length = vs.length := by rw [List.length_map, List.length_zip, List.length_range, Nat.min_self, hl.length]
  rw [hlen]
  refine ⟨fun i hi => w.goes i H' hi g, w.stops H' g, fun i y H'' hi hy => ?_⟩
  obtain ⟨T, a, b, rfl, h1, rfl, h2, h3⟩ := w.yields i H' y H'' hi g hy
  cases h2
  obtain ⟨d, e1, r1⟩ := (RepVs.keepW S x _ _ hl).getV h3
  refine ⟨.tup [.int (i : Nat), d], ?_, LC.Ext.new h1, S'.new h1, T, [.int (i : Nat), b], rfl, .inl (.inl upd_same), ?_⟩
  · have hi' : i < ds.length := by rw [hl.length]; exact hi
    rw [List.getElem?_map, show ((List.range ds.length).zip ds)[i]? = some (i, d) from List.getElem?_zip_eq_some.mpr ⟨List.getElem?_range hi', e1⟩]
    rfl
  · exact ⟨.int (i : Nat), [b], rfl, rfl, b, [], rfl, r1.keep S' (LC.Ext.new h1), rfl⟩
end
section
variable {X : Cx} {a b e : Expr} {ma mb mc : Env → M D} {ml : Env → M (List D)} {pos np tpos : Pos}
theorem si_enum {elts : List Expr} {kk : Nat} (hg : Gl X "enumerate") (hm : X.mg "enumerate" = none) (hn : nst a = true) (hl : PA X [a] (tL X.K X.mg ml)) : PI X (.Tuple elts kk tpos) (.Call (.Name "enumerate" np) [a] [] pos) (tQ X.K X.mg fun r => bnd (ml r) srcE) :=
  PI.mono (pi_enumT hg hm hl (each_nst hn)) fun st H R ⟨io, r, m, s, h⟩ => tL.bind s h fun io1 H1 m1 p x e1 s1 r1 h1 => by
    unfold srcE at h1
    split at h1 <;> first | exact h1.elim | skip
    · obtain ⟨v, rfl, hv⟩ := rep1 r1
      obtain ⟨c, vs, rfl, q, rv⟩ := hv
      exact ⟨c, vs, rfl, .inr ⟨q, h1 io1 H1 _ e1 s1.s (SrcOk.fixE s1.s rv walk_enumT fun io' N' H' x => SqT.keepW s1.s x q)⟩⟩
    · obtain ⟨v, rfl, hv⟩ := rep1 r1
      obtain ⟨c, vs, rfl, q, nw, rv⟩ := hv
      exact ⟨c, vs, rfl, .inl ⟨SqL.of q, h1 io1 H1 _ e1 s1.s (SrcOk.fixE s1.s rv walk_enum fun io' N' H' x => SqL.of (x.kp _ _ q nw))⟩⟩
theorem pget_list : PGet X (rIxL X.K) := by
  intro pins s σ H x y v u Q I rx ry h
  obtain ⟨p, xs, i, z, rfl, rfl, hq, he, q⟩ := h
  cases rx
  obtain ⟨t, rfl⟩ := ry
  obtain ⟨its, r, pl, hz⟩ := I.list hq
  obtain ⟨j, h1, h2, h3, h4, h5⟩ := L2.atI_get he
  obtain ⟨w, ew, rw'⟩ := r.get h2
  have hl := r.length
  have hn := line63
  have fin : EP X pins σ Q w s := ⟨z, H, I, rw', q⟩
  by_cases h0 : 0 ≤ i
  · have hj : i.toNat = j := by
      rw [seqIndex_of h0 h5] at h1
      exact Option.some.inj h1
    exact wpAny_getItem_list pl.isList h0 (by omega) (by rw [hj]; simpa using ew) fin
  · have hj : (i + (its.toArray.size : Int)).toNat = j := by
      rw [seqIndex_neg (by omega) h4] at h1
      rw [List.size_toArray, ← hl]
      exact Option.some.inj h1
    exact wpAny_getItem_list_neg pl.isList (by omega) (by rw [List.size_toArray] <;> omega) (by omega) (by rw [hj]; simpa using ew) fin
theorem get_any : PGet X (rOp X.K X.mg opGet) := fun pins s st H x y v u Q I rx ry ⟨io, m, p, q, S, hp, hq, h⟩ => by
  unfold opGet at h
  split at h <;> first | exact h.elim | skip
  rename_i j i
  split at h <;> first | exact h.elim | skip
  rename_i xs e
  obtain ⟨hj, rfl⟩ := hp
  subst hq
  obtain ⟨vs, h1, r⟩ := S.ob j _ e
  obtain ⟨d, e2, h⟩ := oOut_post h
  obtain ⟨w, e3, rw⟩ := atI_rep r e2
  exact pget_list pins s st H _ _ v u Q I rx ry ⟨io j, vs, i, w, rfl, rfl, SqL.of h1, e3, WV.here h S rw⟩
theorem s_augs {o : Operator} (ha : PE X a (tM X.K X.mg ma)) (hb : PE X b (tM X.K X.mg mb)) (he : PE X e (tM X.K X.mg mc)) (hs : nsl b = true) :
    PS X (.AugAssign (.Subscript a b tpos) o e pos) (tS X.K X.mg fun r => bnd (ma r) fun p => bnd (mb r) fun q => bnd (opGet p q) fun u => bnd (mc r) fun w => bnd (opAug o u w) fun h => bnd (opSet p q h) fun _ => LC.ret (.nx r)) :=
  PS.mono (ps_augS ha hb get_any he aug_any set_any (by cases b <;> first | (intros; rfl) | cases hs)) fun Ds st H ⟨io, r, m, s, h⟩ =>
    tM.bind s h fun io1 H1 m1 p x e1 s1 r1 h1 => tM.bind s1 h1 fun io2 H2 m2 q y e2 s2 r2 h2 => by
      refine rOp.mk s2.s (r1.keep s1.s e2) r2 ((Post.of_bnd h2).mono fun u m3 h3 io3 H3 z e3 S3 r3 => ?_)
      have s3 := s2.next e3 S3
      refine tM.bind s3 h3 fun io4 H4 m4 w t e4 s4 r4 h4 => ?_
      refine rOp.mk s4.s (r3.keep S3 e4) r4 ((Post.of_bnd h4).mono fun g m5 h5 io5 H5 k e5 S5 r5 => ?_)
      refine ⟨io5, m5, p, q, g, S5, (((r1.keep s1.s e2).keep s2.s e3).keep S3 e4).keep s4.s e5, ((r2.keep s2.s e3).keep S3 e4).keep s4.s e5, r5, (Post.of_bnd h5).mono fun _ m6 h6 H6 e6 S6 => ?_⟩
      exact (show WF X.K X.mg io m H Ds (.nx r) m6 from h6) io5 _ H6 (((((e1.trans e2).trans e3).trans e4).trans e5).trans e6) S6 ((s4.e.keep s4.s e5).keep S5 e6)
end
end LC

/-! # LcP: the written text against the terms -/
namespace LC
open PySem PySem.Spec PyProof.Rows L2
/-- the names of a block -/
structure CK where
  N : List Str
  sc : Scope
  fn : Str → Bool
/-- what stands at the top of the program -/
structure GT where
  n : Nat
  fns : List (Str × Nat)
  noG : List Str
  kws : List (Nat × List Str × List Nat)
  cls : List LC.Cls
def isK (c : CK) (x : Str) (k : NameKind) : Bool := c.sc.names.lookup x == some k
def slotC (c : CK) (k : Nat) (x : Str) : Bool := c.N[k]? == some x
def visC (c : CK) (x : Str) : Bool := isK c x .local || isK c x .cell || isK c x .free
def storeC (c : CK) (k : Nat) (x : Str) : Bool := slotC c k x && (isK c x .local || isK c x .cell) && (c.fn x || isK c x .local)
def ndb (x : Str) : Bool := !(x == ("__debug__" : Str))
def globC (c : CK) (x : Str) : Bool := isK c x .globalImplicit && ndb x
def bltC (G : GT) (c : CK) (x : Str) : Bool := globC c x && G.noG.contains x && !(x == ("__name__" : Str))
def B.nm : B → String
  | .len => "len" | .abs => "abs" | .max => "max" | .min => "min" | .sum => "sum" | .all => "all" | .any => "any" | .divmod => "divmod" | .isinst => "isinstance" | .repr => "repr" | .sorted => "sorted"
def Ty.nm : Ty → String
  | .int => "int" | .str => "str" | .bool => "bool" | .tuple => "tuple" | .list => "list"
def Bm.nm : Bm → String
  | .append => "append" | .extend => "extend"
def isBoolOp : Expr → Bool
  | .BoolOp _ _ _ => true
  | _ => false
def nset : Expr → Bool
  | .Set _ _ _ => false
  | _ => true
theorem nset_ok {e : Expr} {env : PySem.Env} (h : nset e = true) : ∀ x, foldedSetIterable e env x = pure x := by
  intro x
  cases e <;> first | rfl | cases h
def isNil : T → Bool
  | .nil => true
  | _ => false
def ownP (c : CK) (own : List Nat) : List (Str × Nat) := own.filterMap fun k => (c.N[k]?).map fun x => (x, k)
def blkK (c : CK) (scope : Scope) : CK := ⟨c.N, relS scope c.sc, fun x => scope.names.lookup x == some .cell⟩
def wOf : T → List Nat
  | .gv k => [k]
  | .gt es => wOf es
  | .cons x y => wOf x ++ wOf y
  | _ => []
/-- the name is stored by the comprehension itself -/
def swapL (c : CK) (x : Str) (py pos : Pos) (scope : Scope) : Bool := isK c x .local && (py.line == pos.line) && !(scope.names.any fun (n, k) => n == x && (k == .local || k == .cell))
def swapC (c : CK) (x : Str) (py : Pos) : Expr → Bool
  | .ListComp _ _ s p => swapL c x py p s
  | .SetComp _ _ _ _ => true
  | .DictComp _ _ _ _ _ => true
  | _ => false
def isStar : Expr → Bool
  | .Starred _ _ => true
  | _ => false
def notLoc (c : CK) : Expr → Bool
  | .Name id _ => !isK c id .local
  | _ => true
/-- no pair of tuples that is stored from the right -/
def noPar (c : CK) : Expr → Expr → Bool
  | .Tuple ts _ _, .Tuple vs _ _ => !(ts.length == 2 || ts.length == 3) || vs.length != ts.length || vs.any isStar || ts.any (notLoc c) || vs.all (foldedForSure 8)
  | .List _ _, .Tuple _ _ _ => false
  | _, _ => true

structure Ck where
  e : CK → Expr → Bool := fun _ _ => false
  t : CK → Expr → Bool := fun _ _ => false
  a : CK → List Expr → Bool := fun _ _ => false
  k : CK → List Keyword → Bool := fun _ _ => false
  j : CK → List Expr → Bool := fun _ _ => false
  q : CK → Expr → Expr → Bool := fun _ _ _ => false
  g : CK → Expr → Bool := fun _ _ => false
  gs : CK → List Expr → Bool := fun _ _ => false
  s : CK → Stmt → Bool := fun _ _ => false
  ss : CK → List Stmt → Bool := fun _ _ => false

def chk (G : GT) : T → Ck
  | .v k => { e := fun c ex => match ex with | .Name x _ => slotC c k x && visC c x && ndb x && !(x == ("__classdict__" : Str)) | _ => false }
  | .g x => { e := fun c ex => match ex with | .Name y _ => decide (x = y) && globC c y | _ => false }
  | .bt x => { e := fun c ex => match ex with | .Name y _ => decide ((x : Str) = y) && bltC G c y && knownTy x | _ => false }
  | .i n => { e := fun c ex => match ex with | .Constant (.int i) _ _ => decide (n = i) | _ => false }
  | .s x => { e := fun c ex => match ex with | .Constant (.str y) _ _ => decide (x = y) | _ => false }
  | .b k => { e := fun c ex => match ex with | .Constant (.bool y) _ _ => decide (k = y) | _ => false }
  | .n => { e := fun c ex => match ex with | .Constant .none _ _ => true | _ => false }
  | .bin mu o x y => { e := fun c ex => match ex with | .BinOp a o' b _ => decide (o = o') && (chk G x).e c a && (chk G y).e c b | _ => false }
  | .neg x => { e := fun c ex => match ex with | .UnaryOp .USub a _ => (chk G x).e c a | _ => false }
  | .cmp o x y => { e := fun c ex => match ex with | .Compare a [o'] [b] _ => decide (o = o') && !behindInMarks o' b && (chk G x).e c a && (chk G y).e c b | _ => false }
  | .chn o o2 x y z => { e := fun c ex => match ex with | .Compare a [o', o2'] [b, d] _ => decide (o = o') && decide (o2 = o2') && !lastMarks [o', o2'] [b, d] && (chk G x).e c a && (chk G y).e c b && (chk G z).e c d | _ => false }
  | .an x y => { e := fun c ex => match ex with
      | .BoolOp .And [a, b] _ => (chk G x).e c a && (chk G y).e c b
      | .BoolOp .And (a :: b :: d :: r) p => (chk G x).e c a && (chk G y).e c (.BoolOp .And (b :: d :: r) p)
      | _ => false }
  | .or x y => { e := fun c ex => match ex with
      | .BoolOp .Or [a, b] _ => (chk G x).e c a && (chk G y).e c b
      | .BoolOp .Or (a :: b :: d :: r) p => (chk G x).e c a && (chk G y).e c (.BoolOp .Or (b :: d :: r) p)
      | _ => false }
  | .nt x => { e := fun c ex => match ex with | .UnaryOp .Not a _ => (chk G x).e c a | _ => false }
  | .ife d x y => { e := fun c ex => match ex with | .IfExp t a b _ => (chk G d).t c t && (chk G x).e c a && (chk G y).e c b | _ => false }
  | .tup es => { e := fun c ex => match ex with | .Tuple l _ _ => (chk G es).a c l | _ => false }
  | .ls mu es => { e := fun c ex => match ex with | .List l _ => (chk G es).a c l | _ => false }
  | .ix x y => { e := fun c ex => match ex with | .Subscript a b _ => nsl b && (chk G x).e c a && (chk G y).e c b | _ => false }
  | .sl mu x lo hi => { e := fun c ex => match ex with
      | .Subscript a (.Slice l u none _) _ => (chk G x).e c a && (match l with | none => isNil lo | some l => !isNil lo && (chk G lo).e c l) && (match u with | none => isNil hi | some u => !isNil hi && (chk G hi).e c u)
      | _ => false }
  | .rv mu x => { e := fun c ex => match ex with | .Subscript a (.Slice none none (some (.UnaryOp .USub (.Constant (.int z) _ _) _)) _) _ => decide (z = 1) && (chk G x).e c a | _ => false }
  | .at f x => { e := fun c ex => match ex with | .Attribute a f' _ => decide (f = f') && nsup a && (chk G x).e c a | _ => false }
  | .fs es => { e := fun c ex => match ex with | .JoinedStr (v1 :: v2 :: r) _ => (chk G es).j c (v1 :: v2 :: r) | _ => false }
  | .fv x => { e := fun c ex => match ex with
      | .FormattedValue a cv none _ => decide (cv = -1) && (chk G x).e c a
      | .JoinedStr [.FormattedValue a cv none _] _ => decide (cv = -1) && (chk G x).e c a
      | _ => false }
  | .lc mu own e g it d => { e := fun c ex => match ex with
      | .ListComp elt [⟨tg, iter, ifs, z⟩] scope _ => decide (z = 0) && nset iter && blkC c.N c.sc scope (ownP c own) && decide ((ownP c own).map (·.2) = own) && ((wOf g).all own.contains) && (chk G it).q c tg iter && (chk G g).g (blkK c scope) tg &&
          (match ifs with | [] => isNil d | [x] => !isNil d && (chk G d).t (blkK c scope) x | _ => false) && (chk G e).e (blkK c scope) elt
      | _ => false }
  | .call k es => { e := fun c ex => match ex with | .Call (.Name x _) l [] _ => globC c x && decide (G.fns.lookup x = some k) && l.all nst && (chk G es).a c l | _ => false }
  | .callk k es ks ws pm => { e := fun c ex => match ex with | .Call (.Name x _) l kw _ => globC c x && decide (G.fns.lookup x = some k) && l.all nst && kw.all (fun k => k.arg.isSome) && decide (kw.filterMap (·.arg) = ks) && decide ((k, ks, pm) ∈ G.kws) && (chk G es).a c l && (chk G ws).k c kw | _ => false }
  | .mk C es => { e := fun c ex => match ex with | .Call (.Name x _) l [] _ => decide (C = x) && globC c x && (match clOf G.cls x with | some d => d.init.isSome | none => false) && l.all nst && (chk G es).a c l | _ => false }
  | .mkk C es ks ws pm => { e := fun c ex => match ex with | .Call (.Name x _) l kw _ => decide (C = x) && globC c x && (match clOf G.cls x with | some d => (match d.init with | some k => decide ((k, ks, pm) ∈ G.kws) | none => false) | none => false) && l.all nst && kw.all (fun k => k.arg.isSome) && decide (kw.filterMap (·.arg) = ks) && (chk G es).a c l && (chk G ws).k c kw | _ => false }
  | .me f x es => { e := fun c ex => match ex with | .Call (.Attribute o f' apos) l [] pos => decide (f = f') && nsup o && (apos.endLine == pos.line) && l.all nst && decide (l.length < 28) && (chk G x).e c o && (chk G es).a c l | _ => false }
  | .mek f x es ks ws pm => { e := fun c ex => match ex with | .Call (.Attribute o f' apos) l kw pos => decide (f = f') && nsup o && (apos.endLine == pos.line) && l.all nst && decide (l.length + kw.length < 28) && kw.all (fun k => k.arg.isSome) && decide (kw.filterMap (·.arg) = ks) &&
        (G.cls.all fun d => match d.meths.lookup f with | some k => decide ((k, ks, pm) ∈ G.kws) | none => true) && (chk G x).e c o && (chk G es).a c l && (chk G ws).k c kw | _ => false }
  | .eo ne x y => { e := fun c ex => match ex with | .Compare a [o'] [b] _ => decide ((if ne then CmpOp.NotEq else CmpOp.Eq) = o') && !behindInMarks o' b && (chk G x).e c a && (chk G y).e c b | _ => false }
  | .te ne x y => { t := fun c ex => match ex with | .Compare a [o'] [b] _ => decide ((if ne then CmpOp.NotEq else CmpOp.Eq) = o') && !behindInMarks o' b && (chk G x).e c a && (chk G y).e c b | _ => false }
  | .bo es => { e := fun c ex => match ex with | .Call (.Name x _) (a :: l) [] _ => decide (("bool" : Str) = x) && bltC G c x && (a :: l).all nst && (chk G es).a c (a :: l) | _ => false }
  | .so es => { e := fun c ex => match ex with | .Call (.Name x _) (a :: l) [] _ => decide (("str" : Str) = x) && bltC G c x && (a :: l).all nst && (chk G es).a c (a :: l) | _ => false }
  | .sp x y => { e := fun c ex => match ex with | .Call (.Attribute o f' apos) [a] [] pos => decide (f' = ("split" : Str)) && nsup o && nst a && (apos.endLine == pos.line) && (chk G x).e c o && (chk G y).e c a | _ => false }
  | .pt x y => { e := fun c ex => match ex with | .Call (.Attribute o f' apos) [a] [] pos => decide (f' = ("partition" : Str)) && nsup o && nst a && (apos.endLine == pos.line) && (chk G x).e c o && (chk G y).e c a | _ => false }
  | .cm C f es => { e := fun c ex => match ex with | .Call (.Attribute (.Name x _) f' apos) (a :: l) [] pos => decide (C = x) && decide (f = f') && globC c x && (match clOf G.cls x with | some d => (d.cms.lookup f').isSome | none => false) && (apos.endLine == pos.line) && (a :: l).all nst && decide ((a :: l).length < 29) && (chk G es).a c (a :: l) | _ => false }
  | .cmk C f ks ws pm => { e := fun c ex => match ex with | .Call (.Attribute (.Name x _) f' apos) [] kw pos => decide (C = x) && decide (f = f') && globC c x && (match clOf G.cls x with | some d => (match d.cms.lookup f' with | some k => decide ((k, ks, pm) ∈ G.kws) | none => false) | none => false) && (apos.endLine == pos.line) && kw.all (fun k => k.arg.isSome) && decide (kw.filterMap (·.arg) = ks) && decide (kw.length < 28) && (chk G ws).k c kw | _ => false }
  | .mv k es => { e := fun c ex => match ex with | .Call (.Name x _) (a :: l) [] _ => slotC c k x && visC c x && ndb x && !(x == ("__classdict__" : Str)) && (a :: l).all nst && (chk G es).a c (a :: l) | _ => false }
  | .bi f es => { e := fun c ex => match ex with | .Call (.Name x _) (a :: l) [] _ => decide ((f.nm : Str) = x) && bltC G c x && (a :: l).all nst && (chk G es).a c (a :: l) | _ => false }
  | .ty f mu es => { e := fun c ex => match ex with | .Call (.Name x _) (a :: l) [] _ => decide ((f.nm : Str) = x) && bltC G c x && (a :: l).all nst && (chk G es).a c (a :: l) | _ => false }
  | .bm f x es => { e := fun c ex => match ex with | .Call (.Attribute o f' apos) (a :: l) [] pos => decide ((f.nm : Str) = f') && nsup o && (apos.endLine == pos.line) && (a :: l).all nst && decide ((a :: l).length < 29) && (chk G x).e c o && (chk G es).a c (a :: l) | _ => false }
  | .jn x y => { e := fun c ex => match ex with | .Call (.Attribute o f' apos) [a] [] pos => decide (f' = ("join" : Str)) && nsup o && nst a && (apos.endLine == pos.line) && (chk G x).e c o && (chk G y).e c a | _ => false }
  | .li x y => { e := fun c ex => match ex with | .Call (.Attribute o f' apos) [a] [] pos => decide (f' = ("index" : Str)) && nsup o && nst a && (apos.endLine == pos.line) && (chk G x).e c o && (chk G y).e c a | _ => false }
  | .rl mu x => { e := fun c ex => match ex with | .Call (.Name y _) [.Call (.Name z _) [a] [] _] [] _ => decide (("list" : Str) = y) && bltC G c y && decide (("range" : Str) = z) && bltC G c z && nst a && (chk G x).e c a | _ => false }
  | .rl2 mu x x2 => { e := fun c ex => match ex with | .Call (.Name y _) [.Call (.Name z _) [a, b] [] _] [] _ => decide (("list" : Str) = y) && bltC G c y && decide (("range" : Str) = z) && bltC G c z && nst a && nst b && (chk G x).e c a && (chk G x2).e c b | _ => false }
  | .nil => { a := fun c l => match l with | [] => true | _ => false, k := fun c l => match l with | [] => true | _ => false, j := fun c l => match l with | [] => true | _ => false, gs := fun c l => match l with | [] => true | _ => false, ss := fun c l => match l with | [] => true | _ => false }
  | .cons x y => { a := fun c l => match l with | a :: l => nst a && (chk G x).e c a && (chk G y).a c l | _ => false,
                   k := fun c l => match l with | ⟨_, a, _⟩ :: l => (chk G x).e c a && (chk G y).k c l | _ => false,
                   j := fun c l => match l with | a :: l => (chk G x).e c a && (chk G y).j c l | _ => false,
                   gs := fun c l => match l with | a :: l => nst a && (chk G x).g c a && (chk G y).gs c l | _ => false,
                   ss := fun c l => match l with | a :: l => (chk G x).s c a && (chk G y).ss c l | _ => false }
  | .star x y => { a := fun c l => match l with | .Starred a _ :: l => (chk G x).e c a && (chk G y).a c l | _ => false }
  | .tc o x y => { t := fun c ex => match ex with | .Compare a [o'] [b] _ => decide (o = o') && !behindInMarks o' b && (chk G x).e c a && (chk G y).e c b | _ => false }
  | .tch o o2 x y z => { t := fun c ex => match ex with | .Compare a [o', o2'] [b, d] _ => decide (o = o') && decide (o2 = o2') && !lastMarks [o', o2'] [b, d] && (chk G x).e c a && (chk G y).e c b && (chk G z).e c d | _ => false }
  | .ta x y => { t := fun c ex => match ex with
      | .BoolOp .And [a, b] _ => (chk G x).t c a && (chk G y).t c b
      | .BoolOp .And (a :: b :: d :: r) p => (chk G x).t c a && (chk G y).t c (.BoolOp .And (b :: d :: r) p)
      | _ => false }
  | .to x y => { t := fun c ex => match ex with
      | .BoolOp .Or [a, b] _ => (chk G x).t c a && (chk G y).t c b
      | .BoolOp .Or (a :: b :: d :: r) p => (chk G x).t c a && (chk G y).t c (.BoolOp .Or (b :: d :: r) p)
      | _ => false }
  | .tn x => { t := fun c ex => match ex with | .UnaryOp .Not a _ => (chk G x).t c a | _ => false }
  | .tv x => { t := fun c ex => ntest ex && (chk G x).e c ex }
  | .itr es => { q := fun c tg ex => match ex with
      | .Call (.Name x _) [a] [] _ => decide (("range" : Str) = x) && bltC G c x && nst a && (chk G es).a c [a]
      | .Call (.Name x _) [a, b] [] _ => decide (("range" : Str) = x) && bltC G c x && nst a && nst b && (chk G es).a c [a, b]
      | .Call (.Name x _) [a, b, d] [] _ => decide (("range" : Str) = x) && bltC G c x && nst a && nst b && nst d && (chk G es).a c [a, b, d]
      | _ => false }
  | .ite es => { q := fun c tg ex => match tg, ex with
      | .Tuple _ _ _, .Call (.Name x _) [a] [] _ => decide (("enumerate" : Str) = x) && bltC G c x && nst a && (chk G es).a c [a]
      | _, _ => false }
  | .itz es => { q := fun c tg ex => match tg, ex with
      | .Tuple _ _ _, .Call (.Name x _) [a, b] [] _ => decide (("zip" : Str) = x) && bltC G c x && nst a && nst b && (chk G es).a c [a, b]
      | _, _ => false }
  | .itv x => { q := fun c tg ex => (chk G x).e c ex }
  | .gv k => { g := fun c ex => match ex with | .Name x _ => storeC c k x | _ => false }
  | .gt es => { g := fun c ex => match ex with | .Tuple l _ _ => l.all nst && (chk G es).gs c l | _ => false }
  | .gs x y => { g := fun c ex => match ex with | .Subscript a b _ => nsl b && (chk G x).e c a && (chk G y).e c b | _ => false }
  | .ga f x => { g := fun c ex => match ex with | .Attribute a f' _ => decide (f = f') && (chk G x).e c a | _ => false }
  | .ret0 => { s := fun c st => match st with | .Return none _ => true | _ => false }
  | .ret x => { s := fun c st => match st with | .Return (some a) _ => (chk G x).e c a | _ => false }
  | .ex1 x => { s := fun c st => match st with | .Expr a _ => ncomp a && (chk G x).e c a | _ => false }
  | .pass => { s := fun c st => match st with | .Pass _ => true | _ => false }
  | .brk => { s := fun c st => match st with | .Break _ => true | _ => false }
  | .cnt => { s := fun c st => match st with | .Continue _ => true | _ => false }
  | .ifs d x y => { s := fun c st => match st with | .If t a b _ => (chk G d).t c t && (chk G x).ss c a && (chk G y).ss c b | _ => false }
  | .whl d x => { s := fun c st => match st with | .While t a [] _ => (chk G d).t c t && (chk G x).ss c a | _ => false }
  | .fr g it x => { s := fun c st => match st with | .For tg iter body [] _ => nset iter && (chk G it).q c tg iter && (chk G g).g c tg && (chk G x).ss c body | _ => false }
  | .bad => { s := fun c st => true }
  | .aug k o x => { s := fun c st => match st with | .AugAssign (.Name y _) o' a _ => decide (o = o') && storeC c k y && (chk G x).e c a | _ => false }
  | .augs x y o z => { s := fun c st => match st with | .AugAssign (.Subscript a b _) o' e _ => decide (o = o') && nsl b && (chk G x).e c a && (chk G y).e c b && (chk G z).e c e | _ => false }
  | .try1 x => { s := fun c st => match st with | .Try body (_ :: _) [] [] _ => (chk G x).ss c body | _ => false }
  | .set k x => { s := fun c st => match st with | .Assign [.Name y py] a _ => storeC c k y && !swapC c y py a && (chk G x).e c a | _ => false }
  | .setc k x => { s := fun c st => match st with | .Assign [.Name y py] (.ListComp elt gs scope pos) _ => slotC c k y && swapL c y py pos scope && (chk G x).e c (.ListComp elt gs scope pos) | _ => false }
  | .par ks es => { s := fun c st => match st with
      | .Assign [.Tuple [.Name x px, .Name y py] _ _] (.Tuple [a, b] _ _) _ => (match ks with
          | [i, j] => slotC c i x && slotC c j y && decide (i ≠ j) && decide (x ≠ y) && isK c x .local && isK c y .local && (py.line == px.line) && !(foldedForSure 8 a && foldedForSure 8 b) && !(constantsAlone 8 a && constantsAlone 8 b) && nst a && nst b && (chk G es).a c [a, b]
          | _ => false)
      | .Assign [.Tuple [.Name x px, .Name y py, .Name z pz] _ _] (.Tuple [a, b, d] _ _) _ => (match ks with
          | [i, j, l] => slotC c i x && slotC c j y && slotC c l z && decide (i ≠ j) && decide (i ≠ l) && decide (j ≠ l) && decide (x ≠ y) && decide (x ≠ z) && decide (y ≠ z) && isK c x .local && isK c y .local && isK c z .local && (py.line == px.line) && (pz.line == px.line) &&
              !(foldedForSure 8 a && foldedForSure 8 b && foldedForSure 8 d) && !(constantsAlone 8 a && constantsAlone 8 b && constantsAlone 8 d) && nst a && nst b && nst d && (chk G es).a c [a, b, d]
          | _ => false)
      | _ => false }
  | .asg g x => { s := fun c st => match st with | .Assign [tg] a _ => nst tg && ncomp a && noPar c tg a && (chk G x).e c a && (chk G g).g c tg | _ => false }
end LC

/-! # LcQ: what is checked is so -/
namespace LC
open PySem PySem.Spec PyProof.Rows L2
/-- the surroundings of a text that is checked -/
structure Wx (G : GT) (P : Phi) (T : Nat → DefAt) (ca : Str → Addr) (L : Nat) (X : Cx) (c : CK) : Prop extends Wd X P T ca G.kws G.n L where
  hN : X.N = c.N
  hsc : X.env.scope = c.sc
  hfn : X.fn = c.fn
  hxe : X.xe = fun _ _ => False
  kf : c.sc.kind = .function
  cl : P.cls = G.cls
  fns : ∀ x k, G.fns.lookup x = some k → X.mg x = some (.ref (T k).ad) ∧ PySem.W.keepIn X.K (.ref (T k).ad) = true
  noG : ∀ x, G.noG.contains x = true → X.mg x = none
  glob : ∀ x d, P.glob.lookup x = some d → ∃ u v, X.mg x = some u ∧ RelV v u ∧ ∀ io N H, RepV X.K X.mg io N H d v
section
variable {G : GT} {P : Phi} {T : Nat → DefAt} {ca : Str → Addr} {L : Nat} {X : Cx} {c : CK}
theorem Wx.nox (W : Wx G P T ca L X c) : Wx G P T ca L X.nox c :=
  { top := W.top, bd := W.bd, kb := W.kb, fn := W.fn, out := W.out, gd := W.gd, rm := W.rm, rm2 := W.rm2, cm := W.cm, nd := W.nd, hN := W.hN, hsc := W.hsc, hfn := W.hfn, hxe := rfl, kf := W.kf, cl := W.cl, fns := W.fns, noG := W.noG, glob := W.glob }
theorem Wx.blk (W : Wx G P T ca L X c) {scope : Scope} (hk : scope.kind = .function) (s : Shared) (H : Hp) (C : Addr) (cl : List (Str × Addr)) (fp : List Addr) : Wx G P T ca L (X.blk s H scope (compEnvC scope cl C X.env) fp) (blkK c scope) :=
  { top := W.top, bd := W.bd, kb := W.kb, fn := W.fn, out := W.out, gd := W.gd, rm := W.rm, rm2 := W.rm2, cm := W.cm, nd := W.nd, hN := W.hN, hsc := (by
      show relabel scope X.env = relS scope c.sc
      rw [← W.hsc] <;> rfl), hfn := rfl, hxe := rfl, kf := hk, cl := W.cl, fns := W.fns, noG := W.noG, glob := W.glob }
theorem isK_of {x : Str} {k : NameKind} (h : isK c x k = true) : c.sc.names.lookup x = some k := beq_iff_eq.mp h
theorem Wx.slot (W : Wx G P T ca L X c) {k : Nat} {x : Str} (h : slotC c k x = true) : X.N[k]? = some x := by rw [W.hN]; exact beq_iff_eq.mp h
theorem Wx.vis (W : Wx G P T ca L X c) {x : Str} (h : visC c x = true) : Vis X.env.scope x := by
  unfold visC at h
  rw [Bool.or_eq_true, Bool.or_eq_true] at h
  unfold L2.Vis
  rw [W.hsc]
  rcases h with (h | h) | h
  · exact .inl (isK_of h)
  · exact .inr (.inl (isK_of h))
  · exact .inr (.inr (isK_of h))
theorem Wx.store (W : Wx G P T ca L X c) {k : Nat} {x : Str} (h : storeC c k x = true) : X.N[k]? = some x ∧ Loc X.env.scope x ∧ (X.fn x = true ∨ X.env.scope.names.lookup x = some .local) := by
  unfold storeC at h
  rw [Bool.and_eq_true, Bool.and_eq_true, Bool.or_eq_true, Bool.or_eq_true] at h
  obtain ⟨⟨h1, h2⟩, h3⟩ := h
  unfold L2.Loc
  rw [W.hsc, W.hfn]
  exact ⟨W.slot h1, h2.imp isK_of isK_of, h3.imp id isK_of⟩
theorem Wx.gl (W : Wx G P T ca L X c) {x : Str} (h : globC c x = true) : Gl X x ∧ (x == ("__debug__" : Str)) = false := by
  unfold globC ndb at h
  rw [Bool.and_eq_true] at h
  refine ⟨?_, by simpa using h.2⟩
  show X.env.scope.names.lookup x = _
  rw [W.hsc]
  exact isK_of h.1
theorem Wx.blt (W : Wx G P T ca L X c) {x : Str} (h : bltC G c x = true) : Gl X x ∧ X.mg x = none ∧ x ≠ "__name__" ∧ (x == ("__debug__" : Str)) = false := by
  unfold bltC at h
  rw [Bool.and_eq_true, Bool.and_eq_true] at h
  obtain ⟨h1, h2⟩ := W.gl h.1.1
  exact ⟨h1, W.noG x h.1.2, by simpa using h.2, h2⟩
theorem Wx.never (W : Wx G P T ca L X c) : PassesOwn (model X.prog X.w) X.A X.env X.xe := by rw [W.hxe]; exact PassesOwn.never
theorem swap_false {x : Str} {py : Pos} {a : Expr} {l : Nat} (W : Wx G P T ca L X c) (h : swapC c x py a = false) : swapsWith a (some (.Name x py)) l X.env = pure false := by
  cases a with
  | ListComp elt gs s p =>
    have h : swapL c x py p s = false := h
    unfold swapsWith
    show (pure (X.env.blockKind == .function && X.env.kindOf x == some .local && py.line == p.line && !(s.names.any fun (n, k) => n == x && (k == .local || k == .cell))) : Sem Bool) = pure false
    have e : (X.env.kindOf x == some .local) = isK c x .local := by
      show (X.env.scope.names.lookup x == some .local) = _
      rw [W.hsc] <;> rfl
    rw [e]
    unfold swapL at h
    congr 1
    cases h1 : isK c x .local <;> cases h2 : (py.line == p.line) <;> cases h3 : (s.names.any fun (n, k) => n == x && (k == .local || k == .cell)) <;> simp_all
  | SetComp _ _ _ _ => cases h
  | DictComp _ _ _ _ _ => cases h
  | _ => rfl
theorem swap_true {x : Str} {py pos : Pos} {elt : Expr} {gs : List Comprehension} {scope : Scope} {l : Nat} (W : Wx G P T ca L X c) (h : swapL c x py pos scope = true) : swapsWith (.ListComp elt gs scope pos) (some (.Name x py)) l X.env = pure true := by
  unfold swapL at h
  rw [Bool.and_eq_true, Bool.and_eq_true] at h
  exact sw_true (by rw [W.hsc]; exact W.kf) (by rw [W.hsc]; exact isK_of h.1.1) h.1.2 (by simpa using h.2)
theorem blockKind_of (W : Wx G P T ca L X c) : X.env.blockKind = .function := by
  unfold Env.blockKind
  rw [W.hsc, W.kf]
  rfl
theorem filterMap_short {α β : Type} {f : α → Option β} : ∀ {l : List α}, (∃ t ∈ l, f t = none) → (l.filterMap f).length ≠ l.length
  | [], h => by obtain ⟨t, h, _⟩ := h; cases h
  | a :: l, h => by
    have le := List.length_filterMap_le f l
    obtain ⟨t, h1, h2⟩ := h
    rw [List.filterMap_cons]
    rcases List.mem_cons.mp h1 with e | h1
    · rw [← e, h2]
      simp only [List.length_cons]
      omega
    · have ih := filterMap_short ⟨t, h1, h2⟩
      split
      · simp only [List.length_cons]; omega
      · simp only [List.length_cons]; omega
theorem stores_none (W : Wx G P T ca L X c) {tg a : Expr} (h : noPar c tg a = true) : swappedStores [tg] a X.env = pure none := by
  unfold noPar at h
  split at h
  · rename_i ts _ _ vs _ _
    unfold swappedStores
    simp only []
    split
    · rfl
    · rename_i n1
      split
      · rfl
      · rename_i n2
        split
        · rfl
        · rename_i n3
          split
          · rfl
          · rename_i n4
            exfalso
            simp only [Bool.or_eq_true] at h n1 n3
            rcases h with (((h | h) | h) | h) | h
            · exact n1 (.inl (.inl h))
            · exact n1 (.inl (.inr h))
            · exact n2 h
            · obtain ⟨t, ht, hn⟩ := List.any_eq_true.mp h
              refine n3 (.inl ?_)
              rw [bne_iff_ne]
              refine filterMap_short ⟨t, ht, ?_⟩
              cases t with
              | Name id pos =>
                have e : (X.env.kindOf id == some .local) = isK c id .local := by
                  show (X.env.scope.names.lookup id == some .local) = _
                  rw [W.hsc] <;> rfl
                have hn : (!isK c id .local) = true := hn
                have hn : isK c id .local = false := by simpa using hn
                simp only [e, hn, Bool.false_and, Bool.false_eq_true, if_false]
              | _ => rfl
            · exact n4 h
  · cases h
  · rename_i h1 h2
    cases tg with
    | Tuple ts k p =>
      cases a with
      | Tuple vs k2 p2 => exact (h1 ts k p vs k2 p2 rfl rfl).elim
      | _ => rfl
    | List ts p =>
      cases a with
      | Tuple vs k2 p2 => exact (h2 ts p vs k2 p2 rfl rfl).elim
      | _ => rfl
    | _ => rfl
theorem stores_two (W : Wx G P T ca L X c) {x y : Str} {px py pt pt2 : Pos} {kt k2 : Nat} {a b : Expr} (hx : isK c x .local = true) (hy : isK c y .local = true) (hl : (py.line == px.line) = true) (hn : x ≠ y) (ha : nst a = true) (hb : nst b = true)
    (h1 : (foldedForSure 8 a && foldedForSure 8 b) = false) (h2 : (constantsAlone 8 a && constantsAlone 8 b) = false) : swappedStores [.Tuple [.Name x px, .Name y py] kt pt] (.Tuple [a, b] k2 pt2) X.env = pure (some [x, y]) := by
  have e : ∀ id, (X.env.kindOf id == some .local) = isK c id .local := fun id => by
    show (X.env.scope.names.lookup id == some .local) = _
    rw [W.hsc] <;> rfl
  have st : ∀ z : Expr, nst z = true → isStar z = false := fun z hz => by cases z <;> first | rfl | cases hz
  have hne : (y == x) = false := beq_eq_false_iff_ne.mpr (Ne.symm hn)
  have hl' : (py.line == px.line) = true := hl
  unfold swappedStores
  simp only [List.length_cons, List.length_nil, blockKind_of W, List.any_cons, List.any_nil, List.filterMap_cons, List.filterMap_nil, e, hx, hy, List.head?_cons, Option.map_some, Option.getD_some, Expr.pos, hl', List.all_cons, List.all_nil, Bool.and_true, h1, h2, Bool.true_and]
  simp [List.eraseDups_cons, hne, hn, Ne.symm hn]
  rintro (h | h)
  · exact absurd (show isStar a = true from h) (by rw [st a ha]; simp)
  · exact absurd (show isStar b = true from h) (by rw [st b hb]; simp)
theorem stores_three (W : Wx G P T ca L X c) {x y z : Str} {px py pz pt pt2 : Pos} {kt k2 : Nat} {a b d : Expr} (hx : isK c x .local = true) (hy : isK c y .local = true) (hz : isK c z .local = true) (hl : (py.line == px.line) = true) (hl2 : (pz.line == px.line) = true) (hn : x ≠ y) (hn2 : x ≠ z) (hn3 : y ≠ z)
    (ha : nst a = true) (hb : nst b = true) (hd : nst d = true) (h1 : (foldedForSure 8 a && foldedForSure 8 b && foldedForSure 8 d) = false) (h2 : (constantsAlone 8 a && constantsAlone 8 b && constantsAlone 8 d) = false) :
    swappedStores [.Tuple [.Name x px, .Name y py, .Name z pz] kt pt] (.Tuple [a, b, d] k2 pt2) X.env = pure (some [x, y, z]) := by
  have e : ∀ id, (X.env.kindOf id == some .local) = isK c id .local := fun id => by
    show (X.env.scope.names.lookup id == some .local) = _
    rw [W.hsc] <;> rfl
  have st : ∀ z : Expr, nst z = true → isStar z = false := fun z hz => by cases z <;> first | rfl | cases hz
  rw [Bool.and_assoc] at h1 h2
  unfold swappedStores
  simp only [List.length_cons, List.length_nil, blockKind_of W, List.any_cons, List.any_nil, List.filterMap_cons, List.filterMap_nil, e, hx, hy, hz, List.head?_cons, Option.map_some, Option.getD_some, Expr.pos, hl, hl2, List.all_cons, List.all_nil, Bool.and_true, h1, h2, Bool.true_and]
  simp [List.eraseDups_cons, hn, hn2, hn3, Ne.symm hn, Ne.symm hn2, Ne.symm hn3]
  rintro (h | h | h)
  · exact absurd (show isStar a = true from h) (by rw [st a ha]; simp)
  · exact absurd (show isStar b = true from h) (by rw [st b hb]; simp)
  · exact absurd (show isStar d = true from h) (by rw [st d hd]; simp)
end
end LC

/-! # LcR: the terms are sound -/
namespace LC
open PySem PySem.Spec PyProof.Rows L2
section
variable {X : Cx} {P : Phi} {Tb : Nat → DefAt} {ca : Str → Addr} {kws : List (Nat × List Str × List Nat)} {n L : Nat} {a : Expr} {es : List Expr} {ml : Env → M (List D)} {np pos : Pos}
theorem boot_B (f : B) : bootBuiltins (f.nm : Str) = some (.builtin f.nm) := by cases f <;> decide +kernel
theorem boot_Ty (f : LC.Ty) : bootBuiltins (f.nm : Str) = some (.type f.nm) := by cases f <;> decide +kernel
theorem boot_known {x : String} (h : knownTy x = true) : bootBuiltins (x : Str) = some (.type x) := by
  unfold knownTy at h
  simp only [Bool.or_eq_true, beq_iff_eq] at h
  rcases h with ((((h | h) | h) | h) | h) | h <;> (subst h; decide +kernel)
theorem cb_any_B (W : Wd X P Tb ca kws n L) (f : B) : CallR X (.builtin f.nm) (rCB X.K X.mg (callB P f)) := by
  cases f with
  | len => exact cb_len
  | abs => exact cb_abs
  | max => exact cb_max W.cm
  | min => exact cb_min W.cm
  | sum => exact cb_sum W.cm
  | all => exact cb_all W.cm
  | any => exact cb_any W.cm
  | divmod => exact cb_divmod
  | isinst => exact cb_isinst W
  | repr => exact cb_repr W
  | sorted => exact cb_sorted
theorem ct_any (mu : Bool) (f : LC.Ty) : CallR X (.type f.nm) (rCB X.K X.mg (callT mu f)) := by
  cases f with
  | int => exact ct_int
  | str => exact ct_str
  | bool => exact ct_bool
  | tuple => exact ct_tuple
  | list => exact ct_list
theorem se_bi (W : Wd X P Tb ca kws n L) {f : B} (hg : Gl X f.nm) (hm : X.mg f.nm = none) (hn : (f.nm : Str) ≠ "__name__") (hd : ((f.nm : Str) == ("__debug__" : Str)) = false) (hs : (a :: es).all nst = true) (hl : PA X (a :: es) (tL X.K X.mg ml)) :
    PE X (.Call (.Name f.nm np) (a :: es) [] pos) (tM X.K X.mg fun r => bnd (ml r) (callB P f)) := by
  have hs' := hs
  rw [List.all_cons, Bool.and_eq_true] at hs'
  exact PE.mono (pe_callB (cb_any_B W f) hg hm (boot_B f) hl hn hd (each_nst hs'.1) (nst_none hs'.2)) fun st H Q ⟨io, r, m, s, h⟩ => many s h
theorem se_ty {mu : Bool} {f : LC.Ty} (hg : Gl X f.nm) (hm : X.mg f.nm = none) (hn : (f.nm : Str) ≠ "__name__") (hd : ((f.nm : Str) == ("__debug__" : Str)) = false) (hs : (a :: es).all nst = true) (hl : PA X (a :: es) (tL X.K X.mg ml)) :
    PE X (.Call (.Name f.nm np) (a :: es) [] pos) (tM X.K X.mg fun r => bnd (ml r) (callT mu f)) := by
  have hs' := hs
  rw [List.all_cons, Bool.and_eq_true] at hs'
  exact PE.mono (pe_callTy (ct_any mu f) hg hm (boot_Ty f) hl hn hd (each_nst hs'.1) (nst_none hs'.2)) fun st H Q ⟨io, r, m, s, h⟩ => many s h
end
theorem den_w (P : Phi) : ∀ t : T, (den P t).w = wOf t := by
  intro t
  induction t with
  | cons x y hx hy => show (den P x).w ++ (den P y).w = _; rw [hx, hy]; rfl
  | gt es h => exact h
  | gv k => rfl
  | _ => rfl

/-- a comprehension's parts -/
def LcOk (X : Cx) (elt : Expr) (gs : List Comprehension) (scope : Scope) (f : Env → M D) : Prop :=
  ∃ (tg it : Expr) (ifs : List Expr) (q : Env → M Src) (g : D → Env → M Env) (ws : List Nat) (t : Env → M Bool) (e : Env → M D) (own : List (Str × Nat)) (W : Nat) (mu : Bool), gs = [⟨tg, it, ifs, 0⟩] ∧ BlkOk X.N X.env.scope scope own ∧ (∀ k ∈ ws, k ∈ own.map (·.2)) ∧ PI X tg it (tQ X.K X.mg q) ∧
    (∀ (s : Shared) (H : Hp) (C : Addr) (cl : List (Str × Addr)) (fp : List Addr), PG (X.blk s H scope (compEnvC scope cl C X.env) fp) tg (tG X.K X.mg g ws)) ∧ (∀ (s : Shared) (H : Hp) (C : Addr) (cl : List (Str × Addr)) (fp : List Addr), PTs (X.blk s H scope (compEnvC scope cl C X.env) fp) ifs (tT X.K X.mg t)) ∧
    (∀ (s : Shared) (H : Hp) (C : Addr) (cl : List (Str × Addr)) (fp : List Addr), PE (X.blk s H scope (compEnvC scope cl C X.env) fp) elt (tM X.K X.mg e)) ∧ (∀ x, foldedSetIterable it X.env x = pure x) ∧
    f = fun r => bnd (q r) fun src => bnd (match src with
      | .fix ds => lcL (lcTurn g t e (wipeE r (own.map (·.2)))) ds []
      | .live n => lcV (lcTurn g t e (wipeE r (own.map (·.2)))) n W 0 []) fun xs => if mu then new (.lst xs) else LC.ret (.lst xs)

structure Snd (G : GT) (P : Phi) (Tb : Nat → DefAt) (ca : Str → Addr) (L : Nat) (tm : T) : Prop where
  e : ∀ X c ex, Wx G P Tb ca L X c → (chk G tm).e c ex = true → PE X ex (tM X.K X.mg (den P tm).e)
  lc : ∀ X c elt gs scope pos, Wx G P Tb ca L X c → (chk G tm).e c (.ListComp elt gs scope pos) = true → LcOk X elt gs scope (den P tm).e
  t : ∀ X c ex, Wx G P Tb ca L X c → (chk G tm).t c ex = true → PT X ex (tT X.K X.mg (den P tm).t) ∧ (isBoolOp ex = true → PW X ex (tT X.K X.mg (den P tm).t))
  a : ∀ X c l, Wx G P Tb ca L X c → (chk G tm).a c l = true → PA X l (tL X.K X.mg (den P tm).a) ∧ (l.all nst = true → ∀ r m ds m', (den P tm).a r m = .ok ds m' → ds.length = l.length)
  k : ∀ X c l, Wx G P Tb ca L X c → (chk G tm).k c l = true → PK X l (tL X.K X.mg (den P tm).a)
  j : ∀ X c l, Wx G P Tb ca L X c → (chk G tm).j c l = true → PJ X l ((jOf P tm).map (tM X.K X.mg)) ∧ isRow tm = true
  q : ∀ X c tg ex, Wx G P Tb ca L X c → (chk G tm).q c tg ex = true → PI X tg ex (tQ X.K X.mg (den P tm).q)
  g : ∀ X c ex, Wx G P Tb ca L X c → (chk G tm).g c ex = true → PG X ex (tG X.K X.mg (den P tm).g (den P tm).w)
  gs : ∀ X c l, Wx G P Tb ca L X c → (chk G tm).gs c l = true → PGs X l (tGs X.K X.mg (den P tm).gs (den P tm).w) ∧ ∀ ds r m F, Post ((den P tm).gs ds r m) F → ds.length = l.length
  s : ∀ X c st, Wx G P Tb ca L X c → (chk G tm).s c st = true → PS X st (tS X.K X.mg (den P tm).s)
  ss : ∀ X c st, Wx G P Tb ca L X c → (chk G tm).ss c st = true → PSs X st (tS X.K X.mg (den P tm).s)
section
variable {G : GT} {P : Phi} {Tb : Nat → DefAt} {ca : Str → Addr} {L : Nat} {t : T}
theorem Snd.ofE (ht : chk G t = { e := (chk G t).e }) (hl : ∀ c elt gs scope pos, (chk G t).e c (.ListComp elt gs scope pos) = false) (h : ∀ X c ex, Wx G P Tb ca L X c → (chk G t).e c ex = true → PE X ex (tM X.K X.mg (den P t).e)) : Snd G P Tb ca L t := by
  refine ⟨h, fun X c elt gs sc pos _ q => ?_, fun X c x _ q => ?_, fun X c x _ q => ?_, fun X c x _ q => ?_, fun X c x _ q => ?_, fun X c x y _ q => ?_, fun X c x _ q => ?_, fun X c x _ q => ?_, fun X c x _ q => ?_, fun X c x _ q => ?_⟩
  · rw [hl] at q; cases q
  all_goals (rw [ht] at q; cases q)
theorem Snd.ofT (ht : chk G t = { t := (chk G t).t }) (h : ∀ X c ex, Wx G P Tb ca L X c → (chk G t).t c ex = true → PT X ex (tT X.K X.mg (den P t).t) ∧ (isBoolOp ex = true → PW X ex (tT X.K X.mg (den P t).t))) : Snd G P Tb ca L t := by
  refine ⟨fun X c x _ q => ?_, fun X c elt gs sc pos _ q => ?_, h, fun X c x _ q => ?_, fun X c x _ q => ?_, fun X c x _ q => ?_, fun X c x y _ q => ?_, fun X c x _ q => ?_, fun X c x _ q => ?_, fun X c x _ q => ?_, fun X c x _ q => ?_⟩
  all_goals (rw [ht] at q; cases q)
theorem Snd.ofQ (ht : chk G t = { q := (chk G t).q }) (h : ∀ X c tg ex, Wx G P Tb ca L X c → (chk G t).q c tg ex = true → PI X tg ex (tQ X.K X.mg (den P t).q)) : Snd G P Tb ca L t := by
  refine ⟨fun X c x _ q => ?_, fun X c elt gs sc pos _ q => ?_, fun X c x _ q => ?_, fun X c x _ q => ?_, fun X c x _ q => ?_, fun X c x _ q => ?_, h, fun X c x _ q => ?_, fun X c x _ q => ?_, fun X c x _ q => ?_, fun X c x _ q => ?_⟩
  all_goals (rw [ht] at q; cases q)
theorem Snd.ofG (ht : chk G t = { g := (chk G t).g }) (h : ∀ X c ex, Wx G P Tb ca L X c → (chk G t).g c ex = true → PG X ex (tG X.K X.mg (den P t).g (den P t).w)) : Snd G P Tb ca L t := by
  refine ⟨fun X c x _ q => ?_, fun X c elt gs sc pos _ q => ?_, fun X c x _ q => ?_, fun X c x _ q => ?_, fun X c x _ q => ?_, fun X c x _ q => ?_, fun X c x y _ q => ?_, h, fun X c x _ q => ?_, fun X c x _ q => ?_, fun X c x _ q => ?_⟩
  all_goals (rw [ht] at q; cases q)
theorem Snd.ofS (ht : chk G t = { s := (chk G t).s }) (h : ∀ X c st, Wx G P Tb ca L X c → (chk G t).s c st = true → PS X st (tS X.K X.mg (den P t).s)) : Snd G P Tb ca L t := by
  refine ⟨fun X c x _ q => ?_, fun X c elt gs sc pos _ q => ?_, fun X c x _ q => ?_, fun X c x _ q => ?_, fun X c x _ q => ?_, fun X c x _ q => ?_, fun X c x y _ q => ?_, fun X c x _ q => ?_, fun X c x _ q => ?_, h, fun X c x _ q => ?_⟩
  all_goals (rw [ht] at q; cases q)
theorem Snd.of0 (ht : chk G t = {}) : Snd G P Tb ca L t := by
  refine ⟨fun X c x _ q => ?_, fun X c elt gs sc pos _ q => ?_, fun X c x _ q => ?_, fun X c x _ q => ?_, fun X c x _ q => ?_, fun X c x _ q => ?_, fun X c x y _ q => ?_, fun X c x _ q => ?_, fun X c x _ q => ?_, fun X c x _ q => ?_, fun X c x _ q => ?_⟩
  all_goals (rw [ht] at q; cases q)
theorem bnd_ok {α β : Type} {x : M α} {f : α → M β} {m m' : Sto} {b : β} (h : bnd x f m = .ok b m') : ∃ a m1, x m = .ok a m1 ∧ f a m1 = .ok b m' := by
  unfold bnd at h
  cases e : x m with
  | ok a m1 => rw [e] at h; exact ⟨a, m1, rfl, h⟩
  | exc C fs m1 => rw [e] at h; cases h
  | bad => rw [e] at h; cases h
theorem pe_absurd {X : Cx} {ex : Expr} {f : Env → M D} (h : ∀ r m, f r m = .bad) : PE X ex (tM X.K X.mg f) := ⟨fun pins s st H Q I ⟨io, r, m, s0, q⟩ => by rw [h r m] at q; exact (show False from q).elim⟩

theorem snd1 : ∀ t : T, Snd G P Tb ca L t := by
  intro t
  induction t with
  | v k =>
    refine Snd.ofE rfl (fun _ _ _ _ _ => rfl) fun X c ex W h => ?_
    cases ex with
    | Name x p =>
      have h : (slotC c k x && visC c x && ndb x && !(x == ("__classdict__" : Str))) = true := h
      rw [Bool.and_eq_true, Bool.and_eq_true, Bool.and_eq_true] at h
      obtain ⟨⟨⟨h1, h2⟩, h3⟩, h4⟩ := h
      exact se_var (W.slot h1) (W.vis h2) (by simpa [ndb] using h3) (by simpa using h4)
    | _ => cases h
  | g x =>
    refine Snd.ofE rfl (fun _ _ _ _ _ => rfl) fun X c ex W h => ?_
    cases ex with
    | Name y p =>
      have h : (decide (x = y) && globC c y) = true := h
      rw [Bool.and_eq_true, decide_eq_true_eq] at h
      obtain ⟨rfl, h⟩ := h
      obtain ⟨h1, h2⟩ := W.gl h
      cases e : P.glob.lookup x with
      | none => exact pe_absurd fun r m => by show oOut (P.glob.lookup x) m = _; rw [e]; rfl
      | some d =>
        obtain ⟨u, v, q1, q2, q3⟩ := W.glob x d e
        exact se_glob h1 q1 q2 h2 fun d' e' => by rw [e] at e'; cases e'; exact q3
    | _ => cases h
  | bt x =>
    refine Snd.ofE rfl (fun _ _ _ _ _ => rfl) fun X c ex W h => ?_
    cases ex with
    | Name y p =>
      have h : (decide ((x : Str) = y) && bltC G c y && knownTy x) = true := h
      rw [Bool.and_eq_true, Bool.and_eq_true, decide_eq_true_eq] at h
      obtain ⟨⟨rfl, h⟩, h3⟩ := h
      obtain ⟨h1, h2, h4, h5⟩ := W.blt h
      exact se_bt h1 h2 (boot_known h3) h4 h5
    | _ => cases h
  | i n =>
    refine Snd.ofE rfl (fun _ _ _ _ _ => rfl) fun X c ex W h => ?_
    cases ex with
    | Constant k j p =>
      cases k with
      | int i => cases of_decide_eq_true (show decide (n = i) = true from h); exact se_int
      | _ => cases h
    | _ => cases h
  | s x =>
    refine Snd.ofE rfl (fun _ _ _ _ _ => rfl) fun X c ex W h => ?_
    cases ex with
    | Constant k j p =>
      cases k with
      | str i => cases of_decide_eq_true (show decide (x = i) = true from h); exact se_str
      | _ => cases h
    | _ => cases h
  | b x =>
    refine Snd.ofE rfl (fun _ _ _ _ _ => rfl) fun X c ex W h => ?_
    cases ex with
    | Constant k j p =>
      cases k with
      | bool i => cases of_decide_eq_true (show decide (x = i) = true from h); exact se_bl
      | _ => cases h
    | _ => cases h
  | n =>
    refine Snd.ofE rfl (fun _ _ _ _ _ => rfl) fun X c ex W h => ?_
    cases ex with
    | Constant k j p =>
      cases k with
      | none => exact se_non
      | _ => cases h
    | _ => cases h
  | bin mu o x y hx hy =>
    refine Snd.ofE rfl (fun _ _ _ _ _ => rfl) fun X c ex W h => ?_
    cases ex with
    | BinOp a o' b p =>
      have h : (decide (o = o') && (chk G x).e c a && (chk G y).e c b) = true := h
      rw [Bool.and_eq_true, Bool.and_eq_true, decide_eq_true_eq] at h
      obtain ⟨⟨rfl, h1⟩, h2⟩ := h
      exact se_bin (hx.e X c a W h1) (hy.e X c b W h2)
    | _ => cases h
  | neg x hx =>
    refine Snd.ofE rfl (fun _ _ _ _ _ => rfl) fun X c ex W h => ?_
    cases ex with
    | UnaryOp o a p =>
      cases o with
      | USub => exact se_neg (hx.e X c a W h)
      | _ => cases h
    | _ => cases h
  | cmp o x y hx hy =>
    refine Snd.ofE rfl (fun _ _ _ _ _ => rfl) fun X c ex W h => ?_
    simp only [chk] at h
    split at h <;> first | cases h | skip
    simp only [Bool.and_eq_true, decide_eq_true_eq, Bool.not_eq_true'] at h
    obtain ⟨⟨⟨rfl, h1⟩, h2⟩, h3⟩ := h
    exact se_cmp W.rm.units h1 (hx.e X c _ W h2) (hy.e X c _ W h3)
  | chn o o2 x y z hx hy hz =>
    refine Snd.ofE rfl (fun _ _ _ _ _ => rfl) fun X c ex W h => ?_
    simp only [chk] at h
    split at h <;> first | cases h | skip
    simp only [Bool.and_eq_true, decide_eq_true_eq, Bool.not_eq_true'] at h
    obtain ⟨⟨⟨⟨⟨rfl, rfl⟩, h1⟩, h2⟩, h3⟩, h4⟩ := h
    exact se_chain W.rm.units h1 (hx.e X c _ W h2) (hy.e X c _ W h3) (hz.e X c _ W h4)
  | an x y hx hy =>
    refine Snd.ofE rfl (fun _ _ _ _ _ => rfl) fun X c ex W h => ?_
    simp only [chk] at h
    split at h <;> first | cases h | skip
    · rw [Bool.and_eq_true] at h
      exact se_and (hx.e X c _ W h.1) (pe_one (hy.e X c _ W h.2))
    · rw [Bool.and_eq_true] at h
      exact se_and (hx.e X c _ W h.1) (hy.e X c _ W h.2)
  | or x y hx hy =>
    refine Snd.ofE rfl (fun _ _ _ _ _ => rfl) fun X c ex W h => ?_
    simp only [chk] at h
    split at h <;> first | cases h | skip
    · rw [Bool.and_eq_true] at h
      exact se_or (hx.e X c _ W h.1) (pe_one (hy.e X c _ W h.2))
    · rw [Bool.and_eq_true] at h
      exact se_or (hx.e X c _ W h.1) (hy.e X c _ W h.2)
  | nt x hx =>
    refine Snd.ofE rfl (fun _ _ _ _ _ => rfl) fun X c ex W h => ?_
    simp only [chk] at h
    split at h <;> first | cases h | skip
    exact se_not (hx.e X c _ W h)
  | ife d x y hd hx hy =>
    refine Snd.ofE rfl (fun _ _ _ _ _ => rfl) fun X c ex W h => ?_
    simp only [chk] at h
    split at h <;> first | cases h | skip
    simp only [Bool.and_eq_true] at h
    exact se_if (hd.t X c _ W h.1.1).1 (hx.e X c _ W h.1.2) (hy.e X c _ W h.2)
  | tup es he =>
    refine Snd.ofE rfl (fun _ _ _ _ _ => rfl) fun X c ex W h => ?_
    simp only [chk] at h
    split at h <;> first | cases h | skip
    exact se_tup (he.a X c _ W h).1
  | ls mu es he =>
    refine Snd.ofE rfl (fun _ _ _ _ _ => rfl) fun X c ex W h => ?_
    simp only [chk] at h
    split at h <;> first | cases h | skip
    exact se_lst (he.a X c _ W h).1
  | ix x y hx hy =>
    refine Snd.ofE rfl (fun _ _ _ _ _ => rfl) fun X c ex W h => ?_
    simp only [chk] at h
    split at h <;> first | cases h | skip
    simp only [Bool.and_eq_true] at h
    exact se_ix h.1.1 (hx.e X c _ W h.1.2) (hy.e X c _ W h.2)
  | sl mu x lo hi hx hlo hhi =>
    refine Snd.ofE rfl (fun _ _ _ _ _ => rfl) fun X c ex W h => ?_
    simp only [chk] at h
    split at h <;> first | cases h | skip
    rename_i a l u p1 p2
    rw [Bool.and_eq_true, Bool.and_eq_true] at h
    obtain ⟨⟨h1, h2⟩, h3⟩ := h
    refine se_sl (hx.e X c _ W h1) ?_ ?_
    · cases l with
      | none =>
        cases lo with
        | nil => exact so_none
        | _ => cases h2
      | some l =>
        have h2 : (!isNil lo && (chk G lo).e c l) = true := h2
        rw [Bool.and_eq_true] at h2
        cases lo with
        | nil => exact absurd h2.1 (by simp [isNil])
        | _ => exact so_some (hlo.e X c _ W h2.2)
    · cases u with
      | none =>
        cases hi with
        | nil => exact so_none
        | _ => cases h3
      | some l =>
        have h3 : (!isNil hi && (chk G hi).e c l) = true := h3
        rw [Bool.and_eq_true] at h3
        cases hi with
        | nil => exact absurd h3.1 (by simp [isNil])
        | _ => exact so_some (hhi.e X c _ W h3.2)
  | rv mu x hx =>
    refine Snd.ofE rfl (fun _ _ _ _ _ => rfl) fun X c ex W h => ?_
    simp only [chk] at h
    split at h <;> first | cases h | skip
    rw [Bool.and_eq_true, decide_eq_true_eq] at h
    obtain ⟨rfl, h⟩ := h
    exact se_rv (hx.e X c _ W h)
  | «at» f x hx =>
    refine Snd.ofE rfl (fun _ _ _ _ _ => rfl) fun X c ex W h => ?_
    simp only [chk] at h
    split at h <;> first | cases h | skip
    rw [Bool.and_eq_true, Bool.and_eq_true, decide_eq_true_eq] at h
    obtain ⟨⟨rfl, h1⟩, h2⟩ := h
    exact se_at W.toWd h1 (hx.e X c _ W h2)
  | fs es he =>
    refine Snd.ofE rfl (fun _ _ _ _ _ => rfl) fun X c ex W h => ?_
    simp only [chk] at h
    split at h <;> first | cases h | skip
    obtain ⟨h1, h2⟩ := he.j X c _ W h
    exact se_fs h2 h1
  | fv x hx =>
    refine Snd.ofE rfl (fun _ _ _ _ _ => rfl) fun X c ex W h => ?_
    simp only [chk] at h
    split at h <;> first | cases h | skip
    · rw [Bool.and_eq_true, decide_eq_true_eq] at h
      obtain ⟨rfl, h⟩ := h
      exact se_fmt (hx.e X c _ W h)
    · rw [Bool.and_eq_true, decide_eq_true_eq] at h
      obtain ⟨rfl, h⟩ := h
      exact pe_joined1 (se_fmt (hx.e X c _ W h))
  | lc mu own e g it d he hg hi hd =>
    have key : ∀ X c elt gs scope pos, Wx G P Tb ca L X c → (chk G (.lc mu own e g it d)).e c (.ListComp elt gs scope pos) = true → LcOk X elt gs scope (den P (.lc mu own e g it d)).e := by
      intro X c elt gs scope pos W h
      simp only [chk] at h
      split at h <;> first | cases h | skip
      rename_i elt2 tg iter ifs z scope2 pos2 heq
      injection heq with e1 e2 e3 e4
      subst e1 e2 e3 e4
      simp only [Bool.and_eq_true, decide_eq_true_eq] at h
      obtain ⟨⟨⟨⟨⟨⟨⟨⟨rfl, h1⟩, h2⟩, h3⟩, h4⟩, h5⟩, h6⟩, h7⟩, h8⟩ := h
      have bk : BlkOk c.N c.sc scope (ownP c own) := blkOk_by h2
      refine ⟨tg, iter, ifs, (den P it).q, (den P g).g, (den P g).w, ifT d (den P d).t, (den P e).e, ownP c own, P.W, mu, rfl, ?_, ?_, hi.q X c tg iter W h5, ?_, ?_, ?_, nset_ok h1, ?_⟩
      · rw [W.hN, W.hsc]; exact bk
      · intro k hk
        rw [den_w] at hk
        rw [h3]
        have := List.all_eq_true.mp h4 k hk
        simpa using this
      · exact fun s H C cl fp => hg.g _ _ tg (W.blk bk.kind s H C cl fp) h6
      · intro s H C cl fp
        cases ifs with
        | nil =>
          cases d with
          | nil => exact ⟨fun pins s st H Q I ⟨io, r, m, s0, q⟩ => pts_nil.run pins s st H Q I ((show WB _ _ io m H Q true m from q) io H LC.Ext.refl s0.s)⟩
          | _ => cases h7
        | cons x r =>
          cases r with
          | cons y r => cases h7
          | nil =>
            have h7 : (!isNil d && (chk G d).t (blkK c scope) x) = true := h7
            rw [Bool.and_eq_true] at h7
            cases d with
            | nil => exact absurd h7.1 (by simp [isNil])
            | _ => exact pts_one (hd.t _ _ x (W.blk bk.kind s H C cl fp) h7.2).1
      · exact fun s H C cl fp => he.e _ _ elt (W.blk bk.kind s H C cl fp) h8
      · rw [h3] <;> rfl
    refine ⟨fun X c ex W h => ?_, key, fun X c x _ q => ?_, fun X c x _ q => ?_, fun X c x _ q => ?_, fun X c x _ q => ?_, fun X c x y _ q => ?_, fun X c x _ q => ?_, fun X c x _ q => ?_, fun X c x _ q => ?_, fun X c x _ q => ?_⟩
    · cases ex with
      | ListComp elt gs scope pos =>
        obtain ⟨tg, it, ifs, q, g, ws, t, e, own, Wn, mu, rfl, ok, hsub, hi, hg, ht, he, hs, hf⟩ := key X c elt gs scope pos W h
        rw [hf]
        exact se_lc W.cm W.nd ok hsub hi hg ht he hs
      | _ => cases h
    all_goals cases q
  | call k es he =>
    refine Snd.ofE rfl (fun _ _ _ _ _ => rfl) fun X c ex W h => ?_
    simp only [chk] at h
    split at h <;> first | cases h | skip
    rename_i x np l pos
    simp only [Bool.and_eq_true, decide_eq_true_eq] at h
    obtain ⟨⟨⟨h1, h2⟩, h3⟩, h4⟩ := h
    obtain ⟨g1, g2⟩ := W.gl h1
    obtain ⟨g3, g4⟩ := W.fns x k h2
    have run : ∀ (pins : List (Addr × Obj)) (st : L2.St) (H : Hp) (s : Shared) (Q : VK) (us : List Value) (vs : List V), L2.Inv X pins st H s → Vals vs us → rCB X.K X.mg (P.call k) vs H Q → wpAny (model X.prog X.w) X.A (PySem.call (.ref (Tb k).ad) us) (EP X pins st Q) X.xe s :=
      fun pins st H s Q us vs I rl q => W.toWd.call0 (rCB.lt W.toWd q) I rl q
    cases l with
    | nil =>
      cases es with
      | nil => exact se_run0 g1 g3 g4 g2 run
      | _ => cases h4
    | cons a l => exact se_run g1 g3 g4 g2 h3 (he.a X c _ W h4).1 run
  | callk k es ks ws pm he hw =>
    refine Snd.ofE rfl (fun _ _ _ _ _ => rfl) fun X c ex W h => ?_
    simp only [chk] at h
    split at h <;> first | cases h | skip
    rename_i x np l kw pos
    simp only [Bool.and_eq_true, decide_eq_true_eq] at h
    obtain ⟨⟨⟨⟨⟨⟨⟨h1, h2⟩, h3⟩, h5⟩, h6⟩, h7⟩, h4⟩, h8⟩ := h
    obtain ⟨g1, g2⟩ := W.gl h1
    obtain ⟨g3, g4⟩ := W.fns x k h2
    subst h6
    have run : ∀ (pins : List (Addr × Obj)) (st : L2.St) (H : Hp) (s : Shared) (Q : VK) (us ws : List Value) (vs zs : List V), L2.Inv X pins st H s → Vals vs us → Vals zs ws → rCK X.K X.mg (fun as bs => bnd (permK (pm.length - (kw.filterMap (·.arg)).length) (kw.filterMap (·.arg)).length pm as bs) (P.call k)) vs zs H Q →
        wpAny (model X.prog X.w) X.A (PySem.call (.ref (Tb k).ad) us ((kw.filterMap (·.arg)).zip ws)) (EP X pins st Q) X.xe s := fun pins st H s Q us ws vs zs I rl rz q => se_callRunK W.toWd h7 pins st H s Q us ws vs zs I rl rz q
    cases l with
    | nil =>
      cases es with
      | nil => exact se_runK0 g1 g3 g4 g2 h5 (hw.k X c _ W h8) run
      | _ => cases h4
    | cons a l => exact se_runK g1 g3 g4 g2 h3 h5 (he.a X c _ W h4).1 (hw.k X c _ W h8) run
  | mk C es he =>
    refine Snd.ofE rfl (fun _ _ _ _ _ => rfl) fun X c ex W h => ?_
    simp only [chk] at h
    split at h <;> first | cases h | skip
    rename_i x np l pos
    simp only [Bool.and_eq_true, decide_eq_true_eq] at h
    obtain ⟨⟨⟨⟨rfl, h1⟩, h2⟩, h3⟩, h4⟩ := h
    obtain ⟨g1, g2⟩ := W.gl h1
    split at h2 <;> first | cases h2 | skip
    rename_i d ed
    obtain ⟨k, ek⟩ := Option.isSome_iff_exists.mp h2
    have ed' : P.cl C = some d := by unfold Phi.cl; rw [W.cl]; exact ed
    have A := W.top.one C d ed'
    have run := se_mkRun W.toWd ed' ek
    cases l with
    | nil =>
      cases es with
      | nil => exact se_run0 g1 A.mg (A.ini k ek).kp g2 run
      | _ => cases h4
    | cons a l => exact se_run g1 A.mg (A.ini k ek).kp g2 h3 (he.a X c _ W h4).1 run
  | mkk C es ks ws pm he hw =>
    refine Snd.ofE rfl (fun _ _ _ _ _ => rfl) fun X c ex W h => ?_
    simp only [chk] at h
    split at h <;> first | cases h | skip
    rename_i x np l kw pos
    simp only [Bool.and_eq_true, decide_eq_true_eq] at h
    obtain ⟨⟨⟨⟨⟨⟨⟨rfl, h1⟩, h2⟩, h3⟩, h5⟩, h6⟩, h4⟩, h8⟩ := h
    obtain ⟨g1, g2⟩ := W.gl h1
    split at h2 <;> first | cases h2 | skip
    rename_i d ed
    split at h2 <;> first | cases h2 | skip
    rename_i k ek
    have h7 := of_decide_eq_true h2
    have ed' : P.cl C = some d := by unfold Phi.cl; rw [W.cl]; exact ed
    have A := W.top.one C d ed'
    subst h6
    have run := se_mkRunK W.toWd ed' ek h7
    cases l with
    | nil =>
      cases es with
      | nil => exact se_runK0 g1 A.mg (A.ini k ek).kp g2 h5 (hw.k X c _ W h8) run
      | _ => cases h4
    | cons a l => exact se_runK g1 A.mg (A.ini k ek).kp g2 h3 h5 (he.a X c _ W h4).1 (hw.k X c _ W h8) run
  | me f x es hx he =>
    refine Snd.ofE rfl (fun _ _ _ _ _ => rfl) fun X c ex W h => ?_
    simp only [chk] at h
    split at h <;> first | cases h | skip
    rename_i o f' apos l pos
    simp only [Bool.and_eq_true, decide_eq_true_eq] at h
    obtain ⟨⟨⟨⟨⟨⟨rfl, h1⟩, h2⟩, h3⟩, h4⟩, h5⟩, h6⟩ := h
    cases l with
    | nil =>
      cases es with
      | nil => exact se_me0 W.toWd (hx.e X c _ W h5) h1 h2
      | _ => cases h6
    | cons a l => exact se_me W.toWd (hx.e X c _ W h5) h1 h2 h3 (decide_eq_true (Nat.lt_succ_of_lt h4)) (he.a X c _ W h6).1
  | mek f x es ks ws pm hx he hw =>
    refine Snd.ofE rfl (fun _ _ _ _ _ => rfl) fun X c ex W h => ?_
    simp only [chk] at h
    split at h <;> first | cases h | skip
    rename_i o f' apos l kw pos
    rw [Bool.and_eq_true, Bool.and_eq_true, Bool.and_eq_true, Bool.and_eq_true, Bool.and_eq_true, Bool.and_eq_true, Bool.and_eq_true, Bool.and_eq_true, Bool.and_eq_true, Bool.and_eq_true, decide_eq_true_eq, decide_eq_true_eq, decide_eq_true_eq] at h
    obtain ⟨⟨⟨⟨⟨⟨⟨⟨⟨⟨rfl, h1⟩, h2⟩, h3⟩, h4⟩, h5⟩, h6⟩, h7⟩, h8⟩, h9⟩, h10⟩ := h
    have hkw : ∀ C d k, P.cl C = some d → d.meths.lookup f = some k → (k, ks, pm) ∈ G.kws := fun C d k e1 e2 => by
      unfold Phi.cl at e1
      rw [W.cl] at e1
      have q := List.all_eq_true.mp h7 d (List.mem_of_find?_eq_some e1)
      rw [e2] at q
      exact of_decide_eq_true q
    cases l with
    | nil =>
      cases es with
      | nil => exact se_mek0 W.toWd (hx.e X c _ W h8) h1 h2 (decide_eq_true (by simpa using h4)) h5 h6 hkw (hw.k X c _ W h10)
      | _ => cases h9
    | cons a l => exact se_mek W.toWd (hx.e X c _ W h8) h1 h2 h3 (decide_eq_true h4) h5 h6 hkw (he.a X c _ W h9).1 (hw.k X c _ W h10)
  | bi f es he =>
    refine Snd.ofE rfl (fun _ _ _ _ _ => rfl) fun X c ex W h => ?_
    simp only [chk] at h
    split at h <;> first | cases h | skip
    rw [Bool.and_eq_true, Bool.and_eq_true, Bool.and_eq_true, decide_eq_true_eq] at h
    obtain ⟨⟨⟨rfl, h1⟩, h2⟩, h3⟩ := h
    obtain ⟨g1, g2, g3, g4⟩ := W.blt h1
    exact se_bi W.toWd g1 g2 g3 g4 h2 (he.a X c _ W h3).1
  | ty f mu es he =>
    refine Snd.ofE rfl (fun _ _ _ _ _ => rfl) fun X c ex W h => ?_
    simp only [chk] at h
    split at h <;> first | cases h | skip
    rw [Bool.and_eq_true, Bool.and_eq_true, Bool.and_eq_true, decide_eq_true_eq] at h
    obtain ⟨⟨⟨rfl, h1⟩, h2⟩, h3⟩ := h
    obtain ⟨g1, g2, g3, g4⟩ := W.blt h1
    exact se_ty g1 g2 g3 g4 h2 (he.a X c _ W h3).1
  | eo ne x y hx hy =>
    refine Snd.ofE rfl (fun _ _ _ _ _ => rfl) fun X c ex W h => ?_
    simp only [chk] at h
    split at h <;> first | cases h | skip
    simp only [Bool.and_eq_true, decide_eq_true_eq, Bool.not_eq_true'] at h
    obtain ⟨⟨⟨rfl, h1⟩, h2⟩, h3⟩ := h
    exact se_eo W.toWd h1 (hx.e X c _ W h2) (hy.e X c _ W h3)
  | te ne x y hx hy =>
    refine Snd.ofT rfl fun X c ex W h => ?_
    simp only [chk] at h
    split at h <;> first | cases h | skip
    simp only [Bool.and_eq_true, decide_eq_true_eq, Bool.not_eq_true'] at h
    obtain ⟨⟨⟨rfl, h1⟩, h2⟩, h3⟩ := h
    exact ⟨st_te W.toWd h1 (hx.e X c _ W h2) (hy.e X c _ W h3), fun z => by cases z⟩
  | bo es he =>
    refine Snd.ofE rfl (fun _ _ _ _ _ => rfl) fun X c ex W h => ?_
    simp only [chk] at h
    split at h <;> first | cases h | skip
    rw [Bool.and_eq_true, Bool.and_eq_true, Bool.and_eq_true, decide_eq_true_eq] at h
    obtain ⟨⟨⟨rfl, h1⟩, h2⟩, h3⟩ := h
    obtain ⟨g1, g2, g3, g4⟩ := W.blt h1
    exact se_bo W.toWd g1 g2 h2 (he.a X c _ W h3).1
  | so es he =>
    refine Snd.ofE rfl (fun _ _ _ _ _ => rfl) fun X c ex W h => ?_
    simp only [chk] at h
    split at h <;> first | cases h | skip
    rw [Bool.and_eq_true, Bool.and_eq_true, Bool.and_eq_true, decide_eq_true_eq] at h
    obtain ⟨⟨⟨rfl, h1⟩, h2⟩, h3⟩ := h
    obtain ⟨g1, g2, g3, g4⟩ := W.blt h1
    exact se_so W.toWd g1 g2 h2 (he.a X c _ W h3).1
  | sp x y hx hy =>
    refine Snd.ofE rfl (fun _ _ _ _ _ => rfl) fun X c ex W h => ?_
    simp only [chk] at h
    split at h <;> first | cases h | skip
    simp only [Bool.and_eq_true, decide_eq_true_eq] at h
    obtain ⟨⟨⟨⟨⟨rfl, h1⟩, h2⟩, h3⟩, h4⟩, h5⟩ := h
    exact se_sp (hx.e X c _ W h4) (hy.e X c _ W h5) h1 h2 h3
  | pt x y hx hy =>
    refine Snd.ofE rfl (fun _ _ _ _ _ => rfl) fun X c ex W h => ?_
    simp only [chk] at h
    split at h <;> first | cases h | skip
    simp only [Bool.and_eq_true, decide_eq_true_eq] at h
    obtain ⟨⟨⟨⟨⟨rfl, h1⟩, h2⟩, h3⟩, h4⟩, h5⟩ := h
    exact se_pt (hx.e X c _ W h4) (hy.e X c _ W h5) h1 h2 h3
  | cm C f es he =>
    refine Snd.ofE rfl (fun _ _ _ _ _ => rfl) fun X c ex W h => ?_
    simp only [chk] at h
    split at h <;> first | cases h | skip
    simp only [Bool.and_eq_true, decide_eq_true_eq] at h
    obtain ⟨⟨⟨⟨⟨⟨⟨rfl, rfl⟩, h1⟩, h2⟩, h3⟩, h4⟩, h5⟩, h6⟩ := h
    obtain ⟨g1, g2⟩ := W.gl h1
    split at h2 <;> first | cases h2 | skip
    rename_i d ed
    obtain ⟨k, ek⟩ := Option.isSome_iff_exists.mp h2
    have ed' : P.cl C = some d := by unfold Phi.cl; rw [W.cl]; exact ed
    exact se_cm W.toWd g1 g2 ed' ek h3 h4 (decide_eq_true h5) (he.a X c _ W h6).1
  | cmk C f ks ws pm hw =>
    refine Snd.ofE rfl (fun _ _ _ _ _ => rfl) fun X c ex W h => ?_
    simp only [chk] at h
    split at h <;> first | cases h | skip
    simp only [Bool.and_eq_true, decide_eq_true_eq] at h
    obtain ⟨⟨⟨⟨⟨⟨⟨⟨rfl, rfl⟩, h1⟩, h2⟩, h3⟩, h4⟩, h5⟩, h6⟩, h7⟩ := h
    obtain ⟨g1, g2⟩ := W.gl h1
    split at h2 <;> first | cases h2 | skip
    rename_i d ed
    split at h2 <;> first | cases h2 | skip
    rename_i k ek
    have hkw := of_decide_eq_true h2
    have ed' : P.cl C = some d := by unfold Phi.cl; rw [W.cl]; exact ed
    exact se_cmk W.toWd g1 g2 ed' ek h3 h4 h5 (decide_eq_true h6) hkw (hw.k X c _ W h7)
  | mv k es he =>
    refine Snd.ofE rfl (fun _ _ _ _ _ => rfl) fun X c ex W h => ?_
    simp only [chk] at h
    split at h <;> first | cases h | skip
    rw [Bool.and_eq_true, Bool.and_eq_true, Bool.and_eq_true, Bool.and_eq_true, Bool.and_eq_true] at h
    obtain ⟨⟨⟨⟨⟨h1, h2⟩, h3⟩, h4⟩, h5⟩, h6⟩ := h
    exact se_mv W.toWd (W.slot h1) (W.vis h2) (by simpa [ndb] using h3) (by simpa using h4) h5 (he.a X c _ W h6).1
  | jn x y hx hy =>
    refine Snd.ofE rfl (fun _ _ _ _ _ => rfl) fun X c ex W h => ?_
    simp only [chk] at h
    split at h <;> first | cases h | skip
    simp only [Bool.and_eq_true, decide_eq_true_eq] at h
    obtain ⟨⟨⟨⟨⟨rfl, h1⟩, h2⟩, h3⟩, h4⟩, h5⟩ := h
    exact se_jn (hx.e X c _ W h4) (hy.e X c _ W h5) h1 h2 h3
  | li x y hx hy =>
    refine Snd.ofE rfl (fun _ _ _ _ _ => rfl) fun X c ex W h => ?_
    simp only [chk] at h
    split at h <;> first | cases h | skip
    simp only [Bool.and_eq_true, decide_eq_true_eq] at h
    obtain ⟨⟨⟨⟨⟨rfl, h1⟩, h2⟩, h3⟩, h4⟩, h5⟩ := h
    exact se_li (hx.e X c _ W h4) (hy.e X c _ W h5) h1 h2 h3
  | rl mu x hx =>
    refine Snd.ofE rfl (fun _ _ _ _ _ => rfl) fun X c ex W h => ?_
    simp only [chk] at h
    split at h <;> first | cases h | skip
    simp only [Bool.and_eq_true, decide_eq_true_eq] at h
    obtain ⟨⟨⟨⟨⟨rfl, h1⟩, rfl⟩, h2⟩, h3⟩, h4⟩ := h
    obtain ⟨g1, g2, g3, g4⟩ := W.blt h1
    obtain ⟨k1, k2, k3, k4⟩ := W.blt h2
    exact se_rl W.cm g1 g2 k1 k2 h3 (hx.e X c _ W h4)
  | rl2 mu x y hx hy =>
    refine Snd.ofE rfl (fun _ _ _ _ _ => rfl) fun X c ex W h => ?_
    simp only [chk] at h
    split at h <;> first | cases h | skip
    simp only [Bool.and_eq_true, decide_eq_true_eq] at h
    obtain ⟨⟨⟨⟨⟨⟨⟨rfl, h1⟩, rfl⟩, h2⟩, h3⟩, h3b⟩, h4⟩, h5⟩ := h
    obtain ⟨g1, g2, g3, g4⟩ := W.blt h1
    obtain ⟨k1, k2, k3, k4⟩ := W.blt h2
    exact se_rl2 W.cm g1 g2 k1 k2 h3 h3b (hx.e X c _ W h4) (hy.e X c _ W h5)
  | bm f x es hx he =>
    refine Snd.ofE rfl (fun _ _ _ _ _ => rfl) fun X c ex W h => ?_
    simp only [chk] at h
    split at h <;> first | cases h | skip
    rw [Bool.and_eq_true, Bool.and_eq_true, Bool.and_eq_true, Bool.and_eq_true, Bool.and_eq_true, Bool.and_eq_true, decide_eq_true_eq] at h
    obtain ⟨⟨⟨⟨⟨⟨rfl, h1⟩, h2⟩, h3⟩, h4⟩, h5⟩, h6⟩ := h
    cases f with
    | append => exact se_bm PySem.F.slot_list_append PySem.F.type_list_append mr_append (hx.e X c _ W h5) h1 h2 h3 h4 (he.a X c _ W h6).1
    | extend => exact se_bm PySem.F.slot_list_extend PySem.F.type_list_extend mr_extend (hx.e X c _ W h5) h1 h2 h3 h4 (he.a X c _ W h6).1
  | nil =>
    refine ⟨fun X c x _ q => ?_, fun X c elt gs sc pos _ q => ?_, fun X c x _ q => ?_, fun X c l W q => ?_, fun X c l W q => ?_, fun X c l W q => ?_, fun X c x y _ q => ?_, fun X c x _ q => ?_, fun X c l W q => ?_, fun X c x _ q => ?_, fun X c l W q => ?_⟩
    · cases q
    · cases q
    · cases q
    · cases l with
      | nil => exact ⟨sa_nil, fun _ r m ds m' e => by cases e; rfl⟩
      | cons _ _ => cases q
    · cases l with
      | nil => exact sk_nil
      | cons _ _ => cases q
    · cases l with
      | nil => exact ⟨.nil, rfl⟩
      | cons _ _ => cases q
    · cases q
    · cases q
    · cases l with
      | nil =>
        refine ⟨sgs_nil, fun ds r m F h => ?_⟩
        cases ds with
        | nil => rfl
        | cons _ _ => exact (show False from h).elim
      | cons _ _ => cases q
    · cases q
    · cases l with
      | nil => exact ss_nil
      | cons _ _ => cases q
  | cons x y hx hy =>
    refine ⟨fun X c x _ q => ?_, fun X c elt gs sc pos _ q => ?_, fun X c x _ q => ?_, fun X c l W q => ?_, fun X c l W q => ?_, fun X c l W q => ?_, fun X c x y _ q => ?_, fun X c x _ q => ?_, fun X c l W q => ?_, fun X c x _ q => ?_, fun X c l W q => ?_⟩
    · cases q
    · cases q
    · cases q
    · cases l with
      | nil => cases q
      | cons a l =>
        have q : (nst a && (chk G x).e c a && (chk G y).a c l) = true := q
        rw [Bool.and_eq_true, Bool.and_eq_true] at q
        obtain ⟨h1, h2⟩ := hy.a X c l W q.2
        refine ⟨sa_cons q.1.1 (hx.e X c a W q.1.2) h1, fun hn r m ds m' e => ?_⟩
        rw [List.all_cons, Bool.and_eq_true] at hn
        obtain ⟨p, m1, e1, e2⟩ := bnd_ok e
        obtain ⟨q2, m2, e3, e4⟩ := bnd_ok e2
        cases e4
        rw [List.length_cons, List.length_cons, h2 hn.2 _ _ _ _ e3]
    · cases l with
      | nil => cases q
      | cons a l =>
        obtain ⟨nm, a, kp⟩ := a
        have q : ((chk G x).e c a && (chk G y).k c l) = true := q
        rw [Bool.and_eq_true] at q
        exact sk_cons (hx.e X c a W q.1) (hy.k X c l W q.2)
    · cases l with
      | nil => cases q
      | cons a l =>
        have q : ((chk G x).e c a && (chk G y).j c l) = true := q
        rw [Bool.and_eq_true] at q
        obtain ⟨h1, h2⟩ := hy.j X c l W q.2
        exact ⟨.cons (hx.e X c a W q.1) h1, h2⟩
    · cases q
    · cases q
    · cases l with
      | nil => cases q
      | cons a l =>
        have q : (nst a && (chk G x).g c a && (chk G y).gs c l) = true := q
        rw [Bool.and_eq_true, Bool.and_eq_true] at q
        obtain ⟨h1, h2⟩ := hy.gs X c l W q.2
        refine ⟨sgs_cons q.1.1 (hx.g X c a W q.1.2) h1, fun ds r m F h => ?_⟩
        cases ds with
        | nil => exact (show False from h).elim
        | cons d ds =>
          have h := Post.of_bnd (show Post (bnd ((den P x).g d r) (fun r' => (den P y).gs ds r') m) F from h)
          cases e : (den P x).g d r m with
          | ok r2 m2 =>
            rw [e] at h
            rw [List.length_cons, List.length_cons, h2 ds r2 m2 F h]
          | exc C fs m2 => rw [e] at h; exact (show False from h).elim
          | bad => rw [e] at h; exact (show False from h).elim
    · cases q
    · cases l with
      | nil => cases q
      | cons a l =>
        have q : ((chk G x).s c a && (chk G y).ss c l) = true := q
        rw [Bool.and_eq_true] at q
        exact ss_cons (hx.s X c a W q.1) (hy.ss X c l W q.2)
  | star x y hx hy =>
    refine ⟨fun X c x _ q => ?_, fun X c elt gs sc pos _ q => ?_, fun X c x _ q => ?_, fun X c l W q => ?_, fun X c l W q => ?_, fun X c l W q => ?_, fun X c x y _ q => ?_, fun X c x _ q => ?_, fun X c l W q => ?_, fun X c x _ q => ?_, fun X c l W q => ?_⟩
    · cases q
    · cases q
    · cases q
    · simp only [chk] at q
      split at q <;> first | cases q | skip
      rw [Bool.and_eq_true] at q
      refine ⟨sa_star (hx.e X c _ W q.1) (hy.a X c _ W q.2).1, fun hn => ?_⟩
      rw [List.all_cons, Bool.and_eq_true] at hn
      exact absurd hn.1 (by simp [nst])
    all_goals cases q
  | tc o x y hx hy =>
    refine Snd.ofT rfl fun X c ex W h => ?_
    simp only [chk] at h
    split at h <;> first | cases h | skip
    simp only [Bool.and_eq_true, decide_eq_true_eq, Bool.not_eq_true'] at h
    obtain ⟨⟨⟨rfl, h1⟩, h2⟩, h3⟩ := h
    exact ⟨st_cmp W.rm.units h1 (hx.e X c _ W h2) (hy.e X c _ W h3), fun z => by cases z⟩
  | tch o o2 x y z hx hy hz =>
    refine Snd.ofT rfl fun X c ex W h => ?_
    simp only [chk] at h
    split at h <;> first | cases h | skip
    simp only [Bool.and_eq_true, decide_eq_true_eq, Bool.not_eq_true'] at h
    obtain ⟨⟨⟨⟨⟨rfl, rfl⟩, h1⟩, h2⟩, h3⟩, h4⟩ := h
    exact ⟨st_chain W.rm.units h1 (hx.e X c _ W h2) (hy.e X c _ W h3) (hz.e X c _ W h4), fun z => by cases z⟩
  | ta x y hx hy =>
    refine Snd.ofT rfl fun X c ex W h => ?_
    simp only [chk] at h
    split at h <;> first | cases h | skip
    · rw [Bool.and_eq_true] at h
      have := sw_and (pos := ‹Pos›) (hx.t X c _ W h.1).1 (pw_and1 (hy.t X c _ W h.2).1)
      exact ⟨this.pt, fun _ => this⟩
    · rw [Bool.and_eq_true] at h
      have := sw_and (hx.t X c _ W h.1).1 ((hy.t X c _ W h.2).2 rfl)
      exact ⟨this.pt, fun _ => this⟩
  | to x y hx hy =>
    refine Snd.ofT rfl fun X c ex W h => ?_
    simp only [chk] at h
    split at h <;> first | cases h | skip
    · rw [Bool.and_eq_true] at h
      have := sw_or (pos := ‹Pos›) (hx.t X c _ W h.1).1 (pw_or1 (hy.t X c _ W h.2).1)
      exact ⟨this.pt, fun _ => this⟩
    · rw [Bool.and_eq_true] at h
      have := sw_or (hx.t X c _ W h.1).1 ((hy.t X c _ W h.2).2 rfl)
      exact ⟨this.pt, fun _ => this⟩
  | tn x hx =>
    refine Snd.ofT rfl fun X c ex W h => ?_
    simp only [chk] at h
    split at h <;> first | cases h | skip
    exact ⟨st_not (hx.t X c _ W h).1, fun z => by cases z⟩
  | tv x hx =>
    refine Snd.ofT rfl fun X c ex W h => ?_
    have h : (ntest ex && (chk G x).e c ex) = true := h
    rw [Bool.and_eq_true] at h
    refine ⟨st_val (hx.e X c _ W h.2) (true_ntest h.1), fun z => ?_⟩
    cases ex with
    | BoolOp _ _ _ => cases h.1
    | _ => cases z
  | itr es he =>
    refine Snd.ofQ rfl fun X c tg ex W h => ?_
    simp only [chk] at h
    split at h <;> first | cases h | skip
    · rw [Bool.and_eq_true, Bool.and_eq_true, Bool.and_eq_true, decide_eq_true_eq] at h
      obtain ⟨⟨⟨rfl, h1⟩, h2⟩, h3⟩ := h
      obtain ⟨g1, g2, g3, g4⟩ := W.blt h1
      obtain ⟨a1, a2⟩ := he.a X c _ W h3
      exact si_range1 g1 g2 h2 a1 (a2 (by rw [List.all_cons, h2] <;> rfl))
    · rw [Bool.and_eq_true, Bool.and_eq_true, Bool.and_eq_true, Bool.and_eq_true, decide_eq_true_eq] at h
      obtain ⟨⟨⟨⟨rfl, h1⟩, h2⟩, h4⟩, h3⟩ := h
      obtain ⟨g1, g2, g3, g4⟩ := W.blt h1
      obtain ⟨a1, a2⟩ := he.a X c _ W h3
      exact si_range2 g1 g2 h2 h4 a1 (a2 (by rw [List.all_cons, List.all_cons, h2, h4] <;> rfl))
    · rw [Bool.and_eq_true, Bool.and_eq_true, Bool.and_eq_true, Bool.and_eq_true, Bool.and_eq_true, decide_eq_true_eq] at h
      obtain ⟨⟨⟨⟨⟨rfl, h1⟩, h2⟩, h4⟩, h5⟩, h3⟩ := h
      obtain ⟨g1, g2, g3, g4⟩ := W.blt h1
      obtain ⟨a1, a2⟩ := he.a X c _ W h3
      exact si_range3 g1 g2 h2 h4 h5 a1 (a2 (by rw [List.all_cons, List.all_cons, List.all_cons, h2, h4, h5] <;> rfl))
  | ite es he =>
    refine Snd.ofQ rfl fun X c tg ex W h => ?_
    simp only [chk] at h
    split at h <;> first | cases h | skip
    rw [Bool.and_eq_true, Bool.and_eq_true, Bool.and_eq_true, decide_eq_true_eq] at h
    obtain ⟨⟨⟨rfl, h1⟩, h2⟩, h3⟩ := h
    obtain ⟨g1, g2, g3, g4⟩ := W.blt h1
    exact si_enum g1 g2 h2 (he.a X c _ W h3).1
  | itz es he =>
    refine Snd.ofQ rfl fun X c tg ex W h => ?_
    simp only [chk] at h
    split at h <;> first | cases h | skip
    rw [Bool.and_eq_true, Bool.and_eq_true, Bool.and_eq_true, Bool.and_eq_true, decide_eq_true_eq] at h
    obtain ⟨⟨⟨⟨rfl, h1⟩, h2⟩, h4⟩, h3⟩ := h
    obtain ⟨g1, g2, g3, g4⟩ := W.blt h1
    exact si_zip g1 g2 h2 h4 (he.a X c _ W h3).1
  | itv x hx => exact Snd.ofQ rfl fun X c tg ex W h => si_val (hx.e X c ex W h)
  | gv k =>
    refine Snd.ofG rfl fun X c ex W h => ?_
    simp only [chk] at h
    split at h <;> first | cases h | skip
    obtain ⟨h1, h2, h3⟩ := W.store h
    exact sg_var W.nd h1 h2 h3
  | gt es he =>
    refine Snd.ofG rfl fun X c ex W h => ?_
    simp only [chk] at h
    split at h <;> first | cases h | skip
    rw [Bool.and_eq_true] at h
    obtain ⟨h1, h2⟩ := he.gs X c _ W h.2
    exact sg_tup W.cm h.1 h1 h2
  | gs x y hx hy =>
    refine Snd.ofG rfl fun X c ex W h => ?_
    simp only [chk] at h
    split at h <;> first | cases h | skip
    rw [Bool.and_eq_true, Bool.and_eq_true] at h
    exact sg_sub h.1.1 (hx.e X c _ W h.1.2) (hy.e X c _ W h.2)
  | ga f x hx =>
    refine Snd.ofG rfl fun X c ex W h => ?_
    simp only [chk] at h
    split at h <;> first | cases h | skip
    rw [Bool.and_eq_true, decide_eq_true_eq] at h
    obtain ⟨rfl, h⟩ := h
    exact sg_at W.toWd (hx.e X c _ W h)
  | ret0 =>
    refine Snd.ofS rfl fun X c st W h => ?_
    simp only [chk] at h
    split at h <;> first | cases h | skip
    exact s_ret0
  | ret x hx =>
    refine Snd.ofS rfl fun X c st W h => ?_
    simp only [chk] at h
    split at h <;> first | cases h | skip
    exact s_ret (hx.e X c _ W h)
  | ex1 x hx =>
    refine Snd.ofS rfl fun X c st W h => ?_
    simp only [chk] at h
    split at h <;> first | cases h | skip
    rw [Bool.and_eq_true] at h
    exact s_expr h.1 (hx.e X c _ W h.2)
  | pass =>
    refine Snd.ofS rfl fun X c st W h => ?_
    simp only [chk] at h
    split at h <;> first | cases h | skip
    exact s_pass
  | brk =>
    refine Snd.ofS rfl fun X c st W h => ?_
    simp only [chk] at h
    split at h <;> first | cases h | skip
    exact s_brk
  | cnt =>
    refine Snd.ofS rfl fun X c st W h => ?_
    simp only [chk] at h
    split at h <;> first | cases h | skip
    exact s_cnt
  | ifs d x y hd hx hy =>
    refine Snd.ofS rfl fun X c st W h => ?_
    simp only [chk] at h
    split at h <;> first | cases h | skip
    rw [Bool.and_eq_true, Bool.and_eq_true] at h
    exact s_if (hd.t X c _ W h.1.1).1 (hx.ss X c _ W h.1.2) (hy.ss X c _ W h.2)
  | whl d x hd hx =>
    refine Snd.ofS rfl fun X c st W h => ?_
    simp only [chk] at h
    split at h <;> first | cases h | skip
    rw [Bool.and_eq_true] at h
    exact ss_while W.hxe (hd.t X c _ W h.1).1 (hx.ss X c _ W h.2)
  | fr g it x hg hi hx =>
    refine Snd.ofS rfl fun X c st W h => ?_
    simp only [chk] at h
    split at h <;> first | cases h | skip
    rw [Bool.and_eq_true, Bool.and_eq_true, Bool.and_eq_true] at h
    obtain ⟨⟨⟨h1, h2⟩, h3⟩, h4⟩ := h
    exact ss_for W.hxe W.cm (hi.q X c _ _ W h2) (hg.g X c _ W h3) (hx.ss X c _ W h4) (nset_ok h1)
  | bad => exact Snd.ofS rfl fun X c st W h => s_bad
  | aug k o x hx =>
    refine Snd.ofS rfl fun X c st W h => ?_
    simp only [chk] at h
    split at h <;> first | cases h | skip
    rw [Bool.and_eq_true, Bool.and_eq_true, decide_eq_true_eq] at h
    obtain ⟨⟨rfl, h1⟩, h2⟩ := h
    obtain ⟨g1, g2, g3⟩ := W.store h1
    exact s_aug W.nd g1 g2 g3 (hx.e X c _ W h2)
  | augs x y o z hx hy hz =>
    refine Snd.ofS rfl fun X c st W h => ?_
    simp only [chk] at h
    split at h <;> first | cases h | skip
    rw [Bool.and_eq_true, Bool.and_eq_true, Bool.and_eq_true, Bool.and_eq_true, decide_eq_true_eq] at h
    obtain ⟨⟨⟨⟨rfl, h1⟩, h2⟩, h3⟩, h4⟩ := h
    exact s_augs (hx.e X c _ W h2) (hy.e X c _ W h3) (hz.e X c _ W h4) h1
  | try1 x hx =>
    refine Snd.ofS rfl fun X c st W h => ?_
    simp only [chk] at h
    split at h <;> first | cases h | skip
    exact s_try (hx.ss _ c _ W.nox h)
  | set k x hx =>
    refine Snd.ofS rfl fun X c st W h => ?_
    simp only [chk] at h
    split at h <;> first | cases h | skip
    rw [Bool.and_eq_true, Bool.and_eq_true, Bool.not_eq_true'] at h
    obtain ⟨⟨h1, h2⟩, h3⟩ := h
    obtain ⟨g1, g2, g3⟩ := W.store h1
    exact s_set W.nd g1 g2 g3 (swap_false W h2) (hx.e X c _ W h3)
  | setc k x hx =>
    refine Snd.ofS rfl fun X c st W h => ?_
    simp only [chk] at h
    split at h <;> first | cases h | skip
    rw [Bool.and_eq_true, Bool.and_eq_true] at h
    obtain ⟨⟨h1, h2⟩, h3⟩ := h
    obtain ⟨tg, it, ifs, q, g, ws, t, e, own, Wn, mu, rfl, ok, hsub, hi, hg, ht, he, hs, hf⟩ := hx.lc X c _ _ _ _ W h3
    show PS X _ (tS X.K X.mg fun r => bnd ((den P x).e r) fun p => LC.ret (.nx (r.set k (some p))))
    rw [hf]
    have h2' := h2
    unfold swapL at h2'
    rw [Bool.and_eq_true, Bool.and_eq_true] at h2'
    exact s_setc W.cm W.nd (W.slot h1) (by rw [W.hsc]; exact isK_of h2'.1.1) (swap_true W h2) ok hsub hi hg ht he hs
  | par ks es he =>
    refine Snd.ofS rfl fun X c st W h => ?_
    simp only [chk] at h
    split at h <;> first | cases h | skip
    · split at h <;> first | cases h | skip
      simp only [Bool.and_eq_true, decide_eq_true_eq, Bool.not_eq_true'] at h
      obtain ⟨⟨⟨⟨⟨⟨⟨⟨⟨⟨⟨h1, h2⟩, h3⟩, h4⟩, h5⟩, h6⟩, h7⟩, h8⟩, h9⟩, h10⟩, h11⟩, h12⟩ := h
      exact s_par2 W.cm W.nd (W.slot h1) (W.slot h2) h3 (by rw [W.hsc]; exact isK_of h5) (by rw [W.hsc]; exact isK_of h6) (he.a X c _ W h12).1 (stores_two W h5 h6 h7 h4 h10 h11 h8 h9) rfl
    · split at h <;> first | cases h | skip
      simp only [Bool.and_eq_true, decide_eq_true_eq, Bool.not_eq_true'] at h
      obtain ⟨⟨⟨⟨⟨⟨⟨⟨⟨⟨⟨⟨⟨⟨⟨⟨⟨⟨⟨h1, h2⟩, h3⟩, h4⟩, h5⟩, h6⟩, h7⟩, h8⟩, h9⟩, h10⟩, h11⟩, h12⟩, h13⟩, h14⟩, h15⟩, h16⟩, h17⟩, h18⟩, h19⟩, h20⟩ := h
      exact s_par3 W.cm W.nd (W.slot h1) (W.slot h2) (W.slot h3) h4 h5 h6 (by rw [W.hsc]; exact isK_of h10) (by rw [W.hsc]; exact isK_of h11) (by rw [W.hsc]; exact isK_of h12) (he.a X c _ W h20).1 (stores_three W h10 h11 h12 h13 h14 h7 h8 h9 h17 h18 h19 h15 h16) rfl
  | asg g x hg hx =>
    refine Snd.ofS rfl fun X c st W h => ?_
    simp only [chk] at h
    split at h <;> first | cases h | skip
    rw [Bool.and_eq_true, Bool.and_eq_true, Bool.and_eq_true, Bool.and_eq_true] at h
    obtain ⟨⟨⟨⟨h1, h2⟩, h3⟩, h4⟩, h5⟩ := h
    exact s_asg h1 (hx.e X c _ W h4) (hg.g X c _ W h5) (swaps_ncomp h2) (stores_none W h3)
end
end LC

/-! # LcS: the whole program, the law's own call -/
namespace LC
open PySem PySem.Spec PyProof.Rows L2
/-- a def of the text, with its term -/
structure DInfo where
  x : Str
  qual : Str
  st : Stmt
  N : List Str
  ps : List Str
  body : T
def scopeC (N ps : List Str) (sc : Scope) : Bool :=
  decide (sc.kind = .function) && !sc.isCoroutine && !sc.isGenerator && decide N.Nodup && decide (N.take ps.length = ps) && (ps.all fun x => sc.names.lookup x == some .local || sc.names.lookup x == some .cell) && sc.names.all fun y => decide (y.2 ≠ .free)
theorem scope_of {N ps : List Str} {sc : Scope} (h : scopeC N ps sc = true) : FnScope N ps sc := by
  unfold scopeC at h
  simp only [Bool.and_eq_true, decide_eq_true_eq, Bool.not_eq_true', List.all_eq_true, Bool.or_eq_true, beq_iff_eq] at h
  obtain ⟨⟨⟨⟨⟨⟨h1, h2⟩, h3⟩, h4⟩, h5⟩, h6⟩, h7⟩ := h
  exact ⟨h1, h2, h3, h4, h5, h6, h7⟩
/-- what is asked of the text of a def alone -/
def okD (G : GT) (d : DInfo) : Bool := scopeC d.N d.ps (defScope d.st) && (chk G d.body).ss ⟨d.N, defScope d.st, fun _ => true⟩ (defBody d.st)
/-- .. as it stands behind the top -/
structure DefOk (K : PySem.W.Frag) (d : DInfo) (t : DefAt) : Prop where
  fn : Fun K d.x d.qual d.st t.ad t.fd
  ps : t.ps = d.ps
  bd : Binds K t.fd t.ps []
inductive All2 {α β : Type} (R : α → β → Prop) : List α → List β → Prop where
  | nil : All2 R [] []
  | cons {a : α} {b : β} {l : List α} {m : List β} : R a b → All2 R l m → All2 R (a :: l) (b :: m)
theorem All2.get {α β : Type} {R : α → β → Prop} {l : List α} {m : List β} (h : All2 R l m) : ∀ {k : Nat} {a : α}, l[k]? = some a → ∃ b, m[k]? = some b ∧ R a b := by
  induction h with
  | nil => intro k a e; simp at e
  | cons r t ih =>
    intro k a e
    cases k with
    | zero => simp at e; subst e; exact ⟨_, rfl, r⟩
    | succ k => obtain ⟨b, e1, r1⟩ := ih (k := k) (by simpa using e); exact ⟨b, by simpa using e1, r1⟩
def dat0 : DefAt := ⟨0, PySem.W.fnOf (Str.ofString "") (Str.ofString "") { posonlyargs := [], args := [], vararg := none, kwonlyargs := [], kw_defaults := [], kwarg := none, defaults := [] } [] { kind := .function, names := [], isGenerator := false, isCoroutine := false } .none .none .none .none none .none .none, []⟩
def tbOf (ts : List DefAt) : Nat → DefAt := fun k => (ts[k]?).getD dat0
def progOf (dis : List DInfo) (cls : List LC.Cls) (gl : List (Str × D)) (W : Nat) : Prog := ⟨dis.map fun d => ⟨d.ps.length, d.N.length, d.body⟩, cls, gl, W⟩
/-- all that is asked of the program behind its top -/
structure Pg (K : PySem.W.Frag) (mg : Str → Option Value) (G : GT) (dis : List DInfo) (gl : List (Str × D)) (ts : List DefAt) (ca : Str → Addr) : Prop where
  n : G.n = dis.length
  ck : dis.all (okD G) = true
  defs : All2 (DefOk K) dis ts
  top : Top K mg G.cls (tbOf ts) ca
  kb : ∀ k ks pm, (k, ks, pm) ∈ G.kws → KBinds K (tbOf ts k).fd (tbOf ts k).ps ks (gOf (pm.length - ks.length) ks.length pm) (gOf (pm.length - ks.length) ks.length pm)
  fns : ∀ x k, G.fns.lookup x = some k → k < G.n ∧ mg x = some (.ref (tbOf ts k).ad)
  noG : ∀ x, G.noG.contains x = true → mg x = none
  glob : ∀ x d, gl.lookup x = some d → ∃ u v, mg x = some u ∧ RelV v u ∧ ∀ io N H, RepV K mg io N H d v
theorem callD_lt {Gp : Prog} : ∀ (n k : Nat) (as : List D) (m : Sto) (F : D → Sto → Prop), Post (callD Gp n k as m) F → k < Gp.defs.length
  | 0, k, as, m, F, h => (show False from h).elim
  | n + 1, k, as, m, F, h => by
    unfold callD at h
    cases e : Gp.defs[k]? with
    | none => rw [e] at h; exact (show False from h).elim
    | some d => exact (List.getElem?_eq_some_iff.mp e).1
theorem post_run {P : Phi} {d : DefI} {as : List D} {m : Sto} {F : D → Sto → Prop} (h : Post (runDef P d as m) F) : as.length = d.np ∧ Post ((den P d.body).s (as.map some ++ List.replicate (d.ns - d.np) none) m) (fun fl m' => match fl with
    | .nx _ => F .non m'
    | .rt x => F x m'
    | _ => False) := by
  unfold runDef at h
  split at h
  · rename_i hl
    refine ⟨hl, ?_⟩
    cases e : (den P d.body).s (as.map some ++ List.replicate (d.ns - d.np) none) m with
    | ok fl m' => rw [e] at h; cases fl <;> exact h
    | exc C fs m' => rw [e] at h; exact (show False from h).elim
    | bad => rw [e] at h; exact (show False from h).elim
  · exact (show False from h).elim
section
variable {Q : Program} {w : World} {K : PySem.W.Frag} {mg : Str → Option Value} {base : Heap} {G : GT} {dis : List DInfo} {gl : List (Str × D)} {ts : List DefAt} {ca : Str → Addr} {Wn : Nat}
theorem Pg.at_ (g : Pg K mg G dis gl ts ca) {k : Nat} (hk : k < G.n) : ∃ d, dis[k]? = some d ∧ okD G d = true ∧ DefOk K d (tbOf ts k) := by
  rw [g.n] at hk
  have e := List.getElem?_eq_getElem hk
  obtain ⟨b, e1, r⟩ := g.defs.get e
  refine ⟨_, e, List.all_eq_true.mp g.ck _ (List.mem_of_getElem? e), ?_⟩
  unfold tbOf
  rw [e1]
  exact r
/-- every def keeps its promise, at every depth -/
theorem Pg.fn (g : Pg K mg G dis gl ts ca) : ∀ n k, k < G.n → FnG Q w K mg base (3 * n) (tbOf ts k).ad (tbOf ts k).fd (tbOf ts k).ps (spM K mg (callD (progOf dis G.cls gl Wn) n k))
  | 0, k, _ => ⟨fun vs H Q E h => by obtain ⟨io, m, ps, _, _, h⟩ := h; exact (show False from h).elim, fun A outer s H args us vs Q hg hr e0 hb rl h => by obtain ⟨io, m, ps, _, _, h⟩ := h; exact (show False from h).elim⟩
  | n + 1, k, hk => by
    obtain ⟨d, ed, ok, dk⟩ := g.at_ hk
    unfold okD at ok
    rw [Bool.and_eq_true] at ok
    have S := scope_of ok.1
    rw [dk.ps]
    have ek : (progOf dis G.cls gl Wn).defs[k]? = some ⟨d.ps.length, d.N.length, d.body⟩ := by
      show (dis.map _)[k]? = _
      rw [List.getElem?_map, ed]
      rfl
    have un : ∀ {as : List D} {m : Sto} {F : D → Sto → Prop}, Post (callD (progOf dis G.cls gl Wn) (n + 1) k as m) F → Post (runDef (phi (progOf dis G.cls gl Wn) n) ⟨d.ps.length, d.N.length, d.body⟩ as m) F := fun {as m F} h => by
      unfold callD at h
      rw [ek] at h
      exact h
    refine FnG.of_body (k := 3 * n + 2) (N := d.N) dk.fn S (fun vs H Q E h => ?_) fun cdv A outer s H vs Q' hg hr h => ?_
    · obtain ⟨io, m, as, _, hr, h⟩ := h
      rw [← hr.length]
      exact (post_run (un h)).1
    · obtain ⟨io, m, as, S0', hr', h⟩ := h
      obtain ⟨hl, h⟩ := post_run (un h)
      let X := (cxOf CX0 Q w K mg base d.N d.qual (defScope d.st) (tbOf ts k).ad cdv A outer s H E0).nox
      have W : Wx G (phi (progOf dis G.cls gl Wn) n) (tbOf ts) ca (3 * n) X ⟨d.N, defScope d.st, fun _ => true⟩ :=
        { top := g.top, bd := fun j hj => (by obtain ⟨_, _, _, z⟩ := g.at_ hj; exact z.bd), kb := g.kb, fn := fun j hj => g.fn n j hj, out := fun j as m F z => (by
            have := callD_lt n j as m F z
            rw [g.n]
            simpa [progOf] using this),
          gd := hg, rm := hr.mono (Nat.le_succ _), rm2 := hr, cm := rfl, nd := S.nd, hN := rfl, hsc := rfl, hfn := rfl, hxe := rfl, kf := S.kind, cl := rfl, fns := fun x j e => (by
            obtain ⟨h1, h2⟩ := g.fns x j e
            obtain ⟨_, _, _, z⟩ := g.at_ h1
            exact ⟨h2, z.fn.kp⟩), noG := g.noG, glob := g.glob }
      refine ⟨_, (snd1 d.body).ss X _ (defBody d.st) W ok.2, io, as.map some ++ List.replicate (d.N.length - d.ps.length) none, m, ⟨S0', ?_⟩, h.mono fun fl m' q => ?_⟩
      · exact RelE.start hr' d.N.length _ (by rw [← hr'.length, hl])
      · cases fl with
        | nx r => exact fun io' st' H' x S' _ => (show WV K mg io m H Q' .non m' from q) io' H' .non x S' rfl
        | rt v => exact q
        | bk r => exact (show False from q).elim
        | ct r => exact (show False from q).elim
/-- the law's own call -/
theorem lawG {k : Nat} {mb : Str → Option Value} {fa a : Addr} {fd : FuncData} {x : Str} {sp : Sp} {s₁ : Shared} {vs : List Value} {ns : List Int}
    (KX : K.In s₁.heap) (hns : s₁.heap.Ns mainGlobals mg) (hb : s₁.heap.Ns builtinsNs mb) (hbb : ∀ x : Str, x ≠ "__name__" → mb x = bootBuiltins x) (hlim : s₁.heap.NoLimit) (hg : s₁.gens = #[])
    (ha : s₁.heap.get? a = some { cls := .type "list", data := .seq vs.toArray }) (hi : IntsAre vs ns) (hl : ns.length ≤ sizeLine) (hr : Room k callerA)
    (F : ∀ base : Heap, K.In base → base.Ns mainGlobals mg → FnG Q w K mg base k fa fd [x] sp) (hbind : ∀ (s : Shared) (u : Value), BindsTo s fd ⟨[u], []⟩ [(x, u)])
    (hsp : ∀ H : Hp, SqRead K H a (ns.map V.int) → sp [.ref a] H (fun v _ => v = .bl true) E0) :
    codeAny (model Q w) callerA (.call (.ref fa) ⟨[.ref a], []⟩) (fun r s' => r = .ok (.ret (.bool true)) ∧ OldK s₁.heap s'.heap ∧ s'.os = s₁.os ∧ AllBare s'.gens) s₁ := by
  have rels := vals_ints hi
  have nlen := hi.length
  have main : ∀ H : Hp, L2.Only H → SqRead K H a (ns.map V.int) → HOk Q w H s₁.heap → (∀ b, H b ≠ none → b = a ∧ K.lookup a = none) →
      codeAny (model Q w) callerA (.call (.ref fa) ⟨[.ref a], []⟩) (fun r s' => r = .ok (.ret (.bool true)) ∧ OldK s₁.heap s'.heap ∧ s'.os = s₁.os ∧ AllBare s'.gens) s₁ := by
    intro H only sq hok just
    have nodict : ∀ {b : Addr} {o : Obj} {es : Array DictEntry} {ep : Nat}, s₁.heap.get? b = some o → o.data = .dict es ep → H b = none := fun {b o es ep} e dd => by
      cases q : H b with
      | none => rfl
      | some u =>
        obtain ⟨rfl, _⟩ := just b (by rw [q]; simp)
        rw [ha] at e
        cases e
        have dd : Data.seq vs.toArray _ = Data.dict es ep := dd
        cases dd
    have ns' : ∀ {b : Addr} {f : Str → Option Value}, s₁.heap.Ns b f → (hidT s₁.heap H).Ns b f := fun {b f} z => by
      obtain ⟨o, es, ep, e, dd, r⟩ := z
      exact ⟨o, es, ep, hidT_get e (nodict e dd), dd, r⟩
    have kb : K.In (hidT s₁.heap H) := fun b o e => by
      refine hidT_get (KX b o e) ?_
      cases q : H b with
      | none => rfl
      | some u =>
        obtain ⟨rfl, z⟩ := just b (by rw [q]; simp)
        rw [z] at e
        cases e
    have md : Mod K mg (hidT s₁.heap H) := ⟨kb, ns' hns, ⟨mb, ns' hb, hbb⟩, by obtain ⟨mc, z1, z2⟩ := hlim; exact ⟨mc, ns' z1, z2⟩⟩
    have env : Env0 Q w K mg (hidT s₁.heap H) callerA [] s₁ H := ⟨rfl, md, fun b o e => of_hidT e, Nat.le_of_eq (hidT_size _ _), trivial, fun b z => absurd z (by simp [frs]), hok, .of_eq hg⟩
    refine codeAny_mono ((F _ kb (ns' hns)).go callerA [] s₁ H ⟨[.ref a], []⟩ [.ref a] [.ref a] _ rfl hr env (hbind s₁ (.ref a)) (.cons rfl .nil) (hsp H sq)) fun res s' z => ?_
    cases res with
    | error e => exact False.elim z
    | ok fl =>
      cases fl with
      | next => exact False.elim z
      | brk => exact False.elim z
      | cont => exact False.elim z
      | ret u =>
        obtain ⟨v, H', os, bare, un, ok', rv, ev⟩ := z
        have ev : v = .bl true := ev
        subst ev
        cases (show u = Value.bool true from rv)
        refine ⟨rfl, OldK.of_keep fun b o e => ?_, os, bare⟩
        cases q : H b with
        | none => exact un.keep b o e q (fun y => by cases y) (by simp)
        | some t =>
          rcases only b with y | ⟨ob, xs, y⟩
          · rw [q] at y
            cases y
          · obtain ⟨y1, _⟩ := hok b _ y
            obtain ⟨y2, _⟩ := ok' b _ (un.frzs b ob _ y)
            rw [e] at y1
            cases y1
            exact y2
  cases hk : K.lookup a with
  | some o =>
    have e := KX a o hk
    rw [ha] at e
    cases e
    exact main (fun _ => none) (fun _ => .inl rfl) (.inr ⟨_, vs.toArray, _, hk, rfl, rfl, rfl, by rw [List.size_toArray, nlen]; exact hl, by simpa using rels⟩) (fun b u z => by cases z) fun b z => absurd rfl z
  | none =>
    have own : ∀ b u, (if b = a then some (HO.frz { cls := .type "list", data := .seq vs.toArray } (.lst (ns.map V.int))) else none) = some u → b = a ∧ u = HO.frz { cls := .type "list", data := .seq vs.toArray } (.lst (ns.map V.int)) := fun b u z => by
      by_cases e : b = a
      · rw [if_pos e] at z
        exact ⟨e, (Option.some.inj z).symm⟩
      · rw [if_neg e] at z
        cases z
    refine main (fun b => if b = a then some (.frz { cls := .type "list", data := .seq vs.toArray } (.lst (ns.map V.int))) else none) (fun b => ?_) (.inl ⟨{ cls := .type "list", data := .seq vs.toArray }, if_pos rfl⟩) (fun b u z => ?_) fun b z => ?_
    · by_cases e : b = a
      · exact .inr ⟨_, _, if_pos e⟩
      · exact .inl (if_neg e)
    · obtain ⟨rfl, rfl⟩ := own b u z
      exact ⟨ha, by rw [List.length_map]; exact hl, vs, _, rels, ha⟩
    · by_cases e : b = a
      · exact ⟨e, hk⟩
      · exact absurd (if_neg e) z
end
/-- from what the term of law gives to the row's own goal -/
theorem walkG {l : PySem.W.OpenLaw} {n : Nat} {q : Program} {loose : List Str} {XP : (Str → Option Value) → Heap → Prop} {YP : World → Heap → Prop} {d : DefRec} {K : Params → PySem.W.Frag} {x : Str} {G : GT} {dis : List DInfo} {gl : List (Str × D)} {Wn kl : Nat}
    (hn : l.most = some 63) (hdf : d.params.defaults = []) (hr : Room (3 * n) callerA) (hY : ∀ (w : World) (h : Heap), YP w h → (K w.params).In h)
    (F : ∀ (w : World) (mg : Str → Option Value) (fa : Addr) (h : Heap), (K w.params).In h → h.Ns mainGlobals mg → mg d.name = some (.ref fa) →
      ∃ (ts : List DefAt) (ca : Str → Addr), Pg (K w.params) mg G dis gl ts ca ∧ kl < G.n ∧ (tbOf ts kl).ad = fa ∧ (tbOf ts kl).ps = [x] ∧ ∀ (s : Shared) (u : Value), BindsTo s (tbOf ts kl).fd ⟨[u], []⟩ [(x, u)])
    (hlaw : ∀ ns : List Int, ns.length ≤ 63 → ∃ m, callD (progOf dis G.cls gl Wn) n kl [.scr ns] [] = .ok (.bl true) m) :
    PySem.W.WalkO q loose XP YP l.row.toRowW d [] (fun f vs => PySem.call f vs) := by
  refine Att.attach_call hn hdf fun w s₀ s₁ mg mb fa o pm cd doc a vs ns Gr Y ho hd hcd hmg hobj hints hlen hg => ?_
  have KX := hY w _ Y
  obtain ⟨ts, ca, g, hk, e1, e2, hb⟩ := F w mg fa _ KX Gr.T.g hmg
  refine lawG (k := 3 * n) (fd := (tbOf ts kl).fd) (sp := spM (K w.params) mg (callD (progOf dis G.cls gl Wn) n kl)) KX Gr.T.g Gr.T.b Gr.T.builtins Gr.T.nolimit hg hobj hints (Nat.le_trans hlen (by decide)) hr (fun base _ _ => ?_) hb fun H sq => ?_
  · have z := g.fn (Q := l.prog) (w := w) (base := base) (Wn := Wn) n kl hk
    rw [e1, e2] at z
    exact z
  · obtain ⟨m, em⟩ := hlaw ns hlen
    refine ⟨⟨fun _ => 0, fun _ => False⟩, [], [.scr ns], ⟨fun j k hj => absurd hj (Nat.not_lt_zero _), fun k o e => by simp at e, fun a z => z.elim, fun n hn => absurd hn (Nat.not_lt_zero _)⟩, ⟨_, _, rfl, ⟨a, rfl, sq⟩, rfl⟩, ?_⟩
    rw [em]
    exact fun io' H' v _ _ r => r
end LC

/-! # LcT: the facts of a program, put together -/
namespace LC
open PySem PySem.Spec PyProof.Rows L2
inductive AllP {α : Type} (R : α → Prop) : List α → Prop where
  | nil : AllP R []
  | cons {a : α} {l : List α} : R a → AllP R l → AllP R (a :: l)
theorem AllP.get {α : Type} {R : α → Prop} {l : List α} (h : AllP R l) : ∀ a ∈ l, R a := by
  induction h with
  | nil => intro a h; cases h
  | cons r t ih =>
    intro a h
    rcases List.mem_cons.mp h with e | h
    · subst e; exact r
    · exact ih a h
def caOf (mg : Str → Option Value) (C : Str) : Addr := match mg C with
  | some (.ref a) => a
  | _ => 0
theorem caOf_eq {mg : Str → Option Value} {C : Str} {a : Addr} (h : mg C = some (.ref a)) : caOf mg C = a := by unfold caOf; rw [h]
/-- a class as the top has made it -/
structure KCls (K : PySem.W.Frag) (Ca : Addr) : Prop where
  pg : PySem.W.plainGet K Ca Str.empty = true
  hd : PySem.W.hasDictIn K Ca = true
  po : PySem.W.plainOver K Ca = true
  sa : PySem.W.findIn K (.ref Ca) "__setattr__" = some (some (.builtin "object.__setattr__"))
  cl : PySem.W.isClsIn K Ca = true
  ty : PySem.W.typeIn K (.ref Ca) = some (.type "type")
  kc : PySem.W.findIn K (.ref Ca) "__class__" = some (some (.builtin "object.__class__"))
  kg : PySem.W.specialIn K (.builtin "object.__class__") "__get__" = some (some (.builtin "getset_descriptor.__get__"))
  kt : PySem.W.takesIn K (.builtin "object.__class__") = some true
  ko : PySem.W.mroIn K Ca (.type "object") = some true
  n1 : PySem.W.mroIn K Ca (.type "int") = some false
  n2 : PySem.W.mroIn K Ca (.type "bool") = some false
  n3 : PySem.W.mroIn K Ca (.type "str") = some false
  n4 : PySem.W.mroIn K Ca (.type "tuple") = some false
  n5 : PySem.W.mroIn K Ca (.type "list") = some false
  n6 : PySem.W.mroIn K Ca (.type "dict") = some false
  n7 : PySem.W.mroIn K Ca (.type "NoneType") = some false
  kn : PySem.W.findIn K (.ref Ca) "__ne__" = some (some (.builtin "object.__ne__"))
theorem meta6 : (["int", "bool", "str", "tuple", "list", "dict"].all PySem.W.kitMeta) = true := by decide +kernel
theorem mro6 : (["NoneType", "bool", "int", "str", "tuple", "list"].all fun a => (PySem.fastBuiltinMro a).isSome && ((PySem.fastBuiltinMro a).getD []).all fun v => match v with | .type _ => true | _ => false) = true := by decide +kernel
theorem KCls.kitT {K : PySem.W.Frag} {Ca : Addr} (k : KCls K Ca) {b : String} (h : knownTy b = true) : PySem.W.kitOne K (.ref Ca) (.type b) = some false := by
  have hb : b ∈ ["int", "bool", "str", "tuple", "list", "dict"] := by
    unfold knownTy at h
    simp only [Bool.or_eq_true, beq_iff_eq] at h
    simp only [List.mem_cons, List.not_mem_nil, or_false]
    rcases h with ((((h | h) | h) | h) | h) | h <;> simp [h]
  have hm := List.all_eq_true.mp meta6 b hb
  have e : PySem.W.mroIn K Ca (.type b) = some false := by
    simp only [List.mem_cons, List.not_mem_nil, or_false] at hb
    rcases hb with h | h | h | h | h | h <;> subst h
    · exact k.n1
    · exact k.n2
    · exact k.n3
    · exact k.n4
    · exact k.n5
    · exact k.n6
  show (if (Value.ref Ca == Value.type b) = true then some true else if PySem.W.kitMeta b = true then PySem.W.mroIn K Ca (.type b) else none) = some false
  rw [if_neg (by simp), if_pos hm, e]
theorem KCls.kitC {K : PySem.W.Frag} {Ca : Addr} (k : KCls K Ca) {t : Value} {r : Bool} (hne : (t == Value.ref Ca) = false) (h : PySem.W.subIn K t (.ref Ca) = some r) : PySem.W.kitOne K t (.ref Ca) = some r := by
  show (if (t == Value.ref Ca) = true then some true else if ((PySem.W.clsIn K Ca).isSome && PySem.W.typeIn K (.ref Ca) == some (.type "type")) = true then PySem.W.subIn K t (.ref Ca) else none) = some r
  rw [hne, if_neg Bool.false_ne_true, if_pos (by
    have z : (PySem.W.clsIn K Ca).isSome = true := k.cl
    rw [z, k.ty]
    rfl), h]
theorem KCls.kitB {K : PySem.W.Frag} {Ca : Addr} (k : KCls K Ca) {a : String} (h : a ∈ ["NoneType", "bool", "int", "str", "tuple", "list"]) : PySem.W.kitOne K (.type a) (.ref Ca) = some false := by
  refine k.kitC (by simp) ?_
  have z := List.all_eq_true.mp mro6 a h
  rw [Bool.and_eq_true] at z
  obtain ⟨l, e⟩ := Option.isSome_iff_exists.mp z.1
  show (PySem.fastBuiltinMro a).map (fun l => l.contains (.ref Ca)) = some false
  have z2 := z.2
  rw [e] at z2 ⊢
  show some (l.contains (.ref Ca)) = some false
  congr 1
  cases q : l.contains (Value.ref Ca) with
  | false => rfl
  | true =>
    have m : Value.ref Ca ∈ l := by simpa using q
    have := List.all_eq_true.mp z2 _ m
    cases this
theorem KCls.self {K : PySem.W.Frag} {Ca : Addr} : PySem.W.kitOne K (.ref Ca) (.ref Ca) = some true := by
  show (if (Value.ref Ca == Value.ref Ca) = true then some true else _) = some true
  rw [if_pos (by simp)]
theorem KCls.nt {K : PySem.W.Frag} {Ca : Addr} (k : KCls K Ca) {T : String} (hT : T ∈ ["NoneType", "bool", "int", "str", "tuple", "list"]) : PySem.W.mroIn K Ca (.type T) = some false := by
  simp only [List.mem_cons, List.not_mem_nil, or_false] at hT
  rcases hT with h | h | h | h | h | h <;> subst h
  · exact k.n7
  · exact k.n2
  · exact k.n1
  · exact k.n3
  · exact k.n4
  · exact k.n5
/-- a class of the table -/
structure ClsF (K : PySem.W.Frag) (mg : Str → Option Value) (T : Nat → DefAt) (c : LC.Cls) : Prop where
  ex : ∃ Ca, mg c.name = some (.ref Ca) ∧ KCls K Ca ∧ (∀ k, c.init = some k → L2.Mk K Ca (T k).ad) ∧ AllP (fun p : Str × Nat => L2.Meth K Ca p.1 (T p.2).ad) c.meths ∧ AllP (fun p : Str × Nat => ∃ q, L2.PropOf K Ca p.1 q (T p.2).ad) c.props ∧ AllP (fun f => L2.NoAttr K Ca f) c.flds ∧ AllP (fun p : Str × Nat => ∃ q mc, ClX.CRead K Ca mc ∧ ClX.CMet K Ca mc p.1 q (T p.2).ad) c.cms
theorem top_mk {K : PySem.W.Frag} {mg : Str → Option Value} {cls : List LC.Cls} {T : Nat → DefAt} (h : AllP (ClsF K mg T) cls)
    (hk : ∀ c ∈ cls, ∀ c' ∈ cls, c.name ≠ c'.name → PySem.W.kitOne K (.ref (caOf mg c.name)) (.ref (caOf mg c'.name)) = some false) : Top K mg cls T (caOf mg) := by
  have mem : ∀ {C c}, clOf cls C = some c → c ∈ cls ∧ c.name = C := fun {C c} e => ⟨List.mem_of_find?_eq_some e, by simpa using List.find?_some e⟩
  refine ⟨fun C c e => ?_, fun C c C' c' e e' => ?_, fun C c b e hb => ?_, fun C c a e ha => ?_⟩
  · obtain ⟨m, rfl⟩ := mem e
    obtain ⟨Ca, h1, h2, h3, h4, h5, h6, h7⟩ := (h.get c m).ex
    rw [caOf_eq h1]
    exact ⟨h1, ⟨h2.pg, h2.hd, h2.po, h2.sa⟩, h3, fun f k q => h4.get (f, k) (PySem.mem_of_lookup q), fun f k q => h5.get (f, k) (PySem.mem_of_lookup q), fun f k q => h7.get (f, k) (PySem.mem_of_lookup q), fun f q => h6.get f (by simpa using q), h2.kc, h2.kg, h2.kt, h2.ko, h2.kn, fun T hT => h2.nt hT⟩
  · obtain ⟨m, rfl⟩ := mem e
    obtain ⟨m', rfl⟩ := mem e'
    by_cases q : c.name = c'.name
    · rw [q, beq_self_eq_true]
      exact KCls.self
    · rw [beq_eq_false_iff_ne.mpr q]
      exact hk c m c' m' q
  · obtain ⟨m, rfl⟩ := mem e
    obtain ⟨Ca, h1, h2, _⟩ := (h.get c m).ex
    rw [caOf_eq h1]
    exact h2.kitT hb
  · obtain ⟨m, rfl⟩ := mem e
    obtain ⟨Ca, h1, h2, _⟩ := (h.get c m).ex
    rw [caOf_eq h1]
    exact h2.kitB ha
/-- two classes, neither over the other -/
theorem kk_mk {K : PySem.W.Frag} {mg : Str → Option Value} {C C' : Str} {a b : Addr} (h1 : mg C = some (.ref a)) (h2 : mg C' = some (.ref b)) (k : KCls K b) (ne : a ≠ b) (h : PySem.W.mroIn K a (.ref b) = some false) : PySem.W.kitOne K (.ref (caOf mg C)) (.ref (caOf mg C')) = some false := by
  rw [caOf_eq h1, caOf_eq h2]
  exact k.kitC (by simpa using ne) h
theorem pg_mk {K : PySem.W.Frag} {mg : Str → Option Value} {G : GT} {dis : List DInfo} {gl : List (Str × D)} {ts : List DefAt} (n : G.n = dis.length) (ck : dis.all (okD G) = true) (defs : All2 (DefOk K) dis ts) (top : Top K mg G.cls (tbOf ts) (caOf mg))
    (kb : AllP (fun p : Nat × List Str × List Nat => KBinds K (tbOf ts p.1).fd (tbOf ts p.1).ps p.2.1 (gOf (p.2.2.length - p.2.1.length) p.2.1.length p.2.2) (gOf (p.2.2.length - p.2.1.length) p.2.1.length p.2.2)) G.kws)
    (fns : AllP (fun p : Str × Nat => p.2 < G.n ∧ mg p.1 = some (.ref (tbOf ts p.2).ad)) G.fns) (noG : AllP (fun x => mg x = none) G.noG) (glob : AllP (fun p : Str × D => ∃ u v, mg p.1 = some u ∧ RelV v u ∧ ∀ io N H, RepV K mg io N H p.2 v) gl) : Pg K mg G dis gl ts (caOf mg) :=
  ⟨n, ck, defs, top, fun k ks pm h => kb.get (k, ks, pm) h, fun x k h => fns.get (x, k) (PySem.mem_of_lookup h), fun x h => noG.get x (by simpa using h), fun x d h => glob.get (x, d) (PySem.mem_of_lookup h)⟩
theorem gl_glb {K : PySem.W.Frag} {mg : Str → Option Value} {x : Str} {a : Addr} (h : mg x = some (.ref a)) : ∃ u v, mg x = some u ∧ RelV v u ∧ ∀ io N H, RepV K mg io N H (.glb x) v := ⟨.ref a, .ref a, h, rfl, fun _ _ _ => ⟨a, h, rfl⟩⟩
theorem gl_int {K : PySem.W.Frag} {mg : Str → Option Value} {x : Str} {i : Int} {t : Tok} (h : mg x = some (.int i t)) : ∃ u v, mg x = some u ∧ RelV v u ∧ ∀ io N H, RepV K mg io N H (.int i) v := ⟨.int i t, .int i, h, ⟨t, rfl⟩, fun _ _ _ => rfl⟩
theorem gl_str {K : PySem.W.Frag} {mg : Str → Option Value} {x : Str} {i : Str} {t : Tok} (h : mg x = some (.str i t)) : ∃ u v, mg x = some u ∧ RelV v u ∧ ∀ io N H, RepV K mg io N H (.str i) v := ⟨.str i t, .str i, h, ⟨t, rfl⟩, fun _ _ _ => rfl⟩
theorem gl_tup {K : PySem.W.Frag} {mg : Str → Option Value} {x : Str} {a : Addr} {dd : Option Addr} {its : Array Value} {k : Nat} {sl : Array (Option Value)} {ds : List D} {vs : List V} (h : mg x = some (.ref a)) (hl : K.lookup a = some ⟨.type "tuple", dd, .seq its k, sl⟩) (hz : its.size ≤ sizeLine)
    (hv : Vals vs its.toList) (hr : ∀ io N H, RepVs K mg io N H ds vs) : ∃ u v, mg x = some u ∧ RelV v u ∧ ∀ io N H, RepV K mg io N H (.tup ds) v :=
  ⟨.ref a, .ref a, h, rfl, fun io N H => ⟨a, vs, rfl, .inr ⟨_, its, k, hl, rfl, rfl, hz, hv⟩, hr io N H⟩⟩
theorem strs_rep' {K : PySem.W.Frag} {mg : Str → Option Value} {io : Pl} {N : Nat} {H : Hp} : ∀ xs : List Str, RepVs K mg io N H (xs.map D.str) (xs.map V.str)
  | [] => rfl
  | x :: xs => ⟨.str x, xs.map V.str, rfl, rfl, strs_rep' xs⟩
/-- keywords, where n arguments stand by place: h by one match an arity -/
theorem kb_mk {K : PySem.W.Frag} {fd : FuncData} {ps ks : List Str} {n m : Nat} {pm : List Nat} (hz : 0 < ps.length) (h : ∀ us ws : List Value, us.length = n → ws.length = m → bindArgs fd ⟨us, ks.zip ws⟩ = pure (ps.zip (gOf n m pm us ws))) : KBinds K fd ps ks (gOf n m pm) (gOf n m pm) :=
  ⟨fun s us ws _ hl => by
    by_cases q : us.length = n ∧ ws.length = m
    · exact .of_eq (h us ws q.1 q.2)
    · unfold gOf at hl
      rw [if_neg q] at hl
      exact absurd hl (by simp only [List.length_nil]; omega), fun a b => gOf_rel a b⟩
end LC
namespace LC
open PySem
theorem ne_mk {K : PySem.W.Frag} {a b : Addr} (hm : PySem.W.makesIn K a = true) (h : PySem.W.mroIn K a (.ref b) = some false) : a ≠ b := by
  intro e
  subst e
  unfold PySem.W.makesIn at hm
  split at hm
  · rename_i oc od cd sl ho
    simp only [Bool.and_eq_true] at hm
    have hc : PySem.W.clsIn K a = some cd := by unfold PySem.W.clsIn; rw [ho]
    have : cd.mro.contains (.ref a) = true := by
      obtain ⟨⟨⟨⟨⟨⟨⟨_, _⟩, _⟩, _⟩, e5⟩, _⟩, _⟩, _⟩ := hm
      exact e5
    unfold PySem.W.mroIn at h
    rw [hc] at h
    simp at h
    simp at this
    exact h.2 this
  · cases hm
end LC

/-! # LcU: reckoning with terms -/
namespace LC
open PySem
theorem post_bnd {α β : Type} {x : M α} {f : α → M β} {m : Sto} {F : β → Sto → Prop} : Post (bnd x f m) F = Post (x m) fun a m1 => Post (f a m1) F := by
  unfold bnd
  cases x m <;> rfl
theorem post_ret {α : Type} {a : α} {m : Sto} {F : α → Sto → Prop} : Post (ret a m) F = F a m := rfl
theorem post_ok {α : Type} {a : α} {m : Sto} {F : α → Sto → Prop} : Post (.ok a m) F = F a m := rfl
theorem post_bad {α : Type} {F : α → Sto → Prop} : Post (.bad : Out α) F = False := rfl
theorem post_exc {α : Type} {C : Str} {fs : List (Str × D)} {m : Sto} {F : α → Sto → Prop} : Post (.exc C fs m : Out α) F = False := rfl
theorem post_ite {α : Type} {c : Prop} [Decidable c] {a b : Out α} {F : α → Sto → Prop} : Post (if c then a else b) F = if c then Post a F else Post b F := by split <;> rfl
theorem app_ite {α : Type} {c : Prop} [Decidable c] {a b : M α} {m : Sto} : (if c then a else b) m = if c then a m else b m := by split <;> rfl
/-- a def, one level down -/
theorem post_call {G : Prog} {n k : Nat} {d : DefI} {as : List D} {m : Sto} {F : D → Sto → Prop} (e : G.defs[k]? = some d) (hl : as.length = d.np) (h : Post ((den (phi G n) d.body).s (as.map some ++ List.replicate (d.ns - d.np) none) m) fun fl m' => match fl with
    | .nx _ => F .non m'
    | .rt x => F x m'
    | _ => False) : Post (callD G (n + 1) k as m) F := by
  unfold callD
  rw [e]
  show Post (runDef _ d as m) F
  unfold runDef
  rw [if_pos hl]
  show Post (match (den (phi G n) d.body).s (as.map some ++ List.replicate (d.ns - d.np) none) m with
    | .ok (.nx _) m' => .ok .non m'
    | .ok (.rt x) m' => .ok x m'
    | .ok _ _ => .bad
    | .exc C fs m' => .exc C fs m'
    | .bad => .bad) F
  cases q : (den (phi G n) d.body).s (as.map some ++ List.replicate (d.ns - d.np) none) m with
  | ok fl m' => rw [q] at h; cases fl <;> first | exact h | exact (show False from h).elim
  | exc C fs m' => rw [q] at h; exact (show False from h).elim
  | bad => rw [q] at h; exact (show False from h).elim
theorem post_and {α : Type} {o : Out α} {F F' : α → Sto → Prop} (h : Post o F) (k : ∀ a m, F a m → F' a m) : Post o F' := h.mono k
theorem post_eq {α : Type} {o : Out α} {a : α} {m : Sto} (h : Post o fun b m' => b = a ∧ m' = m) : o = .ok a m := by
  cases o with
  | ok b m' => obtain ⟨rfl, rfl⟩ := h; rfl
  | exc C fs m' => exact (show False from h).elim
  | bad => exact (show False from h).elim
theorem eq_post {α : Type} {o : Out α} {a : α} {m : Sto} {F : α → Sto → Prop} (e : o = .ok a m) (h : F a m) : Post o F := by rw [e]; exact h
/-- the same, closed: what is behind it is not reckoned by itself -/
structure Po {α : Type} (o : Out α) (F : α → Sto → Prop) : Prop where
  h : Post o F
theorem po_iff {α : Type} {o : Out α} {F : α → Sto → Prop} : Po o F = Post o F := propext ⟨fun x => x.h, fun x => ⟨x⟩⟩
theorem Po.mono {α : Type} {o : Out α} {F F' : α → Sto → Prop} (h : Po o F) (k : ∀ a m, F a m → F' a m) : Po o F' := ⟨h.h.mono k⟩
theorem po_eq {α : Type} {o : Out α} {a : α} {m : Sto} (h : Po o fun b m' => b = a ∧ m' = m) : o = .ok a m := post_eq h.h
theorem eq_po {α : Type} {o : Out α} {a : α} {m : Sto} {F : α → Sto → Prop} (e : o = .ok a m) (h : F a m) : Po o F := ⟨eq_post e h⟩
end LC

/-! # LcU2: loops, lists of ints, draws -/
namespace LC
open PySem
/-! ### comprehensions and loops -/
theorem lcL_fm {turn : D → M (Option D)} {g : D → Option D} {m : Sto} : ∀ {ds acc : List D}, (∀ d ∈ ds, turn d m = .ok (g d) m) → acc.length + ds.length ≤ LIM → lcL turn ds acc m = .ok (acc ++ ds.filterMap g) m
  | [], acc, _, _ => by simp [lcL, ret]
  | d :: ds, acc, h, hz => by
    unfold lcL
    rw [h d (by simp)]
    have hl : acc.length + (ds.length + 1) ≤ LIM := hz
    cases e : g d with
    | none => simp only [List.filterMap_cons, e]; exact lcL_fm (fun x hx => h x (by simp [hx])) (by omega)
    | some x =>
      simp only
      rw [if_pos (by simp; omega), lcL_fm (fun x hx => h x (by simp [hx])) (by simp; omega)]
      simp [e]
theorem lcL_map {turn : D → M (Option D)} {g : D → D} {m : Sto} {ds acc : List D} (h : ∀ d ∈ ds, turn d m = .ok (some (g d)) m) (hz : acc.length + ds.length ≤ LIM) : lcL turn ds acc m = .ok (acc ++ ds.map g) m := by
  have := lcL_fm (g := fun d => some (g d)) h hz
  rw [this]
  congr 2
  induction ds with
  | nil => rfl
  | cons d ds ih =>
    simp only [List.filterMap_cons, List.map_cons]
    rw [ih (fun x hx => h x (by simp [hx])) (by simp at hz; omega) (lcL_fm (g := fun d => some (g d)) (fun x hx => h x (by simp [hx])) (by simp at hz; omega))]
/-- a comprehension that draws: R by the turn -/
theorem lcL_inv {turn : D → M (Option D)} {F : List D → Sto → Prop} (R : Nat → List D → Sto → Prop) {n : Nat} {ds0 : List D} (hn : ds0.length = n) (hz : n ≤ LIM)
    (hs : ∀ i acc m d, i < n → ds0[i]? = some d → acc.length ≤ i → R i acc m → Post (turn d m) fun o m' => match o with | none => R (i + 1) acc m' | some x => R (i + 1) (acc ++ [x]) m') (hd : ∀ acc m, R n acc m → F acc m) :
    ∀ (ds acc : List D) (m : Sto) (i : Nat), ds = ds0.drop i → i ≤ n → acc.length ≤ i → R i acc m → Post (lcL turn ds acc m) F
  | [], acc, m, i, e, hi, ha, r => by
    have : i = n := by
      have := congrArg List.length e
      simp at this
      omega
    subst this
    exact hd acc m r
  | d :: ds, acc, m, i, e, hi, ha, r => by
    have hlt : i < n := by
      have := congrArg List.length e
      simp at this
      omega
    have e1 : ds0[i]? = some d := by
      have := congrArg (fun l => l[0]?) e
      simpa using this.symm
    have e2 : ds = ds0.drop (i + 1) := by
      have := congrArg List.tail e
      simpa using this
    have h := hs i acc m d hlt e1 ha r
    unfold lcL
    cases q : turn d m with
    | ok o m' =>
      rw [q] at h
      cases o with
      | none => exact lcL_inv R hn hz hs hd ds acc m' (i + 1) e2 hlt (by omega) h
      | some x =>
        simp only
        rw [if_pos (by simp; omega)]
        exact lcL_inv R hn hz hs hd ds (acc ++ [x]) m' (i + 1) e2 hlt (by simp; omega) h
    | exc C fs m' => rw [q] at h; exact (show False from h).elim
    | bad => rw [q] at h; exact (show False from h).elim
/-- a for: R by the turn -/
theorem forL_inv {body : D → Env → M Flow} {F : Flow → Sto → Prop} (R : Nat → Env → Sto → Prop) {n : Nat} {ds0 : List D} (hn : ds0.length = n)
    (hs : ∀ i r m d, i < n → ds0[i]? = some d → R i r m → Post (body d r m) fun fl m' => match fl with | .nx r' => R (i + 1) r' m' | .ct r' => R (i + 1) r' m' | .bk r' => F (.nx r') m' | .rt x => F (.rt x) m')
    (hd : ∀ r m, R n r m → F (.nx r) m) : ∀ (ds : List D) (r : Env) (m : Sto) (i : Nat), ds = ds0.drop i → i ≤ n → R i r m → Post (forL body ds r m) F
  | [], r, m, i, e, hi, q => by
    have : i = n := by
      have := congrArg List.length e
      simp at this
      omega
    subst this
    exact hd r m q
  | d :: ds, r, m, i, e, hi, q => by
    have hlt : i < n := by
      have := congrArg List.length e
      simp at this
      omega
    have e1 : ds0[i]? = some d := by
      have := congrArg (fun l => l[0]?) e
      simpa using this.symm
    have e2 : ds = ds0.drop (i + 1) := by
      have := congrArg List.tail e
      simpa using this
    have h := hs i r m d hlt e1 q
    unfold forL
    cases z : body d r m with
    | ok fl m' =>
      rw [z] at h
      cases fl with
      | nx r' => exact forL_inv R hn hs hd ds r' m' (i + 1) e2 hlt h
      | ct r' => exact forL_inv R hn hs hd ds r' m' (i + 1) e2 hlt h
      | bk r' => exact h
      | rt x => exact h
    | exc C fs m' => rw [z] at h; exact (show False from h).elim
    | bad => rw [z] at h; exact (show False from h).elim
/-- a while: R with a measure below the fuel -/
theorem while_inv {c : Env → M Bool} {body : Env → M Flow} {F : Flow → Sto → Prop} (R : Nat → Env → Sto → Prop)
    (hs : ∀ k r m, R k r m → Post (c r m) fun b m' => if b = true then Post (body r m') (fun fl m2 => match fl with | .nx r' => ∃ j, j < k ∧ R j r' m2 | .ct r' => ∃ j, j < k ∧ R j r' m2 | .bk r' => F (.nx r') m2 | .rt x => F (.rt x) m2) else F (.nx r) m') :
    ∀ (w k : Nat) (r : Env) (m : Sto), k < w → R k r m → Post (whileM c body w r m) F
  | 0, k, r, m, hk, q => absurd hk (Nat.not_lt_zero _)
  | w + 1, k, r, m, hk, q => by
    have h := hs k r m q
    unfold whileM
    cases z : c r m with
    | ok b m' =>
      rw [z] at h
      cases b with
      | false => exact h
      | true =>
        have h : Post (body r m') _ := h
        simp only
        cases z2 : body r m' with
        | ok fl m2 =>
          rw [z2] at h
          cases fl with
          | nx r' => obtain ⟨j, hj, q2⟩ := h; exact while_inv R hs w j r' m2 (by omega) q2
          | ct r' => obtain ⟨j, hj, q2⟩ := h; exact while_inv R hs w j r' m2 (by omega) q2
          | bk r' => exact h
          | rt x => exact h
        | exc C fs m2 => rw [z2] at h; exact (show False from h).elim
        | bad => rw [z2] at h; exact (show False from h).elim
    | exc C fs m' => rw [z] at h; exact (show False from h).elim
    | bad => rw [z] at h; exact (show False from h).elim

theorem lcL_po {turn : D → M (Option D)} {F : List D → Sto → Prop} (R : Nat → List D → Sto → Prop) {n : Nat} {ds : List D} {m : Sto} (hn : ds.length = n) (hz : n ≤ LIM) (h0 : R 0 [] m)
    (hs : ∀ i acc m d, i < n → ds[i]? = some d → acc.length ≤ i → R i acc m → Po (turn d m) fun o m' => match o with | none => R (i + 1) acc m' | some x => R (i + 1) (acc ++ [x]) m') (hd : ∀ acc m, R n acc m → F acc m) : Po (lcL turn ds [] m) F :=
  ⟨lcL_inv R hn hz (fun i acc m d a b c e => (hs i acc m d a b c e).h) hd ds [] m 0 rfl (Nat.zero_le _) (Nat.le_refl _) h0⟩
theorem forL_po {body : D → Env → M Flow} {F : Flow → Sto → Prop} (R : Nat → Env → Sto → Prop) {n : Nat} {ds : List D} {r : Env} {m : Sto} (hn : ds.length = n) (h0 : R 0 r m)
    (hs : ∀ i r m d, i < n → ds[i]? = some d → R i r m → Po (body d r m) fun fl m' => match fl with | .nx r' => R (i + 1) r' m' | .ct r' => R (i + 1) r' m' | .bk r' => F (.nx r') m' | .rt x => F (.rt x) m')
    (hd : ∀ r m, R n r m → F (.nx r) m) : Po (forL body ds r m) F :=
  ⟨forL_inv R hn (fun i r m d a b c => (hs i r m d a b c).h) hd ds r m 0 rfl (Nat.zero_le _) h0⟩
theorem while_po {c : Env → M Bool} {body : Env → M Flow} {F : Flow → Sto → Prop} (R : Nat → Env → Sto → Prop) {w k : Nat} {r : Env} {m : Sto} (hk : k < w) (h0 : R k r m)
    (hs : ∀ k r m, R k r m → Po (c r m) fun b m' => if b = true then Po (body r m') (fun fl m2 => match fl with | .nx r' => ∃ j, j < k ∧ R j r' m2 | .ct r' => ∃ j, j < k ∧ R j r' m2 | .bk r' => F (.nx r') m2 | .rt x => F (.rt x) m2) else F (.nx r) m') : Po (whileM c body w r m) F :=
  ⟨while_inv R (fun k r m q => (hs k r m q).h.mono fun b m' z => by
    cases b with
    | true => rw [if_pos rfl] at z; exact z.h
    | false => exact z) w k r m hk h0⟩
/-! ### lists of ints -/
def dints (xs : List Int) : List D := xs.map .int
theorem asInts_d : ∀ xs : List Int, asInts (dints xs) = some xs
  | [] => rfl
  | x :: xs => by show (asInts (dints xs)).map (x :: ·) = _; rw [asInts_d xs]; rfl
theorem asBools_t : ∀ xs : List D, (∀ d ∈ xs, d = .bl true) → ∃ bs, asBools xs = some bs ∧ bs.all id = true
  | [], _ => ⟨[], rfl, rfl⟩
  | x :: xs, h => by
    obtain ⟨bs, e, q⟩ := asBools_t xs fun d hd => h d (by simp [hd])
    rw [h x (by simp)]
    exact ⟨true :: bs, by show (asBools xs).map _ = _; rw [e]; rfl, by simp [q]⟩
theorem asBools_d : ∀ xs : List Bool, asBools (xs.map .bl) = some xs
  | [] => rfl
  | x :: xs => by show (asBools (xs.map .bl)).map (x :: ·) = _; rw [asBools_d xs]; rfl
theorem dints_len {xs : List Int} : (dints xs).length = xs.length := List.length_map ..
theorem ixN_of {n : Nat} {i : Int} (h0 : 0 ≤ i) (h1 : i < n) : ixN n i = some i.toNat := by unfold ixN; rw [if_pos h0, if_pos h1]
theorem atI_d {xs : List Int} {i : Int} (h0 : 0 ≤ i) (h1 : i < xs.length) : atI (dints xs) i = some (.int (xs.getD i.toNat 0)) := by
  unfold atI
  rw [ixN_of h0 (by rw [dints_len]; exact h1)]
  show (xs.map D.int)[i.toNat]? = _
  have : i.toNat < xs.length := by omega
  rw [List.getElem?_map, List.getElem?_eq_getElem this]
  simp [List.getD, List.getElem?_eq_getElem this]
theorem most_spec : ∀ {xs : List Int}, xs ≠ [] → most xs ∈ xs ∧ ∀ x ∈ xs, x ≤ most xs := fun {xs} h => ⟨most_mem xs (List.length_pos_iff.mpr h), fun x hx => most_ge xs x hx⟩
theorem least_spec : ∀ {xs : List Int}, xs ≠ [] → least xs ∈ xs ∧ ∀ x ∈ xs, least xs ≤ x := fun {xs} h => ⟨least_mem xs (List.length_pos_iff.mpr h), fun x hx => least_le xs x hx⟩

/-! ### the purse of the laws' draws -/
/-- a purse stands at p -/
def Purse (p : Nat) (m : Sto) : Prop := ∃ s b k : Int, m[p]? = some (.lst [.int s, .int b, .int k]) ∧ 0 ≤ s ∧ s < 2147483629 ∧ 0 ≤ b
/-- behind draws: the purse again, all else as it was, maybe new places -/
structure Drawn (p : Nat) (m m' : Sto) : Prop where
  pu : Purse p m'
  len : m.length ≤ m'.length
  off : ∀ j, j < m.length → j ≠ p → m'[j]? = m[j]?
theorem Drawn.refl {p : Nat} {m : Sto} (h : Purse p m) : Drawn p m m := ⟨h, Nat.le_refl _, fun _ _ _ => rfl⟩
theorem Drawn.trans {p : Nat} {m m' m2 : Sto} (a : Drawn p m m') (b : Drawn p m' m2) : Drawn p m m2 := ⟨b.pu, Nat.le_trans a.len b.len, fun j h1 h2 => (b.off j (Nat.lt_of_lt_of_le h1 a.len) h2).trans (a.off j h1 h2)⟩
theorem Purse.lt {p : Nat} {m : Sto} (h : Purse p m) : p < m.length := by
  obtain ⟨s, b, k, e, _⟩ := h
  exact (List.getElem?_eq_some_iff.mp e).1
theorem Drawn.new {p : Nat} {m : Sto} (h : Purse p m) (o : List Ob) : Drawn p m (m ++ o) := by
  have hl := h.lt
  obtain ⟨s, b, k, e, q⟩ := h
  exact ⟨⟨s, b, k, by rw [List.getElem?_append_left hl]; exact e, q⟩, by simp, fun j hj _ => by rw [List.getElem?_append_left hj]⟩
end LC

/-! # LcV: what simp knows of terms -/
namespace LC
open PySem
/-- a body's end is a def's end -/
def fin (F : D → Sto → Prop) : Flow → Sto → Prop
  | .nx _, m => F .non m
  | .rt x, m => F x m
  | _, _ => False
theorem po_call {G : Prog} {n k : Nat} {d : DefI} {as : List D} {m : Sto} {F : D → Sto → Prop} (e : G.defs[k]? = some d) (hl : as.length = d.np) (h : Po ((den (phi G n) d.body).s (as.map some ++ List.replicate (d.ns - d.np) none) m) (fin F)) : Po (callD G (n + 1) k as m) F :=
  ⟨post_call e hl (h.h.mono fun fl m' q => by cases fl <;> exact q)⟩
section
variable {mu : Bool} {m : Sto} {i j : Int} {x y : D} {P : Phi} {r : Env} {k : Nat} {xs ys : List D} {F : D → Sto → Prop} {α : Type}
@[simp] theorem v_bnd {β : Type} {x : M α} {f : α → M β} {F : β → Sto → Prop} : Po (bnd x f m) F = Po (x m) fun a m1 => Po (f a m1) F := by simp only [po_iff, post_bnd]
@[simp] theorem v_ret {a : α} {F : α → Sto → Prop} : Po (ret a m) F = F a m := po_iff
@[simp] theorem v_ok {a : α} {F : α → Sto → Prop} : Po (.ok a m) F = F a m := po_iff
@[simp] theorem v_bad {F : α → Sto → Prop} : Po (.bad : Out α) F = False := po_iff
@[simp] theorem v_badm {F : α → Sto → Prop} : Po ((LC.bad : M α) m) F = False := po_iff
@[simp] theorem v_ite {c : Prop} [Decidable c] {a b : M α} {F : α → Sto → Prop} : Po ((if c then a else b) m) F = if c then Po (a m) F else Po (b m) F := by split <;> rfl
@[simp] theorem v_fin_nx : fin F (.nx r) m = F .non m := rfl
@[simp] theorem v_fin_rt : fin F (.rt x) m = F x m := rfl
@[simp] theorem v_seq_nx {k : Env → M Flow} : seqF (.nx r) k = k r := rfl
@[simp] theorem v_seq_rt {k : Env → M Flow} : seqF (.rt x) k = LC.ret (.rt x) := rfl
@[simp] theorem v_seq_bk {k : Env → M Flow} : seqF (.bk r) k = LC.ret (.bk r) := rfl
@[simp] theorem v_seq_ct {k : Env → M Flow} : seqF (.ct r) k = LC.ret (.ct r) := rfl
@[simp] theorem v_asB {b : Bool} : asB (.bl b) m = .ok b m := rfl
@[simp] theorem v_asI : asI (.int i) m = .ok (some i) m := rfl
@[simp] theorem v_asS {s : Str} : asS (.str s) m = .ok s m := rfl
@[simp] theorem v_getV0 {o : Option D} : getV 0 (o :: r) m = (match o with | some d => .ok d m | none => .bad) := by
  unfold getV
  cases o <;> rfl
@[simp] theorem v_getVS {o : Option D} : getV (k + 1) (o :: r) m = getV k r m := by
  unfold getV
  rw [List.getElem?_cons_succ]
@[simp] theorem v_add : opBin mu .Add (.int i) (.int j) m = .ok (.int (i + j)) m := rfl
@[simp] theorem v_sub : opBin mu .Sub (.int i) (.int j) m = .ok (.int (i - j)) m := rfl
@[simp] theorem v_mul : opBin mu .Mult (.int i) (.int j) m = if mulOk i j then .ok (.int (i * j)) m else .bad := rfl
@[simp] theorem v_fdiv : opBin mu .FloorDiv (.int i) (.int j) m = if divOk j then .ok (.int (i / j)) m else .bad := rfl
@[simp] theorem v_mod : opBin mu .Mod (.int i) (.int j) m = if 0 < j then .ok (.int (i % j)) m else .bad := by show (if decide (0 < j) = true then _ else _) = _; simp
@[simp] theorem v_pow : opBin mu .Pow (.int i) (.int j) m = if 0 ≤ j ∧ j ≤ 1000000 ∧ i.natAbs < 2 ^ 64 then .ok (.int (i ^ j.toNat)) m else .bad := by show (if decide (0 ≤ j ∧ j ≤ 1000000 ∧ i.natAbs < 2 ^ 64) = true then _ else _) = _; simp
@[simp] theorem v_cat : opBin mu .Add (.tup xs) (.tup ys) m = if xs.length + ys.length ≤ LIM then .ok (.tup (xs ++ ys)) m else .bad := by show (if decide (xs.length + ys.length ≤ LIM) = true then _ else _) = _; simp
@[simp] theorem v_catL : opBin false .Add (.lst xs) (.lst ys) m = if xs.length + ys.length ≤ LIM then .ok (.lst (xs ++ ys)) m else .bad := by show (if decide (xs.length + ys.length ≤ LIM) = true then _ else _) = _; simp
@[simp] theorem v_eqI : opCmp .Eq (.int i) (.int j) m = .ok (.bl (decide (i = j))) m := by
  show bOut (if (fitD (.int i) && fitD (.int j)) = true then some (PyData.eqv (.int i) (.int j)) else none) m = _
  have h1 : (fitD (.int i) && fitD (.int j)) = true := rfl
  rw [if_pos h1]
  have : PyData.eqv (.int i) (.int j) = decide (i = j) := by
    simp only [PyData.eqv]
    by_cases h : i = j
    · subst h; simp
    · simp [h]
  rw [this]; rfl
@[simp] theorem v_neI : opCmp .NotEq (.int i) (.int j) m = .ok (.bl (!decide (i = j))) m := by
  show bOut ((if (fitD (.int i) && fitD (.int j)) = true then some (PyData.eqv (.int i) (.int j)) else none).map not) m = _
  have h1 : (fitD (.int i) && fitD (.int j)) = true := rfl
  rw [if_pos h1]
  have : PyData.eqv (.int i) (.int j) = decide (i = j) := by
    simp only [PyData.eqv]
    by_cases h : i = j
    · subst h; simp
    · simp [h]
  rw [this]; rfl
@[simp] theorem v_lt : opCmp .Lt (.int i) (.int j) m = .ok (.bl (decide (i < j))) m := rfl
@[simp] theorem v_le : opCmp .LtE (.int i) (.int j) m = .ok (.bl (decide (i ≤ j))) m := rfl
@[simp] theorem v_gt : opCmp .Gt (.int i) (.int j) m = .ok (.bl (decide (j < i))) m := rfl
@[simp] theorem v_ge : opCmp .GtE (.int i) (.int j) m = .ok (.bl (decide (j ≤ i))) m := rfl
@[simp] theorem v_is0 : opCmp .Is .non .non m = .ok (.bl true) m := rfl
@[simp] theorem v_is1 : opCmp .Is (.int i) .non m = .ok (.bl false) m := rfl
@[simp] theorem v_is2 : opCmp .Is (.tup xs) .non m = .ok (.bl false) m := rfl
@[simp] theorem v_isn0 : opCmp .IsNot .non .non m = .ok (.bl false) m := rfl
@[simp] theorem v_isn1 : opCmp .IsNot (.int i) .non m = .ok (.bl true) m := rfl
@[simp] theorem v_isn2 : opCmp .IsNot (.tup xs) .non m = .ok (.bl true) m := rfl
@[simp] theorem v_truB {b : Bool} : tru (.bl b) m = .ok b m := rfl
@[simp] theorem v_ixT : opIx (.tup xs) (.int i) m = oOut (atI xs i) m := rfl
@[simp] theorem v_ixL : opIx (.lst xs) (.int i) m = oOut (atI xs i) m := rfl
@[simp] theorem v_ixS {ns : List Int} : opIx (.scr ns) (.int i) m = oOut ((atI ns i).map .int) m := rfl
@[simp] theorem v_oOut {d : D} : oOut (some d) m = .ok d m := rfl
@[simp] theorem v_oOutN : oOut none m = .bad := rfl
@[simp] theorem v_slT {lo hi : Option Int} : opSl mu (.tup xs) lo hi m = .ok (.tup (cut xs lo hi)) m := rfl
@[simp] theorem v_slL {lo hi : Option Int} : opSl false (.lst xs) lo hi m = .ok (.lst (cut xs lo hi)) m := rfl
@[simp] theorem v_rvT : opRv mu (.tup xs) m = .ok (.tup xs.reverse) m := rfl
@[simp] theorem v_slS {lo hi : Option Int} {ns : List Int} : opSl mu (.scr ns) lo hi m = .ok (.lst (cut (ns.map .int) lo hi)) m := rfl
@[simp] theorem v_mkTup : mkTup xs m = if xs.length ≤ LIM then .ok (.tup xs) m else .bad := by unfold mkTup; simp
@[simp] theorem v_mkLst : mkLst false xs m = if xs.length ≤ LIM then .ok (.lst xs) m else .bad := by unfold mkLst; simp
@[simp] theorem v_mkLstM : mkLst true xs m = if xs.length ≤ LIM then .ok (.ref m.length) (m ++ [.lst xs]) else .bad := by unfold mkLst; simp [new]
@[simp] theorem v_stT : starred (.tup xs) m = .ok xs m := rfl
@[simp] theorem v_stL : starred (.lst xs) m = .ok xs m := rfl
@[simp] theorem v_lenT : callB P .len [.tup xs] m = .ok (.int xs.length) m := rfl
@[simp] theorem v_lenL : callB P .len [.lst xs] m = .ok (.int xs.length) m := rfl
@[simp] theorem v_lenS {ns : List Int} : callB P .len [.scr ns] m = .ok (.int ns.length) m := by show Out.ok (D.int ((ns.map D.int).length : Nat)) m = _; simp
@[simp] theorem v_abs : callB P .abs [.int i] m = .ok (.int (if i < 0 then -i else i)) m := rfl
@[simp] theorem v_max2 : callB P .max [.int i, .int j] m = .ok (.int (if j > i then j else i)) m := rfl
@[simp] theorem v_min2 : callB P .min [.int i, .int j] m = .ok (.int (if j < i then j else i)) m := rfl
@[simp] theorem v_divmod : callB P .divmod [.int i, .int j] m = if divOk j then .ok (.tup [.int (i / j), .int (i % j)]) m else .bad := rfl
@[simp] theorem v_isI : callB P .isinst [.int i, .ty "int"] m = .ok (.bl true) m := rfl
@[simp] theorem v_isIB : callB P .isinst [.int i, .ty "bool"] m = .ok (.bl false) m := rfl
@[simp] theorem v_isT : callB P .isinst [.tup xs, .ty "tuple"] m = .ok (.bl true) m := rfl
@[simp] theorem v_isIT : callB P .isinst [.int i, .ty "tuple"] m = .ok (.bl false) m := rfl
@[simp] theorem v_tyInt : callT mu .int [.int i] m = .ok (.int i) m := rfl
@[simp] theorem v_tyTupL : callT mu .tuple [.lst xs] m = .ok (.tup xs) m := rfl
@[simp] theorem v_tyTupT : callT mu .tuple [.tup xs] m = .ok (.tup xs) m := rfl
@[simp] theorem v_tyLstL : callT false .list [.lst xs] m = .ok (.lst xs) m := rfl
@[simp] theorem v_tyLstT : callT false .list [.tup xs] m = .ok (.lst xs) m := rfl
@[simp] theorem v_srcT : srcV (.tup xs) m = .ok (.fix xs) m := rfl
@[simp] theorem v_srcL : srcV (.lst xs) m = .ok (.fix xs) m := rfl
@[simp] theorem v_srcS {ns : List Int} : srcV (.scr ns) m = .ok (.fix (ns.map .int)) m := rfl
@[simp] theorem v_rng1 : srcR [.int j] m = if small62 j then .ok (.fix (rangeL 0 j)) m else .bad := rfl
@[simp] theorem v_rng3 {c : Int} : srcR [.int i, .int j, .int c] m = if rgOk3 i j c then .ok (.fix (rangeC i j c)) m else .bad := rfl
@[simp] theorem v_rng2 : srcR [.int i, .int j] m = if small62 i && small62 j then .ok (.fix (rangeL i j)) m else .bad := rfl
@[simp] theorem v_all {bs : List Bool} : callB P .all [.lst (bs.map .bl)] m = .ok (.bl (bs.all id)) m := by
  show (match asBools (bs.map .bl) with | some ns => Out.ok (D.bl (ns.all id)) m | _ => .bad) = _
  rw [asBools_d]
@[simp] theorem v_maxL {n : Int} {ns : List Int} : callB P .max [.lst (dints (n :: ns))] m = .ok (.int (most (n :: ns))) m := by
  show (match asInts (dints (n :: ns)) with | some (n :: ns) => Out.ok (D.int (most (n :: ns))) m | _ => .bad) = _
  rw [asInts_d]
@[simp] theorem v_set2 {a b : Nat} {d e : D} : setAll [a, b] [d, e] r = LC.ret ((r.set a (some d)).set b (some e)) := rfl
@[simp] theorem v_set3 {a b c : Nat} {d e f : D} : setAll [a, b, c] [d, e, f] r = LC.ret (((r.set a (some d)).set b (some e)).set c (some f)) := rfl
@[simp] theorem v_phi {G : Prog} {n : Nat} : (phi G n).call = callD G n := rfl
@[simp] theorem v_phiW {G : Prog} {n : Nat} : (phi G n).W = G.W := rfl
@[simp] theorem v_iteB {c : Prop} [Decidable c] {a b : Out α} {F : α → Sto → Prop} : Po (if c then a else b) F = if c then Po a F else Po b F := by split <;> rfl
end
@[simp] theorem v_allF {β : Type} {P : Phi} {m : Sto} {l : List β} {f : β → Bool} : callB P .all [.lst (l.map fun x => D.bl (f x))] m = .ok (.bl (l.all f)) m := by
  have e : (l.map fun x => D.bl (f x)) = (l.map f).map .bl := by simp
  rw [e, v_all]
  simp [List.all_map]
theorem lcL_ints {turn : D → M (Option D)} {f : Int → D} {m : Sto} {xs : List Int} (h : ∀ x ∈ xs, turn (.int x) m = .ok (some (f x)) m) (hz : xs.length ≤ LIM) : lcL turn (dints xs) [] m = .ok (xs.map f) m := by
  have := lcL_map (turn := turn) (m := m) (ds := dints xs) (acc := []) (g := fun d => match d with | .int x => f x | _ => d) (fun d hd => by
    obtain ⟨x, hx, rfl⟩ := List.mem_map.mp hd
    exact h x hx) (by simp [dints_len]; exact hz)
  rw [this]
  simp [dints, Function.comp_def]
theorem lcL_rangeF {turn : D → M (Option D)} {g : Nat → Option D} {m : Sto} {lo hi : Int} (h : ∀ k : Nat, lo + k < hi → turn (.int (lo + k)) m = .ok (g k) m) (hz : (hi - lo).toNat ≤ LIM) : lcL turn (rangeL lo hi) [] m = .ok ((List.range (hi - lo).toNat).filterMap g) m := by
  have := lcL_fm (turn := turn) (m := m) (ds := rangeL lo hi) (acc := []) (g := fun d => match d with | .int x => g (x - lo).toNat | _ => none) (fun d hd => by
    obtain ⟨k, hk, rfl⟩ := List.mem_map.mp hd
    have hk := List.mem_range.mp hk
    rw [h k (by omega)]
    show _ = Out.ok (g (lo + k - lo).toNat) m
    rw [show (lo + (k : Int) - lo).toNat = k by omega]) (by simp [rangeL]; omega)
  rw [this]
  unfold rangeL
  rw [List.filterMap_map, List.nil_append]
  congr 2
  funext k
  show g (lo + (k : Int) - lo).toNat = g k
  rw [show (lo + (k : Int) - lo).toNat = k by omega]
theorem lcL_range {turn : D → M (Option D)} {f : Nat → D} {m : Sto} {n : Nat} (h : ∀ k : Nat, k < n → turn (.int k) m = .ok (some (f k)) m) (hz : n ≤ LIM) : lcL turn (rangeL 0 n) [] m = .ok ((List.range n).map f) m := by
  have := lcL_rangeF (turn := turn) (m := m) (lo := 0) (hi := n) (g := fun k => some (f k)) (fun k hk => by rw [Int.zero_add]; exact h k (by omega)) (by omega)
  rw [this]
  congr 1
  rw [show ((n : Int) - 0).toNat = n by omega]
  induction n with
  | zero => rfl
  | succ n ih => simp [List.filterMap_eq_map]
theorem dints_app {a b : List Int} : dints a ++ dints b = dints (a ++ b) := by simp [dints]
set_option exponentiation.threshold 20000 in
theorem divOk_of {j : Int} (h0 : 0 < j) (h1 : j < 2 ^ 8000) : divOk j = true := by
  unfold divOk
  rw [Bool.and_eq_true, decide_eq_true_eq, decide_eq_true_eq]
  refine ⟨h0, ?_⟩
  have : j.natAbs ≠ 0 := by omega
  rw [Nat.log2_lt this]
  have h2 : j.natAbs < 2 ^ 8000 := by
    have : (j.natAbs : Int) < ((2 ^ 8000 : Nat) : Int) := by rw [show (j.natAbs : Int) = j by omega]; exact_mod_cast h1
    exact_mod_cast this
  exact Nat.lt_of_lt_of_le h2 (Nat.pow_le_pow_right (by decide) (by decide))
theorem mulOk_l {i j : Int} (h0 : -(2 ^ 64) < i) (h1 : i < 2 ^ 64) : mulOk i j = true := by
  unfold mulOk
  rw [decide_eq_true (show -(2 ^ 64) < i ∧ i < 2 ^ 64 from ⟨h0, h1⟩)]
  rfl
theorem mulOk_r {i j : Int} (h0 : -(2 ^ 64) < j) (h1 : j < 2 ^ 64) : mulOk i j = true := by
  unfold mulOk
  rw [decide_eq_true (show -(2 ^ 64) < j ∧ j < 2 ^ 64 from ⟨h0, h1⟩), Bool.or_true, Bool.true_or]
/-- behind a statement: the rest -/
def sq (k : LC.Env → M Flow) (F : Flow → Sto → Prop) : Flow → Sto → Prop
  | .nx r, m => Po (k r m) F
  | .rt d, m => F (.rt d) m
  | .bk r, m => F (.bk r) m
  | .ct r, m => F (.ct r) m
theorem po_seq {P : Phi} {x y : T} {r : LC.Env} {m : Sto} {F : Flow → Sto → Prop} (h : Po ((den P x).s r m) (sq (den P y).s F)) : Po ((den P (.cons x y)).s r m) F := by
  show Po (bnd ((den P x).s r) (fun fl => seqF fl (den P y).s) m) F
  rw [v_bnd]
  exact h.mono fun fl m1 q => by
    cases fl with
    | nx r => exact q
    | rt d => exact ⟨q⟩
    | bk r => exact ⟨q⟩
    | ct r => exact ⟨q⟩
section
variable {k : LC.Env → M Flow} {F : Flow → Sto → Prop} {r : LC.Env} {m : Sto} {d : D}
@[simp] theorem v_sq_nx : sq k F (.nx r) m = Po (k r m) F := rfl
@[simp] theorem v_sq_rt : sq k F (.rt d) m = F (.rt d) m := rfl
@[simp] theorem v_sq_bk : sq k F (.bk r) m = F (.bk r) m := rfl
@[simp] theorem v_sq_ct : sq k F (.ct r) m = F (.ct r) m := rfl
end
theorem cut_take {α : Type} {xs : List α} {s : Nat} : cut xs none (some (s : Int)) = xs.take s := by
  unfold cut
  have h : sIx xs.length xs.length (some (s : Int)) = min s xs.length := by
    show (if (s : Int) < 0 then ((s : Int) + (xs.length : Int)).toNat else min (s : Int).toNat xs.length) = _
    rw [if_neg (by omega), Int.toNat_natCast]
  rw [h]
  show (xs.drop 0).take (min s xs.length - 0) = _
  rw [List.drop_zero, Nat.sub_zero]
  by_cases q : s ≤ xs.length
  · rw [Nat.min_eq_left q]
  · rw [Nat.min_eq_right (by omega), List.take_length, List.take_of_length_le (by omega)]
theorem cut_last {α : Type} {xs : List α} : cut xs none (some (-1)) = xs.dropLast := by
  unfold cut
  have h : sIx xs.length xs.length (some (-1)) = xs.length - 1 := by
    show (if (-1 : Int) < 0 then (-1 + (xs.length : Int)).toNat else min (-1 : Int).toNat xs.length) = _
    rw [if_pos (by omega)]
    omega
  rw [h]
  show (xs.drop 0).take (xs.length - 1 - 0) = _
  rw [List.drop_zero, Nat.sub_zero, List.dropLast_eq_take]
theorem dints_take {xs : List Int} {k : Nat} : (dints xs).take k = dints (xs.take k) := by simp [dints, List.map_take]
theorem dints_dropLast {xs : List Int} : (dints xs).dropLast = dints xs.dropLast := by simp [dints, List.map_dropLast]
theorem fld_put {P : Phi} {C f : Str} {c : Cls} {fs : List (Str × D)} {v : D} {p : Nat} {m : Sto} (hp : m[p]? = some (.ins C fs)) (hc : P.cl C = some c) (hf : c.flds.contains f = true) (hl : fs.length < 1000) : opFld P f (.ref p) v m = .ok () (m.set p (.ins C (putF f v fs))) := by
  unfold opFld
  simp only [hp, hc, hf, decide_eq_true hl, Bool.and_self, if_true]
theorem fld_get {P : Phi} {C f : Str} {c : Cls} {fs : List (Str × D)} {v : D} {p : Nat} {m : Sto} (hp : m[p]? = some (.ins C fs)) (hc : P.cl C = some c) (hf : c.flds.contains f = true) (hv : fs.lookup f = some v) : opAt P f (.ref p) m = .ok v m := by
  unfold opAt
  simp only [hp, hc, hf, if_true, hv]
  rfl
theorem at_set {m : Sto} {p : Nat} {o o' : Ob} (hp : m[p]? = some o) : (m.set p o')[p]? = some o' := List.getElem?_set_self (List.getElem?_eq_some_iff.mp hp).1
theorem ix_ref {p : Nat} {m : Sto} {xs : List D} {i : Int} (hp : m[p]? = some (.lst xs)) : opIx (.ref p) (.int i) m = oOut (atI xs i) m := by
  have e : top m (.ref p) = .lst xs := by show topR (.ref p) m[p]? = _; rw [hp]; rfl
  unfold opIx
  rw [e]
theorem set_ref {p j : Nat} {m : Sto} {xs : List D} {i : Int} {v : D} (hp : m[p]? = some (.lst xs)) (hj : ixN xs.length i = some j) : opSet (.ref p) (.int i) v m = .ok () (m.set p (.lst (xs.set j v))) := by
  unfold opSet
  simp only [hp, hj]
theorem po_end {P : Phi} {r : LC.Env} {m : Sto} {F : Flow → Sto → Prop} (h : F (.nx r) m) : Po ((den P .nil).s r m) F := ⟨h⟩
end LC

/-! # LcW: programs by what they have -/
namespace LC
open PySem
class HasD (G : Prog) (k : Nat) (d : outParam DefI) : Prop where
  h : G.defs[k]? = some d
class HasG (G : Prog) (x : Str) (d : outParam D) : Prop where
  h : G.glob.lookup x = some d
class HasF (G : Prog) (C f : Str) : Prop where
  h : ∃ c, (G.cls.find? fun c => c.name == C) = some c ∧ c.flds.contains f = true
class HasP (G : Prog) (C f : Str) (k : outParam Nat) : Prop where
  h : ∃ c, (G.cls.find? fun c => c.name == C) = some c ∧ c.flds.contains f = false ∧ c.props.lookup f = some k
class HasM (G : Prog) (C f : Str) (k : outParam Nat) : Prop where
  h : ∃ c, (G.cls.find? fun c => c.name == C) = some c ∧ c.meths.lookup f = some k
class HasI (G : Prog) (C : Str) (k : outParam Nat) : Prop where
  h : ∃ c, (G.cls.find? fun c => c.name == C) = some c ∧ c.init = some k
class HasK (G : Prog) (C f : Str) (k : outParam Nat) : Prop where
  h : ∃ c, (G.cls.find? fun c => c.name == C) = some c ∧ c.cms.lookup f = some k
class HasC (G : Prog) (C : Str) : Prop where
  h : ∃ c, (G.cls.find? fun c => c.name == C) = some c
section
variable {G : Prog} {n k : Nat} {x C f : Str} {d : DefI}
theorem po_callD [i : HasD G k d] {as : List D} {m : Sto} {F : D → Sto → Prop} (hl : as.length = d.np) (h : Po ((den (phi G n) d.body).s (as.map some ++ List.replicate (d.ns - d.np) none) m) (fin F)) : Po (callD G (n + 1) k as m) F := po_call i.h hl h
@[simp] theorem glob_eq {v : D} [i : HasG G x v] : (phi G n).glob.lookup x = some v := i.h
theorem at_fld [i : HasF G C f] {fs : List (Str × D)} {v : D} {p : Nat} {m : Sto} (hp : m[p]? = some (.ins C fs)) (hv : fs.lookup f = some v) : opAt (phi G n) f (.ref p) m = .ok v m := by
  obtain ⟨c, h1, h2⟩ := i.h
  exact fld_get hp h1 h2 hv
theorem put_fld [i : HasF G C f] {fs : List (Str × D)} {v : D} {p : Nat} {m : Sto} (hp : m[p]? = some (.ins C fs)) (hl : fs.length < 1000) : opFld (phi G n) f (.ref p) v m = .ok () (m.set p (.ins C (putF f v fs))) := by
  obtain ⟨c, h1, h2⟩ := i.h
  exact fld_put hp h1 h2 hl
theorem at_prop [i : HasP G C f k] {fs : List (Str × D)} {p : Nat} {m : Sto} (hp : m[p]? = some (.ins C fs)) : opAt (phi G n) f (.ref p) m = callD G n k [.ref p] m := by
  obtain ⟨c, h1, h2, h3⟩ := i.h
  unfold opAt
  have h1 : (phi G n).cl C = some c := h1
  simp only [hp, h1, h2, h3]
  rfl
theorem pre_me [i : HasM G C f k] {fs : List (Str × D)} {p : Nat} {m : Sto} (hp : m[p]? = some (.ins C fs)) (hf : (fs.lookup f).isNone = true) : preMe (phi G n) f (.ref p) m = .ok k m := by
  obtain ⟨c, h1, h2⟩ := i.h
  have h1 : (phi G n).cl C = some c := h1
  unfold preMe
  simp only [hp, h1, h2, hf, if_true]
theorem mk_new [i : HasI G C k] {as : List D} {m : Sto} {F : D → Sto → Prop} (h : Po (callD G n k (.ref m.length :: as) (m ++ [.ins C []])) fun d m' => d = .non ∧ F (.ref m.length) m') : Po (opMk (phi G n) C as m) F := by
  obtain ⟨c, h1, h2⟩ := i.h
  have h1 : (phi G n).cl C = some c := h1
  unfold opMk opMkK
  simp only [h1, h2]
  rw [v_bnd, v_bnd, v_ret]
  refine Po.mono h ?_
  rintro _ m1 ⟨rfl, hF⟩
  exact ⟨hF⟩
theorem mk_newK [i : HasI G C k] {as bs : List D} {g : List D → List D → M (List D)} {l : List D} {m : Sto} {F : D → Sto → Prop} (hg : g (.ref m.length :: as) bs (m ++ [.ins C []]) = .ok l (m ++ [.ins C []])) (h : Po (callD G n k l (m ++ [.ins C []])) fun d m' => d = .non ∧ F (.ref m.length) m') : Po (opMkK (phi G n) C g as bs m) F := by
  obtain ⟨c, h1, h2⟩ := i.h
  have h1 : (phi G n).cl C = some c := h1
  unfold opMkK
  simp only [h1, h2]
  rw [v_bnd, v_bnd, hg, v_ok]
  refine Po.mono h ?_
  rintro _ m1 ⟨rfl, hF⟩
  exact ⟨hF⟩
theorem cm_call [i : HasK G C f k] {as : List D} {m : Sto} : opCm (phi G n) C f as m = callD G n k (.glb C :: as) m := by
  obtain ⟨c, h1, h2⟩ := i.h
  have h1 : (phi G n).cl C = some c := h1
  unfold opCm
  simp only [h1, h2]
  rfl
theorem cmk_call [i : HasK G C f k] {g : List D → List D → M (List D)} {bs : List D} {m : Sto} : opCmK (phi G n) C f g bs m = bnd (g [.glb C] bs) (callD G n k) m := by
  obtain ⟨c, h1, h2⟩ := i.h
  have h1 : (phi G n).cl C = some c := h1
  unfold opCmK
  simp only [h1, h2]
  rfl
theorem is_own [i : HasC G C] {fs : List (Str × D)} {p : Nat} {m : Sto} (hp : m[p]? = some (.ins C fs)) : callB (phi G n) .isinst [.ref p, .glb C] m = .ok (.bl true) m := by
  obtain ⟨c, h1⟩ := i.h
  have h1 : (phi G n).cl C = some c := h1
  show bOut (isInst1 _ m (.ref p) (.glb C)) m = _
  unfold isInst1
  simp only [h1, hp, Option.isSome_some, if_true, beq_self_eq_true]
  rfl
end
end LC

/-! # LcX: texts of values -/
namespace LC
open PySem
theorem log2_lt {i : Int} {k : Nat} (hk : 0 < k) (h0 : -(2 ^ k) < i) (h1 : i < 2 ^ k) : i.natAbs.log2 < k := by
  by_cases z : i.natAbs = 0
  · rw [z]; simpa using hk
  · rw [Nat.log2_lt z]
    have e : ((2 ^ k : Nat) : Int) = 2 ^ k := by push_cast; rfl
    rw [← e] at h0 h1
    omega
theorem po_ok {α : Type} {o : Out α} {a : α} (h : Po o fun v _ => v = a) : ∃ m, o = .ok a m := by
  have h := h.h
  cases o with
  | ok v m => have h : v = a := h; subst h; exact ⟨m, rfl⟩
  | exc C fs m => exact (show False from h).elim
  | bad => exact (show False from h).elim
mutual
def wt : PyData → Nat
  | .none => 4
  | .bool _ => 5
  | .int _ => 1921
  | .str s => 10 * s.length + 2
  | .list xs => 4 + wts xs
  | .tuple xs => 4 + wts xs
  | .dict _ => 2 ^ 30
def wts : List PyData → Nat
  | [] => 0
  | x :: xs => wt x + 2 + wts xs
end
mutual
/-- what is told: ints of a moderate size, texts of real signs -/
def tel : PyData → Bool
  | .none => true
  | .bool _ => true
  | .int i => decide (i.natAbs.log2 < 1920)
  | .str s => s.cps.toList.all fun c => decide (c < 16 ^ 8)
  | .list xs => tels xs
  | .tuple xs => tels xs
  | .dict _ => false
def tels : List PyData → Bool
  | [] => true
  | x :: xs => tel x && tels xs
end
theorem str_len_app (a b : Str) : (a ++ b).length = a.length + b.length := by
  show (a.cps ++ b.cps).size = a.cps.size + b.cps.size
  exact Array.size_append
theorem join_len (s : Str) : ∀ l : List Str, (Str.join s l).length ≤ (l.map fun x => x.length + s.length).sum
  | [] => by simp [Str.join]; rfl
  | [x] => by simp [Str.join]
  | x :: y :: r => by
    have := join_len s (y :: r)
    have e : Str.join s (x :: y :: r) = x ++ s ++ Str.join s (y :: r) := by simp [Str.join]
    rw [e, str_len_app, str_len_app]
    simp only [List.map_cons, List.sum_cons] at this ⊢
    omega
mutual
theorem shown_le : ∀ a : PyData, tel a = true → a.showable = true ∧ a.shown.length ≤ wt a
  | .none, _ => by simp only [PyData.showable, PyData.shown, wt]; decide +kernel
  | .bool b, _ => by cases b <;> simp only [PyData.showable, PyData.shown, wt] <;> decide +kernel
  | .int i, h => by
    simp only [tel, decide_eq_true_eq] at h
    simp only [PyData.showable, PyData.shown, wt, decide_eq_true_eq]
    exact ⟨h, PyProof.Rows.int_text_len_1921 h⟩
  | .str s, h => by
    simp only [tel, List.all_eq_true, decide_eq_true_eq] at h
    simp only [PyData.showable, PyData.shown, wt, true_and]
    exact StrLaws.reprText_len s h
  | .list xs, h => by
    simp only [tel] at h
    have := shown_les xs h
    simp only [PyData.showable, PyData.shown_list, wt]
    refine ⟨this.1, ?_⟩
    rw [str_len_app, str_len_app]
    have j := join_len ", " (PyData.shownAll xs)
    have e1 : ("[" : Str).length = 1 := by decide +kernel
    have e2 : ("]" : Str).length = 1 := by decide +kernel
    have e3 : (", " : Str).length = 2 := by decide +kernel
    rw [e3] at j
    omega
  | .tuple xs, h => by
    simp only [tel] at h
    have := shown_les xs h
    simp only [PyData.showable, PyData.shown_tuple, wt]
    refine ⟨this.1, ?_⟩
    rw [str_len_app, str_len_app]
    have j := join_len ", " (PyData.shownAll xs)
    have e1 : ("(" : Str).length = 1 := by decide +kernel
    have e2 : Str.length (if xs.length == 1 then ",)" else ")" : String) ≤ 2 := by split <;> decide +kernel
    have e3 : (", " : Str).length = 2 := by decide +kernel
    rw [e3] at j
    omega
  | .dict _, h => by simp [tel] at h
theorem shown_les : ∀ xs : List PyData, tels xs = true → PyData.showableAll xs = true ∧ ((PyData.shownAll xs).map fun x => x.length + 2).sum ≤ wts xs
  | [], _ => by simp [PyData.showableAll, PyData.shownAll, wts]
  | x :: xs, h => by
    simp only [tels, Bool.and_eq_true] at h
    have a := shown_le x h.1
    have b := shown_les xs h.2
    simp only [PyData.showableAll, PyData.shownAll, wts, List.map_cons, List.sum_cons, Bool.and_eq_true]
    exact ⟨⟨a.1, b.1⟩, by omega⟩
end
theorem repr_ok {P : Phi} {d : D} {a : PyData} {m : Sto} (e : (top m d).py = some a) (ht : tel a = true) (hd : a.depth ≤ 64) (hw : wt a ≤ LIM) : callB P .repr [d] m = .ok (.str a.shown) m := by
  have := shown_le a ht
  show bRepr P d m = _
  unfold bRepr
  simp only [e]
  have : showOk a = true := by
    unfold showOk
    rw [this.1, decide_eq_true hd, decide_eq_true (Nat.le_trans this.2 hw)]
    rfl
  rw [if_pos this]
@[simp] theorem lim_lit (k : Nat) : ((no_index (OfNat.ofNat k) : Nat) ≤ LIM) = ((OfNat.ofNat k : Nat) ≤ 16777216) := rfl
@[simp] theorem lim_1 : (1 ≤ LIM) = True := by simp [LIM]
@[simp] theorem lim_0 : (0 ≤ LIM) = True := by simp
/-! ### texts are of real signs -/
abbrev okS (s : Str) : Prop := PyData.strOk s = true
theorem okS_iff {s : Str} : okS s ↔ ∀ c ∈ s.cps.toList, c < 0x110000 := by
  unfold okS PyData.strOk
  rw [← Array.all_toList, List.all_eq_true]
  simp
theorem okS_app {a b : Str} (ha : okS a) (hb : okS b) : okS (a ++ b) := by
  rw [okS_iff] at ha hb ⊢
  intro c hc
  have e : (a ++ b).cps.toList = a.cps.toList ++ b.cps.toList := by
    show (a.cps ++ b.cps).toList = _
    simp
  rw [e] at hc
  rcases List.mem_append.mp hc with h | h
  · exact ha c h
  · exact hb c h
theorem okS_of (s : String) : okS (Str.ofString s) := by
  rw [okS_iff, Str.ofString_eq_toList]
  intro c hc
  simp only [List.mem_map] at hc
  obtain ⟨x, _, rfl⟩ := hc
  have : x.toNat < 0x110000 := by
    have h := x.valid
    have e : x.toNat = x.val.toNat := rfl
    rcases h with h | h
    · have : x.val.toNat < 0xd800 := h
      omega
    · have : x.val.toNat < 0x110000 := h.2
      omega
  exact this
theorem okS_join {s : Str} (hs : okS s) : ∀ l : List Str, (∀ x ∈ l, okS x) → okS (Str.join s l)
  | [], _ => by show okS Str.empty; decide +kernel
  | [x], h => by simpa [Str.join] using h x (by simp)
  | x :: y :: r, h => by
    have e : Str.join s (x :: y :: r) = x ++ s ++ Str.join s (y :: r) := by simp [Str.join]
    rw [e]
    exact okS_app (okS_app (h x (by simp)) hs) (okS_join hs _ fun z hz => h z (by simp [hz]))
theorem reprChar_ok (q c : Nat) (hc : c < 0x110000) : ∀ x ∈ Builtin.Str.reprChar q c, x < 0x110000 := by
  have hx : ∀ w, ∀ x ∈ List.replicate (w - ((Nat.toDigits 16 c).map Char.toNat).length) 48 ++ (Nat.toDigits 16 c).map Char.toNat, x < 0x110000 := by
    intro w x hx
    rcases List.mem_append.mp hx with h | h
    · rw [(List.mem_replicate.mp h).2]; decide
    · obtain ⟨y, _, rfl⟩ := List.mem_map.mp h
      have h := y.valid
      have e : y.toNat = y.val.toNat := rfl
      rcases h with h | h
      · have : y.val.toNat < 0xd800 := h
        omega
      · have : y.val.toNat < 0x110000 := h.2
        omega
  unfold Builtin.Str.reprChar
  dsimp only
  intro x
  repeat' split
  all_goals simp only [List.mem_append, List.mem_cons, List.not_mem_nil, or_false]
  all_goals intro h
  · rcases h with rfl | rfl
    · decide
    · exact hc
  · rcases h with rfl | rfl <;> decide
  · rcases h with rfl | rfl <;> decide
  · rcases h with rfl | rfl <;> decide
  · subst h; exact hc
  · rcases h with (rfl | rfl) | h
    · decide
    · decide
    · exact hx 2 x (List.mem_append.mpr h)
  · rcases h with (rfl | rfl) | h
    · decide
    · decide
    · exact hx 4 x (List.mem_append.mpr h)
  · rcases h with (rfl | rfl) | h
    · decide
    · decide
    · exact hx 8 x (List.mem_append.mpr h)
theorem okS_repr {s : Str} (h : okS s) : okS (reprText s) := by
  rw [okS_iff] at h ⊢
  have q : reprQuote s < 0x110000 := by
    unfold reprQuote
    split <;> decide
  have fold : ∀ (l : List Nat) (acc : Array Nat), (∀ c ∈ l, c < 0x110000) → (∀ c ∈ acc.toList, c < 0x110000) → ∀ c ∈ (l.foldl (fun out c => out ++ (Builtin.Str.reprChar (reprQuote s) c).toArray) acc).toList, c < 0x110000 := by
    intro l
    induction l with
    | nil => intro acc _ h; exact h
    | cons x l ih =>
      intro acc h1 h2
      refine ih _ (fun c hc => h1 c (by simp [hc])) fun c hc => ?_
      rw [Array.toList_append] at hc
      rcases List.mem_append.mp hc with h | h
      · exact h2 c h
      · exact reprChar_ok _ _ (h1 x (by simp)) c (by simpa using h)
  intro c hc
  have e : (reprText s).cps = (s.cps.foldl (fun out c => out ++ (Builtin.Str.reprChar (reprQuote s) c).toArray) #[reprQuote s]).push (reprQuote s) := rfl
  rw [e, Array.toList_push, ← Array.foldl_toList] at hc
  rcases List.mem_append.mp hc with h1 | h1
  · refine fold s.cps.toList #[reprQuote s] h ?_ c h1
    intro c hc
    have : c = reprQuote s := by simpa using hc
    rw [this]; exact q
  · rw [List.mem_singleton.mp h1]; exact q
mutual
/-- all strings within are of real signs -/
def rs : PyData → Bool
  | .str s => PyData.strOk s
  | .list xs => rss xs
  | .tuple xs => rss xs
  | .dict _ => false
  | _ => true
def rss : List PyData → Bool
  | [] => true
  | x :: xs => rs x && rss xs
end
mutual
theorem okS_shown : ∀ a : PyData, rs a = true → okS a.shown
  | .none, _ => by simp only [PyData.shown]; exact okS_of _
  | .bool b, _ => by cases b <;> simp only [PyData.shown] <;> exact okS_of _
  | .int i, _ => by simp only [PyData.shown]; exact okS_of _
  | .str s, h => by simp only [PyData.shown]; exact okS_repr (by simpa only [rs] using h)
  | .list xs, h => by
    rw [PyData.shown_list]
    exact okS_app (okS_app (okS_of _) (okS_join (okS_of _) _ (okS_showns xs (by simpa only [rs] using h)))) (okS_of _)
  | .tuple xs, h => by
    rw [PyData.shown_tuple]
    exact okS_app (okS_app (okS_of _) (okS_join (okS_of _) _ (okS_showns xs (by simpa only [rs] using h)))) (okS_of _)
  | .dict _, h => by simp [rs] at h
theorem okS_showns : ∀ xs : List PyData, rss xs = true → ∀ x ∈ PyData.shownAll xs, okS x
  | [], _ => by simp [PyData.shownAll]
  | x :: xs, h => by
    simp only [rss, Bool.and_eq_true] at h
    intro y hy
    simp only [PyData.shownAll, List.mem_cons] at hy
    rcases hy with rfl | hy
    · exact okS_shown x h.1
    · exact okS_showns xs h.2 y hy
end
theorem fitS {a : Str} (h : okS a) : fitD (.str a) = true := by
  unfold fitD
  simp only [PyData.canLay0, PyData.depth, Bool.and_eq_true]
  exact ⟨h, rfl⟩
theorem eqS {a b : Str} {m : Sto} (ha : okS a) (hb : okS b) : opCmp .Eq (.str a) (.str b) m = .ok (.bl (decide (a = b))) m := by
  show bOut (if (fitD (.str a) && fitD (.str b)) = true then some (PyData.eqv (.str a) (.str b)) else none) m = _
  have h1 : (fitD (.str a) && fitD (.str b)) = true := by rw [fitS ha, fitS hb]; rfl
  rw [if_pos h1]
  have : PyData.eqv (.str a) (.str b) = decide (a = b) := by
    simp only [PyData.eqv]
    by_cases h : a = b
    · subst h; simp
    · simp [h]
  rw [this]; rfl
theorem neS {a b : Str} {m : Sto} (ha : okS a) (hb : okS b) : opCmp .NotEq (.str a) (.str b) m = .ok (.bl (!decide (a = b))) m := by
  show bOut ((if (fitD (.str a) && fitD (.str b)) = true then some (PyData.eqv (.str a) (.str b)) else none).map not) m = _
  have h1 : (fitD (.str a) && fitD (.str b)) = true := by rw [fitS ha, fitS hb]; rfl
  rw [if_pos h1]
  have : PyData.eqv (.str a) (.str b) = decide (a = b) := by
    simp only [PyData.eqv]
    by_cases h : a = b
    · subst h; simp
    · simp [h]
  rw [this]; rfl
end LC

/-! # LcY: ints in lists, told and compared -/
namespace LC
open PySem
theorem pys_ints : ∀ xs : List Int, D.pys (dints xs) = some (xs.map .int)
  | [] => rfl
  | x :: xs => by
    show (match D.py (.int x), D.pys (dints xs) with | some x, some xs => some (x :: xs) | _, _ => none) = _
    rw [pys_ints xs]; rfl
@[simp] theorem py_tup {xs : List D} : D.py (.tup xs) = (D.pys xs).map .tuple := by rw [D.py]
@[simp] theorem py_lst {xs : List D} : D.py (.lst xs) = (D.pys xs).map .list := by rw [D.py]
@[simp] theorem py_int {i : Int} : D.py (.int i) = some (.int i) := by rw [D.py]
@[simp] theorem py_str {i : Str} : D.py (.str i) = some (.str i) := by rw [D.py]
@[simp] theorem py_bl {i : Bool} : D.py (.bl i) = some (.bool i) := by rw [D.py]
@[simp] theorem py_non : D.py .non = some .none := by rw [D.py]
@[simp] theorem pys_nil : D.pys [] = some [] := by rw [D.pys]
theorem pys_cons {d : D} {ds : List D} {a : PyData} {l : List PyData} (h1 : d.py = some a) (h2 : D.pys ds = some l) : D.pys (d :: ds) = some (a :: l) := by rw [D.pys, h1, h2]
def big (i : Int) : Prop := -(10 ^ 100) ≤ i ∧ i ≤ 10 ^ 100
theorem tel_big {i : Int} (h : big i) : tel (.int i) = true := by
  simp only [tel, decide_eq_true_eq]
  obtain ⟨h1, h2⟩ := h
  have : i.natAbs.log2 < 400 := log2_lt (by decide) (by omega) (by omega)
  omega
theorem tels_ints : ∀ {xs : List Int}, (∀ x ∈ xs, big x) → tels (xs.map .int) = true
  | [], _ => by simp [tels]
  | x :: xs, h => by
    simp only [List.map_cons, tels, Bool.and_eq_true]
    exact ⟨tel_big (h x (by simp)), tels_ints fun y hy => h y (by simp [hy])⟩
theorem wts_ints : ∀ xs : List Int, wts (xs.map .int) = 1923 * xs.length
  | [] => by simp [wts]
  | x :: xs => by simp only [List.map_cons, wts, wt, wts_ints xs, List.length_cons]; omega
theorem rss_ints : ∀ xs : List Int, rss (xs.map .int) = true
  | [] => by simp [rss]
  | x :: xs => by simp [rss, rs, rss_ints xs]
theorem depths_ints : ∀ xs : List Int, PyData.depthAll (xs.map .int) ≤ 1
  | [] => by simp [PyData.depthAll]
  | x :: xs => by simp only [List.map_cons, PyData.depthAll, PyData.depth]; have := depths_ints xs; omega
theorem canLays_ints : ∀ xs : List Int, PyData.canLayAll0 (xs.map .int) = true
  | [] => by simp [PyData.canLayAll0]
  | x :: xs => by simp [PyData.canLayAll0, PyData.canLay0, canLays_ints xs]
theorem eqvAll_ints : ∀ xs ys : List Int, PyData.eqvAll (xs.map .int) (ys.map .int) = decide (xs = ys)
  | [], [] => by simp [PyData.eqvAll]
  | [], y :: ys => by simp [PyData.eqvAll]
  | x :: xs, [] => by simp [PyData.eqvAll]
  | x :: xs, y :: ys => by
    simp only [List.map_cons, PyData.eqvAll, eqvAll_ints xs ys, PyData.eqv]
    by_cases h : x = y
    · subst h; simp
    · simp [h]
theorem eqD_of {m : Sto} {x y : D} {a b : PyData} (h1 : (top m x).py = some a) (h2 : (top m y).py = some b) (f1 : fitD a = true) (f2 : fitD b = true) : eqD m x y = some (PyData.eqv a b) := by
  unfold eqD
  rw [h1, h2]
  simp only [f1, f2, Bool.and_self, if_true]
theorem eq_of {m : Sto} {x y : D} {a b : PyData} (h1 : (top m x).py = some a) (h2 : (top m y).py = some b) (f1 : fitD a = true) (f2 : fitD b = true) : opCmp .Eq x y m = .ok (.bl (PyData.eqv a b)) m := by
  show bOut (eqD m x y) m = _
  rw [eqD_of h1 h2 f1 f2]; rfl
theorem ne_of {m : Sto} {x y : D} {a b : PyData} (h1 : (top m x).py = some a) (h2 : (top m y).py = some b) (f1 : fitD a = true) (f2 : fitD b = true) : opCmp .NotEq x y m = .ok (.bl (!PyData.eqv a b)) m := by
  show bOut ((eqD m x y).map not) m = _
  rw [eqD_of h1 h2 f1 f2]; rfl
theorem fit_ints (xs : List Int) : fitD (.list (xs.map .int)) = true := by
  unfold fitD
  rw [Bool.and_eq_true, decide_eq_true_eq]
  refine ⟨by simp only [PyData.canLay0, canLays_ints], ?_⟩
  simp only [PyData.depth]
  exact Nat.le_trans (Nat.add_le_add_right (depths_ints xs) 1) (by decide)
theorem fit_intsT (xs : List Int) : fitD (.tuple (xs.map .int)) = true := by
  unfold fitD
  rw [Bool.and_eq_true, decide_eq_true_eq]
  refine ⟨by simp only [PyData.canLay0, canLays_ints], ?_⟩
  simp only [PyData.depth]
  exact Nat.le_trans (Nat.add_le_add_right (depths_ints xs) 1) (by decide)
theorem eq_ints {xs ys : List Int} {m : Sto} : opCmp .Eq (.lst (dints xs)) (.lst (dints ys)) m = .ok (.bl (decide (xs = ys))) m := by
  rw [eq_of (a := .list (xs.map .int)) (b := .list (ys.map .int)) (by simp [top, pys_ints]) (by simp [top, pys_ints]) (fit_ints xs) (fit_ints ys)]
  simp only [PyData.eqv, eqvAll_ints]
theorem eq_intsT {xs ys : List Int} {m : Sto} : opCmp .Eq (.tup (dints xs)) (.tup (dints ys)) m = .ok (.bl (decide (xs = ys))) m := by
  rw [eq_of (a := .tuple (xs.map .int)) (b := .tuple (ys.map .int)) (by simp [top, pys_ints]) (by simp [top, pys_ints]) (fit_intsT xs) (fit_intsT ys)]
  simp only [PyData.eqv, eqvAll_ints]
/-- the reprs of two values that are small enough, compared: told to be equal if they are the same -/
theorem repr_eq {P : Phi} {x : D} {a : PyData} {m : Sto} {F : D → Sto → Prop} (e : (top m x).py = some a) (ht : tel a = true) (hd : a.depth ≤ 64) (hw : wt a ≤ LIM) (hr : rs a = true) (h : F (.bl true) m) :
    Po (callB P .repr [x] m) fun u m1 => Po (callB P .repr [x] m1) fun w m2 => Po (opCmp .Eq u w m2) F := by
  rw [repr_ok e ht hd hw, v_ok, repr_ok e ht hd hw, v_ok, eqS (okS_shown a hr) (okS_shown a hr), v_ok]
  simpa using h
end LC

/-! # LcZ: texts, tests of texts, what is gone through with places -/
namespace LC
open PySem
theorem ofS_inj (a b : String) : (Str.ofString a = Str.ofString b) = (a = b) := by
  apply propext
  constructor
  · intro h
    rw [Str.ofString_eq_toList, Str.ofString_eq_toList] at h
    have h := congrArg (fun s => s.cps.toList) h
    simp only [List.toList_toArray] at h
    have inj : ∀ {x y : List Char}, x.map Char.toNat = y.map Char.toNat → x = y := by
      intro x
      induction x with
      | nil => intro y h; cases y with | nil => rfl | cons _ _ => simp at h
      | cons c x ih =>
        intro y h
        cases y with
        | nil => simp at h
        | cons d y =>
          simp only [List.map_cons, List.cons.injEq] at h
          have : c = d := Char.ext (UInt32.toNat_inj.mp h.1)
          rw [this, ih h.2]
    have := inj h
    exact String.toList_inj.mp this
  · intro h; rw [h]
@[simp] theorem okS_lit (s : String) : (PyData.strOk (Str.ofString s) = true) = True := by simp only [eq_iff_iff, iff_true]; exact okS_of s
@[simp] theorem len_l0 : (Str.ofString "plus ").length = 5 := by decide +kernel
@[simp] theorem len_l1 : (Str.ofString "times ").length = 6 := by decide +kernel
@[simp] theorem len_l2 : (Str.ofString "/").length = 1 := by decide +kernel
@[simp] theorem len_l3 : (Str.ofString " ").length = 1 := by decide +kernel
@[simp] theorem len_l4 : (Str.ofString " to ").length = 4 := by decide +kernel
@[simp] theorem len_l5 : (Str.ofString ": ").length = 2 := by decide +kernel
@[simp] theorem len_l6 : (Str.ofString ", ").length = 2 := by decide +kernel
@[simp] theorem len_l7 : (Str.ofString "").length = 0 := by decide +kernel
@[simp] theorem len_l8 : (Str.ofString "\n").length = 1 := by decide +kernel
@[simp] theorem len_l9 : (Str.ofString "kind ").length = 5 := by decide +kernel
@[simp] theorem len_l10 : (Str.ofString " group ").length = 7 := by decide +kernel
@[simp] theorem len_l11 : (Str.ofString "group ").length = 6 := by decide +kernel
@[simp] theorem len_l12 : (Str.ofString "whole").length = 5 := by decide +kernel
@[simp] theorem len_l13 : (Str.ofString "plus").length = 4 := by decide +kernel
@[simp] theorem len_l14 : (Str.ofString "times").length = 5 := by decide +kernel
@[simp] theorem len_l15 : (Str.ofString "down").length = 4 := by decide +kernel
@[simp] theorem len_l16 : (Str.ofString "up").length = 2 := by decide +kernel
@[simp] theorem len_l17 : (Str.ofString "near down").length = 9 := by decide +kernel
@[simp] theorem len_l18 : (Str.ofString "near up").length = 7 := by decide +kernel
@[simp] theorem len_l19 : (Str.ofString "near even").length = 9 := by decide +kernel
@[simp] theorem len_l20 : (Str.ofString "Row with period ").length = 16 := by decide +kernel
@[simp] theorem len_l21 : (Str.ofString " and rise ").length = 10 := by decide +kernel
@[simp] theorem len_l22 : (Str.ofString "Book of ").length = 8 := by decide +kernel
@[simp] theorem len_l23 : (Str.ofString " kinds, ").length = 8 := by decide +kernel
@[simp] theorem len_l24 : (Str.ofString " groups").length = 7 := by decide +kernel
example : ¬ (Str.ofString "times" = Str.ofString "plus") := by simp [ofS_inj]

/-- items with their places -/
def enumL (xs : List D) : List D := (List.range xs.length).zip xs |>.map fun p => .tup [.int (p.1 : Nat), p.2]
section
variable {m : Sto} {P : Phi}
theorem in_strs {a : Str} {ys : List Str} : opCmp .In (.str a) (.tup (ys.map .str)) m = .ok (.bl (decide (a ∈ ys))) m := by
  have h1 : (ys.map D.str).all D.flat = true := by rw [List.all_eq_true]; intro d hd; obtain ⟨y, _, rfl⟩ := List.mem_map.mp hd; rfl
  have h2 : ((ys.map D.str).any fun z => eqF z (.str a)) = decide (a ∈ ys) := by
    induction ys with
    | nil => simp
    | cons y ys ih =>
      rw [List.map_cons, List.any_cons, ih (by rw [List.map_cons, List.all_cons, Bool.and_eq_true] at h1; exact h1.2)]
      show ((y == a) || _) = _
      by_cases h : y = a
      · subst h; simp
      · have : ¬ a = y := fun e => h e.symm
        simp [h, this]
  show bOut (if (D.flat (.str a) && (ys.map D.str).all D.flat) = true then some ((ys.map D.str).any fun z => eqF z (.str a)) else none) m = _
  rw [h1, h2]
  rfl
theorem nin_strs {a : Str} {ys : List Str} : opCmp .NotIn (.str a) (.tup (ys.map .str)) m = .ok (.bl (!decide (a ∈ ys))) m := by
  have := @in_strs m a ys
  have e : opCmp .In (.str a) (.tup (ys.map .str)) m = bOut (inD m (.str a) (.tup (ys.map .str))) m := rfl
  rw [e] at this
  show bOut ((inD m (.str a) (.tup (ys.map .str))).map not) m = _
  cases z : inD m (.str a) (.tup (ys.map .str)) with
  | none => rw [z] at this; cases this
  | some b => rw [z] at this; cases this; rfl
/-- in a list, as it stands or at a place -/
theorem in_strsL {a : Str} {ys : List Str} {y : D} (h : top m y = .lst (ys.map .str)) (hy : ∀ z, y ≠ .str z) : opCmp .In (.str a) y m = .ok (.bl (decide (a ∈ ys))) m := by
  have h1 : (ys.map D.str).all D.flat = true := by rw [List.all_eq_true]; intro d hd; obtain ⟨y, _, rfl⟩ := List.mem_map.mp hd; rfl
  have h2 : ((ys.map D.str).any fun z => eqF z (.str a)) = decide (a ∈ ys) := by
    clear h hy
    induction ys with
    | nil => simp
    | cons y ys ih =>
      rw [List.map_cons, List.any_cons, ih (by rw [List.map_cons, List.all_cons, Bool.and_eq_true] at h1; exact h1.2)]
      show ((y == a) || _) = _
      by_cases h : y = a
      · subst h; simp
      · have : ¬ a = y := fun e => h e.symm
        simp [h, this]
  show bOut (inD m (.str a) y) m = _
  have e : inD m (.str a) y = some (decide (a ∈ ys)) := by
    cases y with
    | str z => exact absurd rfl (hy z)
    | _ =>
      unfold inD
      rw [h]
      simp only [h1, h2]
      rfl
  rw [e]; rfl
theorem in_chr {c : Nat} {z : Str} : opCmp .In (.str ⟨#[c]⟩) (.str z) m = .ok (.bl (decide (c ∈ z.cps.toList))) m := rfl
theorem nin_chr {c : Nat} {z : Str} : opCmp .NotIn (.str ⟨#[c]⟩) (.str z) m = .ok (.bl (!decide (c ∈ z.cps.toList))) m := rfl
@[simp] theorem v_isS {s : Str} : callB P .isinst [.str s, .ty "str"] m = .ok (.bl true) m := rfl
@[simp] theorem v_srcStr {z : Str} : srcV (.str z) m = .ok (.fix (z.cps.toList.map fun c => .str ⟨#[c]⟩)) m := rfl
@[simp] theorem v_srcE {xs : List D} : srcE [.tup xs] m = .ok (.fix (enumL xs)) m := rfl
@[simp] theorem v_srcEL {xs : List D} : srcE [.lst xs] m = .ok (.fix (enumL xs)) m := rfl
@[simp] theorem v_srcZ {xs ys : List D} : srcZ [.tup xs, .tup ys] m = .ok (.fix ((xs.zip ys).map fun p => .tup [p.1, p.2])) m := rfl
@[simp] theorem v_srcZL {xs ys : List D} : srcZ [.lst xs, .lst ys] m = .ok (.fix ((xs.zip ys).map fun p => .tup [p.1, p.2])) m := rfl
theorem v_fmtS {s : Str} (h : s.length ≤ LIM) : fmt (.str s) m = .ok (.str s) m := by show (if decide (s.length ≤ LIM) = true then _ else _) = _; rw [decide_eq_true h]; rfl
theorem v_fmtI {i : Int} (h : i.natAbs.log2 < 1920) : fmt (.int i) m = .ok (.str ((toString i : String) : Str)) m := by show (if decide (i.natAbs.log2 < 1920) = true then _ else _) = _; rw [decide_eq_true h]; rfl
theorem v_lenStr {s : Str} (h : s.length ≤ LIM) : callB P .len [.str s] m = .ok (.int s.length) m := by show (if decide (s.length ≤ LIM) = true then _ else _) = _; rw [decide_eq_true h]; rfl
theorem v_addS {mu : Bool} {a b : Str} (h : a.length + b.length ≤ LIM) : opBin mu .Add (.str a) (.str b) m = .ok (.str (a ++ b)) m := by show (if decide (a.length + b.length ≤ LIM) = true then _ else _) = _; rw [decide_eq_true h]; rfl
theorem asStrs_map : ∀ ys : List Str, asStrs (ys.map .str) = some ys
  | [] => rfl
  | y :: ys => by show (asStrs (ys.map .str)).map (y :: ·) = _; rw [asStrs_map ys]; rfl
theorem v_join {a : Str} {ys : List Str} {d : D} (hd : top m d = .lst (ys.map .str)) (h : (ys.map (·.length)).sum + ys.length * a.length ≤ LIM) : opJoin (.str a) d m = .ok (.str (Str.join a ys)) m := by
  unfold opJoin
  simp only [hd]
  unfold joinD
  rw [asStrs_map]
  simp only [decide_eq_true h, if_true]
@[simp] theorem v_negI {x : T} {r : LC.Env} : True := trivial
theorem istr_len {i : Int} (h : i.natAbs.log2 < 1920) : (Str.ofString (toString i)).length ≤ 1921 := PyProof.Rows.int_text_len_1921 h
theorem log2_of {i : Int} (h0 : -(10 ^ 100) ≤ i) (h1 : i ≤ 10 ^ 100) : i.natAbs.log2 < 1920 := by
  have : i.natAbs.log2 < 400 := log2_lt (by decide) (by omega) (by omega)
  omega
end
/-- a for over items with their places -/
theorem enum_get {xs : List D} {i : Nat} {d : D} (h : (enumL xs)[i]? = some d) : ∃ x, xs[i]? = some x ∧ d = .tup [.int (i : Nat), x] := by
  unfold enumL at h
  rw [List.getElem?_map] at h
  cases e : ((List.range xs.length).zip xs)[i]? with
  | none => rw [e] at h; cases h
  | some p =>
    rw [e] at h
    obtain ⟨h1, h2⟩ := List.getElem?_zip_eq_some.mp (show ((List.range xs.length).zip xs)[i]? = some (p.1, p.2) from e)
    have hi : i < xs.length := (List.getElem?_eq_some_iff.mp h2).1
    rw [List.getElem?_range hi] at h1
    cases h1
    exact ⟨p.2, h2, (Option.some.inj h).symm⟩
theorem enum_len {xs : List D} : (enumL xs).length = xs.length := by simp [enumL]
end LC

namespace Tx
open PySem LC
/-- is_integer -/
def f_is_integer_0 (σ : Nat → Nat) : LC.T :=
  .cons (.ret (.an (.bi .isinst (.cons (.v 0) (.cons (.bt "int") .nil))) (.nt (.bi .isinst (.cons (.v 0) (.cons (.bt "bool") .nil)))))) .nil
def f_is_integer (σ : Nat → Nat) : LC.T := f_is_integer_0 σ
def d_is_integer (σ : Nat → Nat) : LC.DefI := ⟨1, 1, f_is_integer σ⟩
/-- is_between -/
def f_is_between_0 (σ : Nat → Nat) : LC.T :=
  .cons (.ret (.an (.call (σ 3) (.cons (.v 0) .nil)) (.an (.cmp .GtE (.v 0) (.v 1)) (.or (.cmp .Is (.v 2) .n) (.cmp .LtE (.v 0) (.v 2)))))) .nil
def f_is_between (σ : Nat → Nat) : LC.T := f_is_between_0 σ
def d_is_between (σ : Nat → Nat) : LC.DefI := ⟨3, 3, f_is_between σ⟩
/-- is_name -/
def f_is_name_0 (σ : Nat → Nat) : LC.T :=
  .cons (.ret (.b false)) .nil
def f_is_name_1 (σ : Nat → Nat) : LC.T :=
  .cons (.ret (.bi .all (.cons (.lc false [1] (.or (.cmp .In (.v 1) (.g "LETTERS")) (.cmp .In (.v 1) (.g "DIGITS"))) (.gv 1) (.itv (.v 0)) .nil) .nil))) .nil
def f_is_name_2 (σ : Nat → Nat) : LC.T :=
  .cons (.ifs (.to (.tn (.tv (.bi .isinst (.cons (.v 0) (.cons (.bt "str") .nil))))) (.to (.tn (.tch .LtE .LtE (.i 1) (.bi .len (.cons (.v 0) .nil)) (.g "LONGEST_NAME"))) (.tc .NotIn (.ix (.v 0) (.i 0)) (.g "LETTERS")))) (f_is_name_0 σ) .nil) (f_is_name_1 σ)
def f_is_name (σ : Nat → Nat) : LC.T := f_is_name_2 σ
def d_is_name (σ : Nat → Nat) : LC.DefI := ⟨1, 2, f_is_name σ⟩
/-- number_of -/
def f_number_of_0 (σ : Nat → Nat) : LC.T :=
  .cons (.ret .n) .nil
def f_number_of_1 (σ : Nat → Nat) : LC.T :=
  .cons (.ret (.ife (.tc .Eq (.ty .str false (.cons (.ty .int false (.cons (.v 0) .nil)) .nil)) (.v 0)) (.ty .int false (.cons (.v 0) .nil)) .n)) .nil
def f_number_of_2 (σ : Nat → Nat) : LC.T :=
  .cons (.ifs (.to (.tc .Eq (.v 1) (.s "")) (.to (.tc .Gt (.bi .len (.cons (.v 1) .nil)) (.i 9)) (.tn (.tv (.bi .all (.cons (.lc false [2] (.cmp .In (.v 2) (.g "DIGITS")) (.gv 2) (.itv (.v 1)) .nil) .nil)))))) (f_number_of_0 σ) .nil) (f_number_of_1 σ)
def f_number_of_3 (σ : Nat → Nat) : LC.T :=
  .cons (.set 1 (.ife (.tc .Eq (.sl false (.v 0) .nil (.i 1)) (.s "-")) (.sl false (.v 0) (.i 1) .nil) (.v 0))) (f_number_of_2 σ)
def f_number_of (σ : Nat → Nat) : LC.T := f_number_of_3 σ
def d_number_of (σ : Nat → Nat) : LC.DefI := ⟨1, 3, f_number_of σ⟩
/-- is_step -/
def f_is_step_0 (σ : Nat → Nat) : LC.T :=
  .cons (.ret (.b false)) .nil
def f_is_step_1 (σ : Nat → Nat) : LC.T :=
  .cons (.ret (.an (.cmp .Eq (.bi .len (.cons (.v 0) .nil)) (.g "PLUS_SIZE")) (.call (σ 4) (.cons (.ix (.v 0) (.i 1)) (.cons (.neg (.g "MOST_PLUS")) (.cons (.g "MOST_PLUS") .nil)))))) .nil
def f_is_step_2 (σ : Nat → Nat) : LC.T :=
  .cons (.ret (.b false)) .nil
def f_is_step_3 (σ : Nat → Nat) : LC.T :=
  .cons (.ret (.b false)) .nil
def f_is_step_4 (σ : Nat → Nat) : LC.T :=
  .cons (.ret (.call (σ 4) (.cons (.ix (.v 0) (.i 4)) (.cons (.i 1) (.cons (.g "MOST_UNIT") .nil))))) .nil
def f_is_step_5 (σ : Nat → Nat) : LC.T :=
  .cons (.ifs (.to (.tn (.tv (.call (σ 4) (.cons (.ix (.v 0) (.i 1)) (.cons (.i 1) (.cons (.g "MOST_FACTOR") .nil)))))) (.tn (.tv (.call (σ 4) (.cons (.ix (.v 0) (.i 2)) (.cons (.i 1) (.cons (.g "MOST_FACTOR") .nil))))))) (f_is_step_3 σ) .nil) (f_is_step_4 σ)
def f_is_step_6 (σ : Nat → Nat) : LC.T :=
  .cons (.ifs (.to (.tc .NotEq (.ix (.v 0) (.i 0)) (.s "times")) (.to (.tc .NotEq (.bi .len (.cons (.v 0) .nil)) (.g "TIMES_SIZE")) (.to (.tn (.tv (.bi .isinst (.cons (.ix (.v 0) (.i 3)) (.cons (.bt "str") .nil))))) (.tc .NotIn (.ix (.v 0) (.i 3)) (.g "WAYS"))))) (f_is_step_2 σ) .nil) (f_is_step_5 σ)
def f_is_step_7 (σ : Nat → Nat) : LC.T :=
  .cons (.ifs (.tc .Eq (.ix (.v 0) (.i 0)) (.s "plus")) (f_is_step_1 σ) .nil) (f_is_step_6 σ)
def f_is_step_8 (σ : Nat → Nat) : LC.T :=
  .cons (.ifs (.to (.tn (.tv (.bi .isinst (.cons (.v 0) (.cons (.bt "tuple") .nil))))) (.to (.tc .Eq (.bi .len (.cons (.v 0) .nil)) (.i 0)) (.tn (.tv (.bi .isinst (.cons (.ix (.v 0) (.i 0)) (.cons (.bt "str") .nil))))))) (f_is_step_0 σ) .nil) (f_is_step_7 σ)
def f_is_step (σ : Nat → Nat) : LC.T := f_is_step_8 σ
def d_is_step (σ : Nat → Nat) : LC.DefI := ⟨1, 1, f_is_step σ⟩
/-- wrong_step -/
def f_wrong_step_0 (σ : Nat → Nat) : LC.T :=
  .cons (.ret (.v 1)) .nil
def f_wrong_step_1 (σ : Nat → Nat) : LC.T :=
  .cons (.ifs (.to (.tc .Eq (.v 1) (.g "MOST_STEPS")) (.tn (.tv (.call (σ 6) (.cons (.v 2) .nil))))) (f_wrong_step_0 σ) .nil) .nil
def f_wrong_step_2 (σ : Nat → Nat) : LC.T :=
  .cons (.ret .n) .nil
def f_wrong_step_3 (σ : Nat → Nat) : LC.T :=
  .cons (.fr (.gt (.cons (.gv 1) (.cons (.gv 2) .nil))) (.ite (.cons (.v 0) .nil)) (f_wrong_step_1 σ)) (f_wrong_step_2 σ)
def f_wrong_step (σ : Nat → Nat) : LC.T := f_wrong_step_3 σ
def d_wrong_step (σ : Nat → Nat) : LC.DefI := ⟨1, 3, f_wrong_step σ⟩
/-- is_row_of_steps -/
def f_is_row_of_steps_0 (σ : Nat → Nat) : LC.T :=
  .cons (.ret (.an (.bi .isinst (.cons (.v 0) (.cons (.bt "tuple") .nil))) (.cmp .Is (.call (σ 7) (.cons (.v 0) .nil)) .n))) .nil
def f_is_row_of_steps (σ : Nat → Nat) : LC.T := f_is_row_of_steps_0 σ
def d_is_row_of_steps (σ : Nat → Nat) : LC.DefI := ⟨1, 1, f_is_row_of_steps σ⟩
/-- rounded -/
def f_rounded_0 (σ : Nat → Nat) : LC.T :=
  .cons (.ret (.v 3)) .nil
def f_rounded_1 (σ : Nat → Nat) : LC.T :=
  .cons (.ret (.bin false .Add (.v 3) (.i 1))) .nil
def f_rounded_2 (σ : Nat → Nat) : LC.T :=
  .cons (.ret (.ife (.tc .Lt (.bin false .Mult (.i 2) (.v 4)) (.v 1)) (.v 3) (.bin false .Add (.v 3) (.i 1)))) .nil
def f_rounded_3 (σ : Nat → Nat) : LC.T :=
  .cons (.ret (.bin false .Add (.v 3) (.bin false .Mod (.v 3) (.i 2)))) .nil
def f_rounded_4 (σ : Nat → Nat) : LC.T :=
  .cons (.ret (.ife (.tc .Eq (.v 2) (.s "near down")) (.v 3) (.bin false .Add (.v 3) (.i 1)))) .nil
def f_rounded_5 (σ : Nat → Nat) : LC.T :=
  .cons (.ifs (.tc .Eq (.v 2) (.s "near even")) (f_rounded_3 σ) .nil) (f_rounded_4 σ)
def f_rounded_6 (σ : Nat → Nat) : LC.T :=
  .cons (.ifs (.tc .NotEq (.bin false .Mult (.i 2) (.v 4)) (.v 1)) (f_rounded_2 σ) .nil) (f_rounded_5 σ)
def f_rounded_7 (σ : Nat → Nat) : LC.T :=
  .cons (.ifs (.tc .Eq (.v 2) (.s "up")) (f_rounded_1 σ) .nil) (f_rounded_6 σ)
def f_rounded_8 (σ : Nat → Nat) : LC.T :=
  .cons (.ifs (.to (.tc .Eq (.v 2) (.s "down")) (.tc .Eq (.v 4) (.i 0))) (f_rounded_0 σ) .nil) (f_rounded_7 σ)
def f_rounded_9 (σ : Nat → Nat) : LC.T :=
  .cons (.asg (.gt (.cons (.gv 3) (.cons (.gv 4) .nil))) (.bi .divmod (.cons (.v 0) (.cons (.v 1) .nil)))) (f_rounded_8 σ)
def f_rounded (σ : Nat → Nat) : LC.T := f_rounded_9 σ
def d_rounded (σ : Nat → Nat) : LC.DefI := ⟨3, 5, f_rounded σ⟩
/-- led -/
def f_led_0 (σ : Nat → Nat) : LC.T :=
  .cons (.set 1 (.bin false .Add (.v 1) (.ix (.v 2) (.i 1)))) .nil
def f_led_1 (σ : Nat → Nat) : LC.T :=
  .cons (.set 1 (.bin false .Mult (.call (σ 33) (.cons (.bin false .Mult (.v 1) (.ix (.v 2) (.i 1))) (.cons (.bin false .Mult (.ix (.v 2) (.i 2)) (.ix (.v 2) (.i 4))) (.cons (.ix (.v 2) (.i 3)) .nil)))) (.ix (.v 2) (.i 4)))) .nil
def f_led_2 (σ : Nat → Nat) : LC.T :=
  .cons (.ifs (.tc .Eq (.ix (.v 2) (.i 0)) (.s "plus")) (f_led_0 σ) (f_led_1 σ)) .nil
def f_led_3 (σ : Nat → Nat) : LC.T :=
  .cons (.ret (.v 1)) .nil
def f_led_4 (σ : Nat → Nat) : LC.T :=
  .cons (.fr (.gv 2) (.itv (.v 0)) (f_led_2 σ)) (f_led_3 σ)
def f_led (σ : Nat → Nat) : LC.T := f_led_4 σ
def d_led (σ : Nat → Nat) : LC.DefI := ⟨2, 3, f_led σ⟩
/-- text_of_step -/
def f_text_of_step_0 (σ : Nat → Nat) : LC.T :=
  .cons (.ret (.fs (.cons (.s "plus ") (.cons (.fv (.ix (.v 0) (.i 1))) .nil)))) .nil
def f_text_of_step_1 (σ : Nat → Nat) : LC.T :=
  .cons (.ret (.fs (.cons (.s "times ") (.cons (.fv (.ix (.v 0) (.i 1))) (.cons (.s "/") (.cons (.fv (.ix (.v 0) (.i 2))) (.cons (.s " ") (.cons (.fv (.ix (.v 0) (.i 3))) (.cons (.s " to ") (.cons (.fv (.ix (.v 0) (.i 4))) .nil)))))))))) .nil
def f_text_of_step_2 (σ : Nat → Nat) : LC.T :=
  .cons (.ifs (.tc .Eq (.ix (.v 0) (.i 0)) (.s "plus")) (f_text_of_step_0 σ) .nil) (f_text_of_step_1 σ)
def f_text_of_step (σ : Nat → Nat) : LC.T := f_text_of_step_2 σ
def d_text_of_step (σ : Nat → Nat) : LC.DefI := ⟨1, 1, f_text_of_step σ⟩
/-- text_of_steps -/
def f_text_of_steps_0 (σ : Nat → Nat) : LC.T :=
  .cons (.ret (.ife (.tc .NotEq (.v 0) (.tup .nil)) (.bin false .Add (.s ": ") (.jn (.s ", ") (.lc false [1] (.call (σ 308) (.cons (.v 1) .nil)) (.gv 1) (.itv (.v 0)) .nil))) (.s ""))) .nil
def f_text_of_steps (σ : Nat → Nat) : LC.T := f_text_of_steps_0 σ
def d_text_of_steps (σ : Nat → Nat) : LC.DefI := ⟨1, 2, f_text_of_steps σ⟩
/-- step_of_text -/
def f_step_of_text_0 (σ : Nat → Nat) : LC.T :=
  .cons (.ret (.tup (.cons (.s "plus") (.cons (.call (σ 335) (.cons (.ix (.v 1) (.i 1)) .nil)) .nil)))) .nil
def f_step_of_text_1 (σ : Nat → Nat) : LC.T :=
  .cons (.ret .n) .nil
def f_step_of_text_2 (σ : Nat → Nat) : LC.T :=
  .cons (.ret .n) .nil
def f_step_of_text_3 (σ : Nat → Nat) : LC.T :=
  .cons (.ret (.tup (.cons (.s "times") (.cons (.call (σ 335) (.cons (.ix (.v 2) (.i 0)) .nil)) (.cons (.call (σ 335) (.cons (.ix (.v 2) (.i 1)) .nil)) (.cons (.jn (.s " ") (.sl false (.v 1) (.i 2) (.neg (.i 2)))) (.cons (.call (σ 335) (.cons (.ix (.v 1) (.neg (.i 1))) .nil)) .nil))))))) .nil
def f_step_of_text_4 (σ : Nat → Nat) : LC.T :=
  .cons (.ifs (.tc .NotEq (.bi .len (.cons (.v 2) .nil)) (.i 2)) (f_step_of_text_2 σ) .nil) (f_step_of_text_3 σ)
def f_step_of_text_5 (σ : Nat → Nat) : LC.T :=
  .cons (.set 2 (.sp (.ix (.v 1) (.i 1)) (.s "/"))) (f_step_of_text_4 σ)
def f_step_of_text_6 (σ : Nat → Nat) : LC.T :=
  .cons (.ifs (.to (.tc .NotEq (.ix (.v 1) (.i 0)) (.s "times")) (.to (.tc .Lt (.bi .len (.cons (.v 1) .nil)) (.g "TIMES_SIZE")) (.tc .NotEq (.ix (.v 1) (.neg (.i 2))) (.s "to")))) (f_step_of_text_1 σ) .nil) (f_step_of_text_5 σ)
def f_step_of_text_7 (σ : Nat → Nat) : LC.T :=
  .cons (.ifs (.ta (.tc .Eq (.ix (.v 1) (.i 0)) (.s "plus")) (.tc .Eq (.bi .len (.cons (.v 1) .nil)) (.g "PLUS_SIZE"))) (f_step_of_text_0 σ) .nil) (f_step_of_text_6 σ)
def f_step_of_text_8 (σ : Nat → Nat) : LC.T :=
  .cons (.set 1 (.sp (.v 0) (.s " "))) (f_step_of_text_7 σ)
def f_step_of_text (σ : Nat → Nat) : LC.T := f_step_of_text_8 σ
def d_step_of_text (σ : Nat → Nat) : LC.DefI := ⟨1, 3, f_step_of_text σ⟩
/-- steps_of_text -/
def f_steps_of_text_0 (σ : Nat → Nat) : LC.T :=
  .cons (.ret (.ty .tuple false (.cons (.lc false [1] (.call (σ 336) (.cons (.v 1) .nil)) (.gv 1) (.itv (.sp (.v 0) (.s ", "))) .nil) .nil))) .nil
def f_steps_of_text (σ : Nat → Nat) : LC.T := f_steps_of_text_0 σ
def d_steps_of_text (σ : Nat → Nat) : LC.DefI := ⟨1, 2, f_steps_of_text σ⟩
/-- is_kind -/
def f_is_kind_0 (σ : Nat → Nat) : LC.T :=
  .cons (.ret (.b false)) .nil
def f_is_kind_1 (σ : Nat → Nat) : LC.T :=
  .cons (.ret (.an (.call (σ 4) (.cons (.ix (.v 0) (.i 1)) (.cons (.i 0) (.cons .n .nil)))) (.call (σ 8) (.cons (.ix (.v 0) (.i 2)) .nil)))) .nil
def f_is_kind_2 (σ : Nat → Nat) : LC.T :=
  .cons (.ifs (.to (.tn (.tv (.bi .isinst (.cons (.v 0) (.cons (.bt "tuple") .nil))))) (.to (.tc .NotEq (.bi .len (.cons (.v 0) .nil)) (.g "KIND_SIZE")) (.tn (.tv (.call (σ 5) (.cons (.ix (.v 0) (.i 0)) .nil)))))) (f_is_kind_0 σ) .nil) (f_is_kind_1 σ)
def f_is_kind (σ : Nat → Nat) : LC.T := f_is_kind_2 σ
def d_is_kind (σ : Nat → Nat) : LC.DefI := ⟨1, 1, f_is_kind σ⟩
/-- check_kinds -/
def f_check_kinds_0 (σ : Nat → Nat) : LC.T :=
  .cons .bad .nil
def f_check_kinds_1 (σ : Nat → Nat) : LC.T :=
  .cons .bad .nil
def f_check_kinds_2 (σ : Nat → Nat) : LC.T :=
  .cons (.ex1 (.bm .append (.v 1) (.cons (.ix (.v 3) (.i 0)) .nil))) .nil
def f_check_kinds_3 (σ : Nat → Nat) : LC.T :=
  .cons (.ifs (.to (.tc .Eq (.v 2) (.g "MOST_KINDS")) (.to (.tn (.tv (.call (σ 9) (.cons (.v 3) .nil)))) (.tc .In (.ix (.v 3) (.i 0)) (.v 1)))) (f_check_kinds_1 σ) .nil) (f_check_kinds_2 σ)
def f_check_kinds_4 (σ : Nat → Nat) : LC.T :=
  .cons (.fr (.gt (.cons (.gv 2) (.cons (.gv 3) .nil))) (.ite (.cons (.v 0) .nil)) (f_check_kinds_3 σ)) .nil
def f_check_kinds_5 (σ : Nat → Nat) : LC.T :=
  .cons (.set 1 (.ls true .nil)) (f_check_kinds_4 σ)
def f_check_kinds_6 (σ : Nat → Nat) : LC.T :=
  .cons (.ifs (.to (.tn (.tv (.bi .isinst (.cons (.v 0) (.cons (.bt "tuple") .nil))))) (.tc .Eq (.v 0) (.tup .nil))) (f_check_kinds_0 σ) .nil) (f_check_kinds_5 σ)
def f_check_kinds (σ : Nat → Nat) : LC.T := f_check_kinds_6 σ
def d_check_kinds (σ : Nat → Nat) : LC.DefI := ⟨1, 4, f_check_kinds σ⟩
/-- check_groups -/
def f_check_groups_0 (σ : Nat → Nat) : LC.T :=
  .cons .bad .nil
def f_check_groups_1 (σ : Nat → Nat) : LC.T :=
  .cons .bad .nil
def f_check_groups_2 (σ : Nat → Nat) : LC.T :=
  .cons (.ifs (.to (.tc .Eq (.v 1) (.g "MOST_GROUPS")) (.tn (.tv (.call (σ 8) (.cons (.v 2) .nil))))) (f_check_groups_1 σ) .nil) .nil
def f_check_groups_3 (σ : Nat → Nat) : LC.T :=
  .cons (.fr (.gt (.cons (.gv 1) (.cons (.gv 2) .nil))) (.ite (.cons (.v 0) .nil)) (f_check_groups_2 σ)) .nil
def f_check_groups_4 (σ : Nat → Nat) : LC.T :=
  .cons (.ifs (.to (.tn (.tv (.bi .isinst (.cons (.v 0) (.cons (.bt "tuple") .nil))))) (.tc .Eq (.v 0) (.tup .nil))) (f_check_groups_0 σ) .nil) (f_check_groups_3 σ)
def f_check_groups (σ : Nat → Nat) : LC.T := f_check_groups_4 σ
def d_check_groups (σ : Nat → Nat) : LC.DefI := ⟨1, 3, f_check_groups σ⟩
/-- check_places -/
def f_check_places_0 (σ : Nat → Nat) : LC.T :=
  .cons .bad .nil
def f_check_places_1 (σ : Nat → Nat) : LC.T :=
  .cons (.ifs (.tc .GtE (.ix (.v 3) (.i 1)) (.v 1)) (f_check_places_0 σ) .nil) .nil
def f_check_places_2 (σ : Nat → Nat) : LC.T :=
  .cons (.fr (.gt (.cons (.gv 2) (.cons (.gv 3) .nil))) (.ite (.cons (.v 0) .nil)) (f_check_places_1 σ)) .nil
def f_check_places (σ : Nat → Nat) : LC.T := f_check_places_2 σ
def d_check_places (σ : Nat → Nat) : LC.DefI := ⟨2, 4, f_check_places σ⟩
/-- check_whole -/
def f_check_whole_0 (σ : Nat → Nat) : LC.T :=
  .cons .bad .nil
def f_check_whole_1 (σ : Nat → Nat) : LC.T :=
  .cons .bad .nil
def f_check_whole_2 (σ : Nat → Nat) : LC.T :=
  .cons (.ifs (.tc .IsNot (.v 1) .n) (f_check_whole_1 σ) .nil) .nil
def f_check_whole_3 (σ : Nat → Nat) : LC.T :=
  .cons (.set 1 (.call (σ 7) (.cons (.v 0) .nil))) (f_check_whole_2 σ)
def f_check_whole_4 (σ : Nat → Nat) : LC.T :=
  .cons (.ifs (.tn (.tv (.bi .isinst (.cons (.v 0) (.cons (.bt "tuple") .nil))))) (f_check_whole_0 σ) .nil) (f_check_whole_3 σ)
def f_check_whole (σ : Nat → Nat) : LC.T := f_check_whole_4 σ
def d_check_whole (σ : Nat → Nat) : LC.DefI := ⟨1, 2, f_check_whole σ⟩
/-- text_of -/
def f_text_of_0 (σ : Nat → Nat) : LC.T :=
  .cons (.ret (.jn (.s "\n") (.ls false (.star (.v 3) (.cons (.bin false .Add (.s "whole") (.call (σ 309) (.cons (.v 2) .nil))) .nil))))) .nil
def f_text_of_1 (σ : Nat → Nat) : LC.T :=
  .cons (.ex1 (.bm .extend (.v 3) (.cons (.lc false [6, 7] (.bin false .Add (.fs (.cons (.s "group ") (.cons (.fv (.v 7)) .nil))) (.call (σ 309) (.cons (.v 6) .nil))) (.gt (.cons (.gv 7) (.cons (.gv 6) .nil))) (.ite (.cons (.v 1) .nil)) .nil) .nil))) (f_text_of_0 σ)
def f_text_of_2 (σ : Nat → Nat) : LC.T :=
  .cons (.setc 3 (.lc true [4, 5, 6] (.bin false .Add (.fs (.cons (.s "kind ") (.cons (.fv (.v 4)) (.cons (.s " group ") (.cons (.fv (.v 5)) .nil))))) (.call (σ 309) (.cons (.v 6) .nil))) (.gt (.cons (.gv 4) (.cons (.gv 5) (.cons (.gv 6) .nil)))) (.itv (.v 0)) .nil)) (f_text_of_1 σ)
def f_text_of (σ : Nat → Nat) : LC.T := f_text_of_2 σ
def d_text_of (σ : Nat → Nat) : LC.DefI := ⟨3, 8, f_text_of σ⟩
/-- parts_of_row -/
def f_parts_of_row_0 (σ : Nat → Nat) : LC.T :=
  .cons (.ret (.tup (.cons (.sp (.v 1) (.s " ")) (.cons (.ife (.tc .NotEq (.v 2) (.s "")) (.call (σ 337) (.cons (.v 3) .nil)) (.tup .nil)) .nil)))) .nil
def f_parts_of_row_1 (σ : Nat → Nat) : LC.T :=
  .cons (.asg (.gt (.cons (.gv 1) (.cons (.gv 2) (.cons (.gv 3) .nil)))) (.pt (.v 0) (.s ": "))) (f_parts_of_row_0 σ)
def f_parts_of_row (σ : Nat → Nat) : LC.T := f_parts_of_row_1 σ
def d_parts_of_row (σ : Nat → Nat) : LC.DefI := ⟨1, 4, f_parts_of_row σ⟩
/-- kind_of_parts -/
def f_kind_of_parts_0 (σ : Nat → Nat) : LC.T :=
  .cons (.ret (.ife (.tc .Eq (.bi .len (.cons (.v 0) .nil)) (.g "KIND_WORDS")) (.tup (.cons (.ix (.v 0) (.i 1)) (.cons (.call (σ 335) (.cons (.ix (.v 0) (.i 3)) .nil)) (.cons (.v 1) .nil)))) .n)) .nil
def f_kind_of_parts (σ : Nat → Nat) : LC.T := f_kind_of_parts_0 σ
def d_kind_of_parts (σ : Nat → Nat) : LC.DefI := ⟨2, 2, f_kind_of_parts σ⟩
/-- is_line -/
def f_is_line_0 (σ : Nat → Nat) : LC.T :=
  .cons (.ret (.b false)) .nil
def f_is_line_1 (σ : Nat → Nat) : LC.T :=
  .cons (.ret (.an (.bi .isinst (.cons (.ix (.v 0) (.i 0)) (.cons (.bt "str") .nil))) (.cmp .In (.ix (.v 0) (.i 0)) (.v 1)))) .nil
def f_is_line_2 (σ : Nat → Nat) : LC.T :=
  .cons (.ifs (.to (.tn (.tv (.bi .isinst (.cons (.v 0) (.cons (.bt "tuple") .nil))))) (.to (.tc .NotEq (.bi .len (.cons (.v 0) .nil)) (.i 2)) (.tn (.tv (.call (σ 4) (.cons (.ix (.v 0) (.i 1)) (.cons (.i 0) (.cons .n .nil)))))))) (f_is_line_0 σ) .nil) (f_is_line_1 σ)
def f_is_line (σ : Nat → Nat) : LC.T := f_is_line_2 σ
def d_is_line (σ : Nat → Nat) : LC.DefI := ⟨2, 2, f_is_line σ⟩
/-- check_bill -/
def f_check_bill_0 (σ : Nat → Nat) : LC.T :=
  .cons .bad .nil
def f_check_bill_1 (σ : Nat → Nat) : LC.T :=
  .cons .bad .nil
def f_check_bill_2 (σ : Nat → Nat) : LC.T :=
  .cons (.ifs (.tn (.tv (.call (σ 35) (.cons (.v 3) (.cons (.v 1) .nil))))) (f_check_bill_1 σ) .nil) .nil
def f_check_bill_3 (σ : Nat → Nat) : LC.T :=
  .cons (.fr (.gt (.cons (.gv 2) (.cons (.gv 3) .nil))) (.ite (.cons (.v 0) .nil)) (f_check_bill_2 σ)) .nil
def f_check_bill_4 (σ : Nat → Nat) : LC.T :=
  .cons (.ifs (.tn (.tv (.bi .isinst (.cons (.v 0) (.cons (.bt "tuple") .nil))))) (f_check_bill_0 σ) .nil) (f_check_bill_3 σ)
def f_check_bill (σ : Nat → Nat) : LC.T := f_check_bill_4 σ
def d_check_bill (σ : Nat → Nat) : LC.DefI := ⟨2, 4, f_check_bill σ⟩
/-- Book.__init__ -/
def f_Book_init_0 (σ : Nat → Nat) : LC.T :=
  .cons (.asg (.ga "words" (.v 0)) (.call (σ 310) (.cons (.v 1) (.cons (.v 2) (.cons (.v 3) .nil))))) .nil
def f_Book_init_1 (σ : Nat → Nat) : LC.T :=
  .cons (.asg (.gt (.cons (.ga "sorts" (.v 0)) (.cons (.ga "heaps" (.v 0)) (.cons (.ga "last" (.v 0)) .nil)))) (.tup (.cons (.v 1) (.cons (.v 2) (.cons (.v 3) .nil))))) (f_Book_init_0 σ)
def f_Book_init_2 (σ : Nat → Nat) : LC.T :=
  .cons (.ex1 (.call (σ 13) (.cons (.v 3) .nil))) (f_Book_init_1 σ)
def f_Book_init_3 (σ : Nat → Nat) : LC.T :=
  .cons (.ex1 (.call (σ 12) (.cons (.v 1) (.cons (.bi .len (.cons (.v 2) .nil)) .nil)))) (f_Book_init_2 σ)
def f_Book_init_4 (σ : Nat → Nat) : LC.T :=
  .cons (.ex1 (.call (σ 11) (.cons (.v 2) .nil))) (f_Book_init_3 σ)
def f_Book_init_5 (σ : Nat → Nat) : LC.T :=
  .cons (.ex1 (.call (σ 10) (.cons (.v 1) .nil))) (f_Book_init_4 σ)
def f_Book_init (σ : Nat → Nat) : LC.T := f_Book_init_5 σ
def d_Book_init (σ : Nat → Nat) : LC.DefI := ⟨4, 4, f_Book_init σ⟩
/-- Book.read -/
def f_Book_read_0 (σ : Nat → Nat) : LC.T :=
  .cons (.set 5 (.mv 0 (.cons (.v 3) (.cons (.v 4) (.cons (.ix (.ix (.v 2) (.neg (.i 1))) (.i 1)) .nil))))) .nil
def f_Book_read_1 (σ : Nat → Nat) : LC.T :=
  .cons .bad .nil
def f_Book_read_2 (σ : Nat → Nat) : LC.T :=
  .cons (.ret (.v 5)) .nil
def f_Book_read_3 (σ : Nat → Nat) : LC.T :=
  .cons (.ifs (.tc .NotEq (.at "words" (.v 5)) (.v 1)) (f_Book_read_1 σ) .nil) (f_Book_read_2 σ)
def f_Book_read_4 (σ : Nat → Nat) : LC.T :=
  .cons (.try1 (f_Book_read_0 σ)) (f_Book_read_3 σ)
def f_Book_read_5 (σ : Nat → Nat) : LC.T :=
  .cons (.set 4 (.ty .tuple false (.cons (.lc false [7, 8] (.v 8) (.gt (.cons (.gv 7) (.cons (.gv 8) .nil))) (.itv (.v 2)) (.tc .Eq (.ix (.v 7) (.i 0)) (.s "group"))) .nil))) (f_Book_read_4 σ)
def f_Book_read_6 (σ : Nat → Nat) : LC.T :=
  .cons (.set 3 (.ty .tuple false (.cons (.lc false [7, 8] (.call (σ 339) (.cons (.v 7) (.cons (.v 8) .nil))) (.gt (.cons (.gv 7) (.cons (.gv 8) .nil))) (.itv (.v 2)) (.tc .Eq (.ix (.v 7) (.i 0)) (.s "kind"))) .nil))) (f_Book_read_5 σ)
def f_Book_read_7 (σ : Nat → Nat) : LC.T :=
  .cons (.setc 2 (.lc false [6] (.call (σ 338) (.cons (.v 6) .nil)) (.gv 6) (.itv (.ife (.tv (.bi .isinst (.cons (.v 1) (.cons (.bt "str") .nil)))) (.sp (.v 1) (.s "\n")) (.ls false (.cons (.s "") .nil)))) .nil)) (f_Book_read_6 σ)
def f_Book_read (σ : Nat → Nat) : LC.T := f_Book_read_7 σ
def d_Book_read (σ : Nat → Nat) : LC.DefI := ⟨2, 9, f_Book_read σ⟩
/-- Book.kinds -/
def f_Book_kinds_0 (σ : Nat → Nat) : LC.T :=
  .cons (.ret (.at "sorts" (.v 0))) .nil
def f_Book_kinds (σ : Nat → Nat) : LC.T := f_Book_kinds_0 σ
def d_Book_kinds (σ : Nat → Nat) : LC.DefI := ⟨1, 1, f_Book_kinds σ⟩
/-- Book.groups -/
def f_Book_groups_0 (σ : Nat → Nat) : LC.T :=
  .cons (.ret (.at "heaps" (.v 0))) .nil
def f_Book_groups (σ : Nat → Nat) : LC.T := f_Book_groups_0 σ
def d_Book_groups (σ : Nat → Nat) : LC.DefI := ⟨1, 1, f_Book_groups σ⟩
/-- Book.whole -/
def f_Book_whole_0 (σ : Nat → Nat) : LC.T :=
  .cons (.ret (.at "last" (.v 0))) .nil
def f_Book_whole (σ : Nat → Nat) : LC.T := f_Book_whole_0 σ
def d_Book_whole (σ : Nat → Nat) : LC.DefI := ⟨1, 1, f_Book_whole σ⟩
/-- Book.names -/
def f_Book_names_0 (σ : Nat → Nat) : LC.T :=
  .cons (.ret (.ty .tuple false (.cons (.lc false [1] (.ix (.v 1) (.i 0)) (.gv 1) (.itv (.at "sorts" (.v 0))) .nil) .nil))) .nil
def f_Book_names (σ : Nat → Nat) : LC.T := f_Book_names_0 σ
def d_Book_names (σ : Nat → Nat) : LC.DefI := ⟨1, 2, f_Book_names σ⟩
/-- Book.kind_at -/
def f_Book_kind_at_0 (σ : Nat → Nat) : LC.T :=
  .cons (.ret (.v 2)) .nil
def f_Book_kind_at_1 (σ : Nat → Nat) : LC.T :=
  .cons (.ifs (.ta (.tv (.bi .isinst (.cons (.v 1) (.cons (.bt "str") .nil)))) (.tc .Eq (.ix (.v 2) (.i 0)) (.v 1))) (f_Book_kind_at_0 σ) .nil) .nil
def f_Book_kind_at_2 (σ : Nat → Nat) : LC.T :=
  .cons .bad .nil
def f_Book_kind_at_3 (σ : Nat → Nat) : LC.T :=
  .cons (.fr (.gv 2) (.itv (.at "sorts" (.v 0))) (f_Book_kind_at_1 σ)) (f_Book_kind_at_2 σ)
def f_Book_kind_at (σ : Nat → Nat) : LC.T := f_Book_kind_at_3 σ
def d_Book_kind_at (σ : Nat → Nat) : LC.DefI := ⟨2, 3, f_Book_kind_at σ⟩
/-- Book.sums -/
def f_Book_sums_0 (σ : Nat → Nat) : LC.T :=
  .cons (.augs (.v 2) (.ix (.v 5) (.i 1)) .Add (.call (σ 34) (.cons (.ix (.v 5) (.i 2)) (.cons (.v 4) .nil)))) .nil
def f_Book_sums_1 (σ : Nat → Nat) : LC.T :=
  .cons (.set 5 (.me "kind_at" (.v 0) (.cons (.v 3) .nil))) (f_Book_sums_0 σ)
def f_Book_sums_2 (σ : Nat → Nat) : LC.T :=
  .cons (.ret (.ty .tuple false (.cons (.v 2) .nil))) .nil
def f_Book_sums_3 (σ : Nat → Nat) : LC.T :=
  .cons (.fr (.gt (.cons (.gv 3) (.cons (.gv 4) .nil))) (.itv (.v 1)) (f_Book_sums_1 σ)) (f_Book_sums_2 σ)
def f_Book_sums_4 (σ : Nat → Nat) : LC.T :=
  .cons (.set 2 (.bin true .Mult (.ls false (.cons (.i 0) .nil)) (.bi .len (.cons (.at "heaps" (.v 0)) .nil)))) (f_Book_sums_3 σ)
def f_Book_sums_5 (σ : Nat → Nat) : LC.T :=
  .cons (.ex1 (.call (σ 36) (.cons (.v 1) (.cons (.at "names" (.v 0)) .nil)))) (f_Book_sums_4 σ)
def f_Book_sums (σ : Nat → Nat) : LC.T := f_Book_sums_5 σ
def d_Book_sums (σ : Nat → Nat) : LC.DefI := ⟨2, 6, f_Book_sums σ⟩
/-- Book.ask -/
def f_Book_ask_0 (σ : Nat → Nat) : LC.T :=
  .cons (.ret (.me "ask_of_sums" (.v 0) (.cons (.me "sums" (.v 0) (.cons (.v 1) .nil)) .nil))) .nil
def f_Book_ask (σ : Nat → Nat) : LC.T := f_Book_ask_0 σ
def d_Book_ask (σ : Nat → Nat) : LC.DefI := ⟨2, 2, f_Book_ask σ⟩
/-- Book.ask_of_sums -/
def f_Book_ask_of_sums_0 (σ : Nat → Nat) : LC.T :=
  .cons (.ret (.call (σ 34) (.cons (.at "last" (.v 0)) (.cons (.bi .sum (.cons (.lc false [2, 3] (.call (σ 34) (.cons (.v 2) (.cons (.v 3) .nil))) (.gt (.cons (.gv 2) (.cons (.gv 3) .nil))) (.itz (.cons (.at "heaps" (.v 0)) (.cons (.v 1) .nil))) .nil) .nil)) .nil)))) .nil
def f_Book_ask_of_sums (σ : Nat → Nat) : LC.T := f_Book_ask_of_sums_0 σ
def d_Book_ask_of_sums (σ : Nat → Nat) : LC.DefI := ⟨2, 4, f_Book_ask_of_sums σ⟩
/-- Book.__eq__ -/
def f_Book_eq_0 (σ : Nat → Nat) : LC.T :=
  .cons (.ret (.an (.bi .isinst (.cons (.v 1) (.cons (.g "Book") .nil))) (.cmp .Eq (.at "words" (.v 0)) (.at "words" (.v 1))))) .nil
def f_Book_eq (σ : Nat → Nat) : LC.T := f_Book_eq_0 σ
def d_Book_eq (σ : Nat → Nat) : LC.DefI := ⟨2, 2, f_Book_eq σ⟩
/-- Book.__str__ -/
def f_Book_str_0 (σ : Nat → Nat) : LC.T :=
  .cons (.ret (.ty .str false (.cons (.at "words" (.v 0)) .nil))) .nil
def f_Book_str (σ : Nat → Nat) : LC.T := f_Book_str_0 σ
def d_Book_str (σ : Nat → Nat) : LC.DefI := ⟨1, 1, f_Book_str σ⟩
/-- Book.__repr__ -/
def f_Book_repr_0 (σ : Nat → Nat) : LC.T :=
  .cons (.ret (.fs (.cons (.s "Book of ") (.cons (.fv (.bi .len (.cons (.at "sorts" (.v 0)) .nil))) (.cons (.s " kinds, ") (.cons (.fv (.bi .len (.cons (.at "heaps" (.v 0)) .nil))) (.cons (.s " groups") .nil))))))) .nil
def f_Book_repr (σ : Nat → Nat) : LC.T := f_Book_repr_0 σ
def d_Book_repr (σ : Nat → Nat) : LC.DefI := ⟨1, 1, f_Book_repr σ⟩
/-- _law_cell -/
def f_L_cell_0 (σ : Nat → Nat) : LC.T :=
  .cons (.ret (.ix (.v 0) (.v 1))) .nil
def f_L_cell_1 (σ : Nat → Nat) : LC.T :=
  .cons (.set 2 (.bin false .Mod (.ty .int false (.cons (.bin false .Add (.bin false .Mult (.v 2) (.i 69997)) (.v 3)) .nil)) (.i 2147483629))) .nil
def f_L_cell_2 (σ : Nat → Nat) : LC.T :=
  .cons (.ret (.v 2)) .nil
def f_L_cell_3 (σ : Nat → Nat) : LC.T :=
  .cons (.fr (.gv 3) (.itv (.sl false (.v 0) .nil (.i 4))) (f_L_cell_1 σ)) (f_L_cell_2 σ)
def f_L_cell_4 (σ : Nat → Nat) : LC.T :=
  .cons (.set 2 (.bin false .Add (.i 1729) (.bin false .Mult (.bin false .Mult (.i 7907) (.v 1)) (.v 1)))) (f_L_cell_3 σ)
def f_L_cell_5 (σ : Nat → Nat) : LC.T :=
  .cons (.ifs (.tc .Lt (.v 1) (.bi .len (.cons (.v 0) .nil))) (f_L_cell_0 σ) .nil) (f_L_cell_4 σ)
def f_L_cell (σ : Nat → Nat) : LC.T := f_L_cell_5 σ
def d_L_cell (σ : Nat → Nat) : LC.DefI := ⟨2, 4, f_L_cell σ⟩
/-- _law_purse -/
def f_L_purse_0 (σ : Nat → Nat) : LC.T :=
  .cons (.ret (.ls true (.cons (.v 1) (.cons (.ife (.tc .GtE (.bi .abs (.cons (.v 0) .nil)) (.bin false .Pow (.i 10) (.i 18))) (.bi .abs (.cons (.v 0) .nil)) (.i 0)) (.cons (.i 0) .nil))))) .nil
def f_L_purse_1 (σ : Nat → Nat) : LC.T :=
  .cons (.set 1 (.bin false .Mod (.ty .int false (.cons (.bin false .Add (.bin false .Mult (.bin false .Mod (.ty .int false (.cons (.v 0) .nil)) (.i 2147483629)) (.i 1583458089)) (.i 362436069)) .nil)) (.i 2147483629))) (f_L_purse_0 σ)
def f_L_purse (σ : Nat → Nat) : LC.T := f_L_purse_1 σ
def d_L_purse (σ : Nat → Nat) : LC.DefI := ⟨1, 2, f_L_purse σ⟩
/-- _law_take -/
def f_L_take_0 (σ : Nat → Nat) : LC.T :=
  .cons (.ret (.v 2)) .nil
def f_L_take_1 (σ : Nat → Nat) : LC.T :=
  .cons (.asg (.gt (.cons (.gs (.v 0) (.i 1)) (.cons (.gv 2) .nil))) (.bi .divmod (.cons (.ix (.v 0) (.i 1)) (.cons (.v 1) .nil)))) (f_L_take_0 σ)
def f_L_take_2 (σ : Nat → Nat) : LC.T :=
  .cons (.ret (.bin false .Mod (.ty .int false (.cons (.bin false .FloorDiv (.ix (.v 0) (.i 0)) (.i 256)) .nil)) (.v 1))) .nil
def f_L_take_3 (σ : Nat → Nat) : LC.T :=
  .cons (.asg (.gs (.v 0) (.i 0)) (.bin false .Mod (.ty .int false (.cons (.bin false .Add (.bin false .Add (.bin false .Mult (.v 3) (.v 4)) (.bin false .Mult (.i 60013) (.ix (.v 0) (.i 2)))) (.i 29)) .nil)) (.i 2147483629))) (f_L_take_2 σ)
def f_L_take_4 (σ : Nat → Nat) : LC.T :=
  .cons (.set 4 (.bin false .Add (.bin false .Mod (.ty .int false (.cons (.v 3) .nil)) (.i 30323)) (.i 40253))) (f_L_take_3 σ)
def f_L_take_5 (σ : Nat → Nat) : LC.T :=
  .cons (.set 3 (.ty .int false (.cons (.ix (.v 0) (.i 0)) .nil))) (f_L_take_4 σ)
def f_L_take_6 (σ : Nat → Nat) : LC.T :=
  .cons (.ifs (.tc .Gt (.ix (.v 0) (.i 1)) (.i 0)) (f_L_take_1 σ) .nil) (f_L_take_5 σ)
def f_L_take_7 (σ : Nat → Nat) : LC.T :=
  .cons (.asg (.gs (.v 0) (.i 2)) (.bin false .Add (.ix (.v 0) (.i 2)) (.i 1))) (f_L_take_6 σ)
def f_L_take (σ : Nat → Nat) : LC.T := f_L_take_7 σ
def d_L_take (σ : Nat → Nat) : LC.DefI := ⟨2, 5, f_L_take σ⟩
/-- _law_step -/
def f_L_step_0 (σ : Nat → Nat) : LC.T :=
  .cons (.ret (.tup (.cons (.s "plus") (.cons (.ix (.v 1) (.call (σ 22) (.cons (.v 0) (.cons (.i 8) .nil)))) .nil)))) .nil
def f_L_step_1 (σ : Nat → Nat) : LC.T :=
  .cons (.set 1 (.ls false (.cons (.i 0) (.cons (.i 1) (.cons (.neg (.i 1)) (.cons (.i 30) (.cons (.neg (.i 250)) (.cons (.i 9999) (.cons (.neg (.i 9999)) (.cons (.bin false .Sub (.call (σ 22) (.cons (.v 0) (.cons (.i 19999) .nil))) (.i 9999)) .nil)))))))))) (f_L_step_0 σ)
def f_L_step_2 (σ : Nat → Nat) : LC.T :=
  .cons (.ret (.tup (.cons (.s "times") (.cons (.v 3) (.cons (.v 4) (.cons (.v 5) (.cons (.v 6) .nil))))))) .nil
def f_L_step_3 (σ : Nat → Nat) : LC.T :=
  .cons (.set 6 (.ix (.ls false (.cons (.i 1) (.cons (.i 1) (.cons (.i 2) (.cons (.i 5) (.cons (.bin false .Add (.i 1) (.call (σ 22) (.cons (.v 0) (.cons (.i 60) .nil)))) .nil)))))) (.call (σ 22) (.cons (.v 0) (.cons (.i 5) .nil))))) (f_L_step_2 σ)
def f_L_step_4 (σ : Nat → Nat) : LC.T :=
  .cons (.set 5 (.ix (.ls false (.cons (.s "down") (.cons (.s "up") (.cons (.s "near down") (.cons (.s "near up") (.cons (.s "near even") .nil)))))) (.call (σ 22) (.cons (.v 0) (.cons (.i 5) .nil))))) (f_L_step_3 σ)
def f_L_step_5 (σ : Nat → Nat) : LC.T :=
  .cons (.par [3, 4] (.cons (.bin false .Add (.i 1) (.call (σ 22) (.cons (.v 0) (.cons (.v 2) .nil)))) (.cons (.bin false .Add (.i 1) (.call (σ 22) (.cons (.v 0) (.cons (.v 2) .nil)))) .nil))) (f_L_step_4 σ)
def f_L_step_6 (σ : Nat → Nat) : LC.T :=
  .cons (.set 2 (.ix (.ls false (.cons (.i 6) (.cons (.i 6) (.cons (.i 20) (.cons (.i 200) .nil))))) (.call (σ 22) (.cons (.v 0) (.cons (.i 4) .nil))))) (f_L_step_5 σ)
def f_L_step_7 (σ : Nat → Nat) : LC.T :=
  .cons (.ifs (.tc .Eq (.call (σ 22) (.cons (.v 0) (.cons (.i 6) .nil))) (.i 0)) (f_L_step_1 σ) .nil) (f_L_step_6 σ)
def f_L_step (σ : Nat → Nat) : LC.T := f_L_step_7 σ
def d_L_step (σ : Nat → Nat) : LC.DefI := ⟨1, 7, f_L_step σ⟩
/-- _law_steps -/
def f_L_steps_0 (σ : Nat → Nat) : LC.T :=
  .cons (.ret (.ty .tuple false (.cons (.lc false [1] (.call (σ 23) (.cons (.v 0) .nil)) (.gv 1) (.itr (.cons (.ix (.ls false (.cons (.i 0) (.cons (.i 1) (.cons (.i 1) (.cons (.i 2) .nil))))) (.call (σ 22) (.cons (.v 0) (.cons (.i 4) .nil)))) .nil)) .nil) .nil))) .nil
def f_L_steps (σ : Nat → Nat) : LC.T := f_L_steps_0 σ
def d_L_steps (σ : Nat → Nat) : LC.DefI := ⟨1, 2, f_L_steps σ⟩
/-- _law_word -/
def f_L_word_0 (σ : Nat → Nat) : LC.T :=
  .cons (.ret (.ix (.ls false (.cons (.s "kind") (.cons (.s "group") (.cons (.s "whole") (.cons (.s "times") (.cons (.s "plus") (.cons (.s "to") (.cons (.s "near") (.cons (.s "down") (.cons (.s "up") (.cons (.s "even") .nil))))))))))) (.call (σ 22) (.cons (.v 0) (.cons (.i 10) .nil))))) .nil
def f_L_word_1 (σ : Nat → Nat) : LC.T :=
  .cons (.set 1 (.bin false .Add (.v 1) (.ix (.s "abcdefghijklmnopqrstuvwxyz0123456789") (.call (σ 22) (.cons (.v 0) (.cons (.i 36) .nil)))))) .nil
def f_L_word_2 (σ : Nat → Nat) : LC.T :=
  .cons (.ret (.v 1)) .nil
def f_L_word_3 (σ : Nat → Nat) : LC.T :=
  .cons (.fr (.gv 2) (.itr (.cons (.call (σ 22) (.cons (.v 0) (.cons (.i 8) .nil))) .nil)) (f_L_word_1 σ)) (f_L_word_2 σ)
def f_L_word_4 (σ : Nat → Nat) : LC.T :=
  .cons (.set 1 (.ix (.s "abcdefghijklmnopqrstuvwxyz") (.call (σ 22) (.cons (.v 0) (.cons (.i 26) .nil))))) (f_L_word_3 σ)
def f_L_word_5 (σ : Nat → Nat) : LC.T :=
  .cons (.ifs (.tc .Eq (.call (σ 22) (.cons (.v 0) (.cons (.i 4) .nil))) (.i 0)) (f_L_word_0 σ) .nil) (f_L_word_4 σ)
def f_L_word (σ : Nat → Nat) : LC.T := f_L_word_5 σ
def d_L_word (σ : Nat → Nat) : LC.DefI := ⟨1, 3, f_L_word σ⟩
/-- _law_beside -/
def f_L_beside_0 (σ : Nat → Nat) : LC.T :=
  .cons (.ret (.bin false .Add (.v 1) (.v 3))) .nil
def f_L_beside_1 (σ : Nat → Nat) : LC.T :=
  .cons (.ret (.sl false (.v 1) .nil (.neg (.i 1)))) .nil
def f_L_beside_2 (σ : Nat → Nat) : LC.T :=
  .cons (.ret (.ife (.tc .Lt (.v 4) (.bi .len (.cons (.v 1) .nil))) (.bin false .Add (.bin false .Add (.sl false (.v 1) .nil (.v 4)) (.v 3)) (.sl false (.v 1) (.bin false .Add (.v 4) (.i 1)) .nil)) (.bin false .Add (.s "a") (.sl false (.v 1) (.i 1) .nil)))) .nil
def f_L_beside_3 (σ : Nat → Nat) : LC.T :=
  .cons (.set 4 (.bin false .Add (.i 1) (.call (σ 22) (.cons (.v 0) (.cons (.i 7) .nil))))) (f_L_beside_2 σ)
def f_L_beside_4 (σ : Nat → Nat) : LC.T :=
  .cons (.ifs (.ta (.tc .Eq (.v 2) (.i 1)) (.tc .Gt (.bi .len (.cons (.v 1) .nil)) (.i 1))) (f_L_beside_1 σ) .nil) (f_L_beside_3 σ)
def f_L_beside_5 (σ : Nat → Nat) : LC.T :=
  .cons (.ifs (.ta (.tc .Eq (.v 2) (.i 0)) (.tc .Lt (.bi .len (.cons (.v 1) .nil)) (.i 8))) (f_L_beside_0 σ) .nil) (f_L_beside_4 σ)
def f_L_beside_6 (σ : Nat → Nat) : LC.T :=
  .cons (.par [2, 3] (.cons (.call (σ 22) (.cons (.v 0) (.cons (.i 3) .nil))) (.cons (.ix (.s "abcdefghijklmnopqrstuvwxyz0123456789") (.call (σ 22) (.cons (.v 0) (.cons (.i 36) .nil)))) .nil))) (f_L_beside_5 σ)
def f_L_beside (σ : Nat → Nat) : LC.T := f_L_beside_6 σ
def d_L_beside (σ : Nat → Nat) : LC.DefI := ⟨2, 5, f_L_beside σ⟩
/-- _law_words -/
def f_L_words_0 (σ : Nat → Nat) : LC.T :=
  .cons (.set 4 (.call (σ 26) (.cons (.v 0) (.cons (.ix (.v 2) (.neg (.i 1))) .nil)))) .nil
def f_L_words_1 (σ : Nat → Nat) : LC.T :=
  .cons (.set 4 (.ix (.lc false [5] (.v 5) (.gv 5) (.itv (.ls false (.cons (.s "qa") (.cons (.s "qb") (.cons (.s "qc") (.cons (.s "qd") (.cons (.s "qe") (.cons (.s "qf") (.cons (.s "qg") .nil))))))))) (.tc .NotIn (.v 5) (.v 2))) (.i 0))) .nil
def f_L_words_2 (σ : Nat → Nat) : LC.T :=
  .cons (.ex1 (.bm .append (.v 2) (.cons (.v 4) .nil))) .nil
def f_L_words_3 (σ : Nat → Nat) : LC.T :=
  .cons (.ifs (.tc .In (.v 4) (.v 2)) (f_L_words_1 σ) .nil) (f_L_words_2 σ)
def f_L_words_4 (σ : Nat → Nat) : LC.T :=
  .cons (.ifs (.ta (.tc .NotEq (.v 2) (.ls false .nil)) (.tc .Eq (.call (σ 22) (.cons (.v 0) (.cons (.i 3) .nil))) (.i 0))) (f_L_words_0 σ) .nil) (f_L_words_3 σ)
def f_L_words_5 (σ : Nat → Nat) : LC.T :=
  .cons (.set 4 (.call (σ 25) (.cons (.v 0) .nil))) (f_L_words_4 σ)
def f_L_words_6 (σ : Nat → Nat) : LC.T :=
  .cons (.ret (.v 2)) .nil
def f_L_words_7 (σ : Nat → Nat) : LC.T :=
  .cons (.fr (.gv 3) (.itr (.cons (.v 1) .nil)) (f_L_words_5 σ)) (f_L_words_6 σ)
def f_L_words_8 (σ : Nat → Nat) : LC.T :=
  .cons (.set 2 (.ls true .nil)) (f_L_words_7 σ)
def f_L_words (σ : Nat → Nat) : LC.T := f_L_words_8 σ
def d_L_words (σ : Nat → Nat) : LC.DefI := ⟨2, 6, f_L_words σ⟩
/-- _law_parts -/
def f_L_parts_0 (σ : Nat → Nat) : LC.T :=
  .cons (.ret (.tup (.cons (.v 3) (.cons (.v 2) (.cons (.call (σ 24) (.cons (.v 0) .nil)) .nil))))) .nil
def f_L_parts_1 (σ : Nat → Nat) : LC.T :=
  .cons (.set 3 (.ty .tuple false (.cons (.lc false [5] (.tup (.cons (.v 5) (.cons (.call (σ 22) (.cons (.v 0) (.cons (.bi .len (.cons (.v 2) .nil)) .nil))) (.cons (.call (σ 24) (.cons (.v 0) .nil)) .nil)))) (.gv 5) (.itv (.v 1)) .nil) .nil))) (f_L_parts_0 σ)
def f_L_parts_2 (σ : Nat → Nat) : LC.T :=
  .cons (.set 2 (.ty .tuple false (.cons (.lc false [4] (.call (σ 24) (.cons (.v 0) .nil)) (.gv 4) (.itr (.cons (.bin false .Add (.i 1) (.call (σ 22) (.cons (.v 0) (.cons (.i 3) .nil)))) .nil)) .nil) .nil))) (f_L_parts_1 σ)
def f_L_parts_3 (σ : Nat → Nat) : LC.T :=
  .cons (.set 1 (.call (σ 27) (.cons (.v 0) (.cons (.bin false .Add (.i 1) (.call (σ 22) (.cons (.v 0) (.cons (.i 4) .nil)))) .nil)))) (f_L_parts_2 σ)
def f_L_parts (σ : Nat → Nat) : LC.T := f_L_parts_3 σ
def d_L_parts (σ : Nat → Nat) : LC.DefI := ⟨1, 6, f_L_parts σ⟩
/-- _law_worth -/
def f_L_worth_0 (σ : Nat → Nat) : LC.T :=
  .cons (.ret (.bin false .Sub (.ix (.ls false (.cons (.bin false .Pow (.i 10) (.i 9)) (.cons (.bin false .Pow (.i 10) (.i 30)) .nil))) (.bin false .Sub (.v 1) (.i 6))) (.call (σ 22) (.cons (.v 0) (.cons (.i 100003) .nil))))) .nil
def f_L_worth_1 (σ : Nat → Nat) : LC.T :=
  .cons (.ret (.call (σ 22) (.cons (.v 0) (.cons (.ix (.ls false (.cons (.i 2) (.cons (.i 11) (.cons (.i 11) (.cons (.i 101) (.cons (.i 101) (.cons (.i 1001) .nil))))))) (.v 1)) .nil)))) .nil
def f_L_worth_2 (σ : Nat → Nat) : LC.T :=
  .cons (.ifs (.tc .Gt (.v 1) (.i 5)) (f_L_worth_0 σ) .nil) (f_L_worth_1 σ)
def f_L_worth_3 (σ : Nat → Nat) : LC.T :=
  .cons (.set 1 (.call (σ 22) (.cons (.v 0) (.cons (.i 8) .nil)))) (f_L_worth_2 σ)
def f_L_worth (σ : Nat → Nat) : LC.T := f_L_worth_3 σ
def d_L_worth (σ : Nat → Nat) : LC.DefI := ⟨1, 2, f_L_worth σ⟩
/-- _law_tab -/
def f_L_tab_0 (σ : Nat → Nat) : LC.T :=
  .cons (.ex1 (.bm .append (.v 3) (.cons (.tup (.cons (.ix (.v 1) (.call (σ 22) (.cons (.v 0) (.cons (.bi .len (.cons (.v 1) .nil)) .nil)))) (.cons (.call (σ 46) (.cons (.v 0) .nil)) .nil))) .nil))) .nil
def f_L_tab_1 (σ : Nat → Nat) : LC.T :=
  .cons (.ret (.ty .tuple false (.cons (.v 3) .nil))) .nil
def f_L_tab_2 (σ : Nat → Nat) : LC.T :=
  .cons (.fr (.gv 4) (.itr (.cons (.call (σ 22) (.cons (.v 0) (.cons (.bin false .Add (.v 2) (.i 1)) .nil))) .nil)) (f_L_tab_0 σ)) (f_L_tab_1 σ)
def f_L_tab_3 (σ : Nat → Nat) : LC.T :=
  .cons (.set 3 (.ls true .nil)) (f_L_tab_2 σ)
def f_L_tab (σ : Nat → Nat) : LC.T := f_L_tab_3 σ
def d_L_tab (σ : Nat → Nat) : LC.DefI := ⟨3, 5, f_L_tab σ⟩
/-- _law_whole_part -/
def f_L_whole_part_0 (σ : Nat → Nat) : LC.T :=
  .cons (.ret (.v 3)) .nil
def f_L_whole_part_1 (σ : Nat → Nat) : LC.T :=
  .cons (.ret (.bin false .Add (.v 3) (.i 1))) .nil
def f_L_whole_part_2 (σ : Nat → Nat) : LC.T :=
  .cons (.ret (.v 3)) .nil
def f_L_whole_part_3 (σ : Nat → Nat) : LC.T :=
  .cons (.ret (.ife (.tc .Eq (.v 2) (.s "near up")) (.bin false .Add (.v 3) (.i 1)) (.bin false .Add (.v 3) (.bin false .Mod (.ty .int false (.cons (.v 3) .nil)) (.i 2))))) .nil
def f_L_whole_part_4 (σ : Nat → Nat) : LC.T :=
  .cons (.ifs (.to (.tc .Lt (.bin false .Mult (.i 2) (.v 4)) (.v 1)) (.tc .Eq (.v 2) (.s "near down"))) (f_L_whole_part_2 σ) .nil) (f_L_whole_part_3 σ)
def f_L_whole_part_5 (σ : Nat → Nat) : LC.T :=
  .cons (.ifs (.to (.tc .Eq (.v 2) (.s "up")) (.tc .Gt (.bin false .Mult (.i 2) (.v 4)) (.v 1))) (f_L_whole_part_1 σ) .nil) (f_L_whole_part_4 σ)
def f_L_whole_part_6 (σ : Nat → Nat) : LC.T :=
  .cons (.ifs (.to (.tc .Eq (.v 4) (.i 0)) (.tc .Eq (.v 2) (.s "down"))) (f_L_whole_part_0 σ) .nil) (f_L_whole_part_5 σ)
def f_L_whole_part_7 (σ : Nat → Nat) : LC.T :=
  .cons (.set 4 (.bin false .Sub (.v 0) (.bin false .Mult (.v 3) (.v 1)))) (f_L_whole_part_6 σ)
def f_L_whole_part_8 (σ : Nat → Nat) : LC.T :=
  .cons (.set 3 (.bin false .FloorDiv (.ty .int false (.cons (.v 0) .nil)) (.v 1))) (f_L_whole_part_7 σ)
def f_L_whole_part (σ : Nat → Nat) : LC.T := f_L_whole_part_8 σ
def d_L_whole_part (σ : Nat → Nat) : LC.DefI := ⟨3, 5, f_L_whole_part σ⟩
/-- _law_led -/
def f_L_led_0 (σ : Nat → Nat) : LC.T :=
  .cons (.set 2 (.bin false .Add (.v 2) (.ix (.v 3) (.i 1)))) .nil
def f_L_led_1 (σ : Nat → Nat) : LC.T :=
  .cons (.set 2 (.bin false .Mult (.call (σ 43) (.cons (.bin false .Mult (.v 2) (.ix (.v 3) (.i 1))) (.cons (.bin false .Mult (.ix (.v 3) (.i 2)) (.ix (.v 3) (.i 4))) (.cons (.ix (.v 3) (.i 3)) .nil)))) (.ix (.v 3) (.i 4)))) .nil
def f_L_led_2 (σ : Nat → Nat) : LC.T :=
  .cons (.ifs (.tc .Eq (.ix (.v 3) (.i 0)) (.s "plus")) (f_L_led_0 σ) (f_L_led_1 σ)) .nil
def f_L_led_3 (σ : Nat → Nat) : LC.T :=
  .cons (.ret (.v 2)) .nil
def f_L_led_4 (σ : Nat → Nat) : LC.T :=
  .cons (.fr (.gv 3) (.itv (.v 0)) (f_L_led_2 σ)) (f_L_led_3 σ)
def f_L_led_5 (σ : Nat → Nat) : LC.T :=
  .cons (.set 2 (.v 1)) (f_L_led_4 σ)
def f_L_led (σ : Nat → Nat) : LC.T := f_L_led_5 σ
def d_L_led (σ : Nat → Nat) : LC.DefI := ⟨2, 4, f_L_led σ⟩
/-- _law_heaped -/
def f_L_heaped_0 (σ : Nat → Nat) : LC.T :=
  .cons (.asg (.gs (.v 2) (.ix (.v 5) (.i 1))) (.bin false .Add (.ix (.v 2) (.ix (.v 5) (.i 1))) (.call (σ 44) (.cons (.ix (.v 5) (.i 2)) (.cons (.v 4) .nil))))) .nil
def f_L_heaped_1 (σ : Nat → Nat) : LC.T :=
  .cons (.ifs (.tc .Eq (.ix (.v 5) (.i 0)) (.v 3)) (f_L_heaped_0 σ) .nil) .nil
def f_L_heaped_2 (σ : Nat → Nat) : LC.T :=
  .cons (.fr (.gv 5) (.itv (.ix (.v 0) (.i 0))) (f_L_heaped_1 σ)) .nil
def f_L_heaped_3 (σ : Nat → Nat) : LC.T :=
  .cons (.ret (.v 2)) .nil
def f_L_heaped_4 (σ : Nat → Nat) : LC.T :=
  .cons (.fr (.gt (.cons (.gv 3) (.cons (.gv 4) .nil))) (.itv (.v 1)) (f_L_heaped_2 σ)) (f_L_heaped_3 σ)
def f_L_heaped_5 (σ : Nat → Nat) : LC.T :=
  .cons (.set 2 (.bin true .Mult (.ls false (.cons (.i 0) .nil)) (.bi .len (.cons (.ix (.v 0) (.i 1)) .nil)))) (f_L_heaped_4 σ)
def f_L_heaped (σ : Nat → Nat) : LC.T := f_L_heaped_5 σ
def d_L_heaped (σ : Nat → Nat) : LC.DefI := ⟨2, 6, f_L_heaped σ⟩
/-- _law_due -/
def f_L_due_0 (σ : Nat → Nat) : LC.T :=
  .cons (.ret (.call (σ 44) (.cons (.ix (.v 0) (.i 2)) (.cons (.bi .sum (.cons (.lc false [3] (.call (σ 44) (.cons (.ix (.ix (.v 0) (.i 1)) (.v 3)) (.cons (.ix (.v 2) (.v 3)) .nil))) (.gv 3) (.itr (.cons (.bi .len (.cons (.v 2) .nil)) .nil)) .nil) .nil)) .nil)))) .nil
def f_L_due_1 (σ : Nat → Nat) : LC.T :=
  .cons (.set 2 (.call (σ 48) (.cons (.v 0) (.cons (.v 1) .nil)))) (f_L_due_0 σ)
def f_L_due (σ : Nat → Nat) : LC.T := f_L_due_1 σ
def d_L_due (σ : Nat → Nat) : LC.DefI := ⟨2, 4, f_L_due σ⟩
/-- _law_step_text -/
def f_L_step_text_0 (σ : Nat → Nat) : LC.T :=
  .cons (.ret (.bin false .Add (.s "plus ") (.ty .str false (.cons (.ix (.v 0) (.i 1)) .nil)))) .nil
def f_L_step_text_1 (σ : Nat → Nat) : LC.T :=
  .cons (.ret (.bin false .Add (.bin false .Add (.bin false .Add (.bin false .Add (.bin false .Add (.bin false .Add (.bin false .Add (.s "times ") (.ty .str false (.cons (.ix (.v 0) (.i 1)) .nil))) (.s "/")) (.ty .str false (.cons (.ix (.v 0) (.i 2)) .nil))) (.s " ")) (.ix (.v 0) (.i 3))) (.s " to ")) (.ty .str false (.cons (.ix (.v 0) (.i 4)) .nil)))) .nil
def f_L_step_text_2 (σ : Nat → Nat) : LC.T :=
  .cons (.ifs (.tc .Eq (.ix (.v 0) (.i 0)) (.s "plus")) (f_L_step_text_0 σ) .nil) (f_L_step_text_1 σ)
def f_L_step_text (σ : Nat → Nat) : LC.T := f_L_step_text_2 σ
def d_L_step_text (σ : Nat → Nat) : LC.DefI := ⟨1, 1, f_L_step_text σ⟩
/-- _law_tail -/
def f_L_tail_0 (σ : Nat → Nat) : LC.T :=
  .cons (.ret (.ife (.tc .NotEq (.v 0) (.tup .nil)) (.bin false .Add (.s ": ") (.jn (.s ", ") (.lc false [1] (.call (σ 311) (.cons (.v 1) .nil)) (.gv 1) (.itv (.v 0)) .nil))) (.s ""))) .nil
def f_L_tail (σ : Nat → Nat) : LC.T := f_L_tail_0 σ
def d_L_tail (σ : Nat → Nat) : LC.DefI := ⟨1, 2, f_L_tail σ⟩
/-- _law_text -/
def f_L_text_0 (σ : Nat → Nat) : LC.T :=
  .cons (.ex1 (.bm .append (.v 1) (.cons (.bin false .Add (.bin false .Add (.s "group ") (.ty .str false (.cons (.v 2) .nil))) (.call (σ 312) (.cons (.ix (.ix (.v 0) (.i 1)) (.v 2)) .nil))) .nil))) .nil
def f_L_text_1 (σ : Nat → Nat) : LC.T :=
  .cons (.ret (.jn (.s "\n") (.bin false .Add (.v 1) (.ls false (.cons (.bin false .Add (.s "whole") (.call (σ 312) (.cons (.ix (.v 0) (.i 2)) .nil))) .nil))))) .nil
def f_L_text_2 (σ : Nat → Nat) : LC.T :=
  .cons (.fr (.gv 2) (.itr (.cons (.bi .len (.cons (.ix (.v 0) (.i 1)) .nil)) .nil)) (f_L_text_0 σ)) (f_L_text_1 σ)
def f_L_text_3 (σ : Nat → Nat) : LC.T :=
  .cons (.setc 1 (.lc true [3] (.bin false .Add (.bin false .Add (.bin false .Add (.bin false .Add (.s "kind ") (.ix (.v 3) (.i 0))) (.s " group ")) (.ty .str false (.cons (.ix (.v 3) (.i 1)) .nil))) (.call (σ 312) (.cons (.ix (.v 3) (.i 2)) .nil))) (.gv 3) (.itv (.ix (.v 0) (.i 0))) .nil)) (f_L_text_2 σ)
def f_L_text (σ : Nat → Nat) : LC.T := f_L_text_3 σ
def d_L_text (σ : Nat → Nat) : LC.DefI := ⟨1, 4, f_L_text σ⟩
/-- _law_right -/
def f_L_right_k05_0 (σ : Nat → Nat) : LC.T :=
  .cons (.ret (.b false)) .nil
def f_L_right_k05_1 (σ : Nat → Nat) : LC.T :=
  .cons (.ret (.b false)) .nil
def f_L_right_k05_2 (σ : Nat → Nat) : LC.T :=
  .cons (.ifs (.to (.tn (.te false (.v 8) (.v 4))) (.to (.te true (.v 4) (.v 8)) (.tn (.tv (.bi .isinst (.cons (.v 8) (.cons (.g "Book") .nil))))))) (f_L_right_k05_1 σ) .nil) .nil
def f_L_right_k05_3 (σ : Nat → Nat) : LC.T :=
  .cons (.ifs (.tc .NotEq (.bi .repr (.cons (.v 9) .nil)) (.bi .repr (.cons (.ls false (.cons (.ix (.v 3) (.i 0)) (.cons (.ix (.v 3) (.i 1)) (.cons (.ix (.v 3) (.i 2)) (.cons (.v 5) .nil))))) .nil))) (f_L_right_k05_0 σ) .nil) (f_L_right_k05_2 σ)
def f_L_right_k05_4 (σ : Nat → Nat) : LC.T :=
  .cons (.set 9 (.ls false (.cons (.at "kinds" (.v 8)) (.cons (.at "groups" (.v 8)) (.cons (.at "whole" (.v 8)) (.cons (.so (.cons (.v 8) .nil)) .nil)))))) (f_L_right_k05_3 σ)
def f_L_right_k05_5 (σ : Nat → Nat) : LC.T :=
  .cons (.ret (.b false)) .nil
def f_L_right_k05_6 (σ : Nat → Nat) : LC.T :=
  .cons (.ifs (.tc .NotEq (.bi .repr (.cons (.ls false (.cons (.me "ask" (.v 6) (.cons (.v 12) .nil)) (.cons (.me "sums" (.v 7) (.cons (.v 12) .nil)) .nil))) .nil)) (.bi .repr (.cons (.ls false (.cons (.call (σ 49) (.cons (.v 3) (.cons (.v 12) .nil))) (.cons (.ty .tuple false (.cons (.call (σ 48) (.cons (.v 3) (.cons (.v 12) .nil))) .nil)) .nil))) .nil))) (f_L_right_k05_5 σ) .nil) .nil
def f_L_right_k05_7 (σ : Nat → Nat) : LC.T :=
  .cons (.set 12 (.call (σ 47) (.cons (.v 0) (.cons (.v 10) (.cons (.i 5) .nil))))) (f_L_right_k05_6 σ)
def f_L_right_k05_8 (σ : Nat → Nat) : LC.T :=
  .cons (.ret (.b false)) .nil
def f_L_right_k05_9 (σ : Nat → Nat) : LC.T :=
  .cons (.set 1 (.v 5)) .nil
def f_L_right_k05_10 (σ : Nat → Nat) : LC.T :=
  .cons (.ifs (.ta (.tc .IsNot (.v 1) .n) (.tc .NotEq (.eo false (.v 6) (.cm "Book" "read" (.cons (.v 1) .nil))) (.cmp .Eq (.v 5) (.v 1)))) (f_L_right_k05_8 σ) .nil) (f_L_right_k05_9 σ)
def f_L_right_k05_11 (σ : Nat → Nat) : LC.T :=
  .cons (.fr (.gv 11) (.itr (.cons (.i 3) .nil)) (f_L_right_k05_7 σ)) (f_L_right_k05_10 σ)
def f_L_right_k05_12 (σ : Nat → Nat) : LC.T :=
  .cons (.setc 10 (.lc false [13] (.ix (.v 13) (.i 0)) (.gv 13) (.itv (.ix (.v 3) (.i 0))) .nil)) (f_L_right_k05_11 σ)
def f_L_right_k05_13 (σ : Nat → Nat) : LC.T :=
  .cons (.fr (.gv 8) (.itv (.ls false (.cons (.v 6) (.cons (.v 7) .nil)))) (f_L_right_k05_4 σ)) (f_L_right_k05_12 σ)
def f_L_right_k05_14 (σ : Nat → Nat) : LC.T :=
  .cons (.par [6, 7] (.cons (.cm "Book" "read" (.cons (.v 5) .nil)) (.cons (.cmk "Book" "read" ["text"] (.cons (.so (.cons (.v 4) .nil)) .nil) [0, 1]) .nil))) (f_L_right_k05_13 σ)
def f_L_right_k05_15 (σ : Nat → Nat) : LC.T :=
  .cons (.par [4, 5] (.cons (.mk "Book" (.cons (.ix (.v 3) (.i 0)) (.cons (.ix (.v 3) (.i 1)) (.cons (.ix (.v 3) (.i 2)) .nil)))) (.cons (.call (σ 313) (.cons (.v 3) .nil)) .nil))) (f_L_right_k05_14 σ)
def f_L_right_k05_16 (σ : Nat → Nat) : LC.T :=
  .cons (.set 3 (.call (σ 28) (.cons (.v 0) .nil))) (f_L_right_k05_15 σ)
def f_L_right_k05_17 (σ : Nat → Nat) : LC.T :=
  .cons (.ret (.b true)) .nil
def f_L_right_k05_18 (σ : Nat → Nat) : LC.T :=
  .cons (.fr (.gv 2) (.itr (.cons (.i 6) .nil)) (f_L_right_k05_16 σ)) (f_L_right_k05_17 σ)
def f_L_right_k05_19 (σ : Nat → Nat) : LC.T :=
  .cons (.set 1 .n) (f_L_right_k05_18 σ)
def f_L_right_k05 (σ : Nat → Nat) : LC.T := f_L_right_k05_19 σ
def d_L_right_k05 (σ : Nat → Nat) : LC.DefI := ⟨1, 14, f_L_right_k05 σ⟩
/-- law -/
def f_L_law_k05_0 (σ : Nat → Nat) : LC.T :=
  .cons (.ret (.b false)) .nil
def f_L_law_k05_1 (σ : Nat → Nat) : LC.T :=
  .cons (.ret (.bi .all (.cons (.lc false [4] (.call (σ 31) (.cons (.call (σ 1) (.cons (.call (σ 0) (.cons (.v 0) (.cons (.v 4) .nil))) .nil)) .nil)) (.gv 4) (.itr (.cons (.bi .max (.cons (.i 2) (.cons (.bi .min (.cons (.bi .len (.cons (.v 0) .nil)) (.cons (.i 6) .nil))) .nil))) .nil)) .nil) .nil))) .nil
def f_L_law_k05_2 (σ : Nat → Nat) : LC.T :=
  .cons (.ifs (.tc .NotEq (.bi .repr (.cons (.v 3) .nil)) (.s "[('wine', 1, ()), ('plus', -30), (('times', 1, 1, 'down', 5),), True, 110]")) (f_L_law_k05_0 σ) .nil) (f_L_law_k05_1 σ)
def f_L_law_k05_3 (σ : Nat → Nat) : LC.T :=
  .cons (.set 3 (.ls false (.cons (.ix (.at "kinds" (.v 2)) (.i 1)) (.cons (.ix (.ix (.at "groups" (.v 2)) (.i 1)) (.i 0)) (.cons (.at "whole" (.v 2)) (.cons (.cmp .Eq (.so (.cons (.v 2) .nil)) (.v 1)) (.cons (.me "ask" (.v 2) (.cons (.tup (.cons (.tup (.cons (.s "bread") (.cons (.i 50) .nil))) (.cons (.tup (.cons (.s "wine") (.cons (.i 80) .nil))) .nil))) .nil)) .nil))))))) (f_L_law_k05_2 σ)
def f_L_law_k05_4 (σ : Nat → Nat) : LC.T :=
  .cons (.set 2 (.cm "Book" "read" (.cons (.v 1) .nil))) (f_L_law_k05_3 σ)
def f_L_law_k05_5 (σ : Nat → Nat) : LC.T :=
  .cons (.set 1 (.bin false .Add (.v 1) (.s "group 1: plus -30, times 119/100 near even to 1\nwhole: times 1/1 down to 5"))) (f_L_law_k05_4 σ)
def f_L_law_k05_6 (σ : Nat → Nat) : LC.T :=
  .cons (.set 1 (.s "kind bread group 0: times 107/100 near up to 1\nkind wine group 1\ngroup 0\n")) (f_L_law_k05_5 σ)
def f_L_law_k05 (σ : Nat → Nat) : LC.T := f_L_law_k05_6 σ
def d_L_law_k05 (σ : Nat → Nat) : LC.DefI := ⟨1, 5, f_L_law_k05 σ⟩
/-- _law_shows -/
def f_L_shows_0 (σ : Nat → Nat) : LC.T :=
  .cons (.ret (.cmp .Eq (.bi .repr (.cons (.v 2) .nil)) (.bi .repr (.cons (.ls false (.cons (.ix (.v 1) (.i 0)) (.cons (.ix (.v 1) (.i 1)) (.cons (.ix (.v 1) (.i 2)) (.cons (.v 3) (.cons (.call (σ 313) (.cons (.v 1) .nil)) (.cons (.v 4) (.cons (.b true) .nil)))))))) .nil)))) .nil
def f_L_shows_1 (σ : Nat → Nat) : LC.T :=
  .cons (.set 4 (.bin false .Add (.bin false .Add (.bin false .Add (.bin false .Add (.s "Book of ") (.ty .str false (.cons (.bi .len (.cons (.ix (.v 1) (.i 0)) .nil)) .nil))) (.s " kinds, ")) (.ty .str false (.cons (.bi .len (.cons (.ix (.v 1) (.i 1)) .nil)) .nil))) (.s " groups"))) (f_L_shows_0 σ)
def f_L_shows_2 (σ : Nat → Nat) : LC.T :=
  .cons (.set 3 (.ty .tuple false (.cons (.lc false [5] (.ix (.v 5) (.i 0)) (.gv 5) (.itv (.ix (.v 1) (.i 0))) .nil) .nil))) (f_L_shows_1 σ)
def f_L_shows_3 (σ : Nat → Nat) : LC.T :=
  .cons (.set 2 (.ls false (.cons (.at "kinds" (.v 0)) (.cons (.at "groups" (.v 0)) (.cons (.at "whole" (.v 0)) (.cons (.at "names" (.v 0)) (.cons (.so (.cons (.v 0) .nil)) (.cons (.bi .repr (.cons (.v 0) .nil)) (.cons (.bo (.cons (.v 0) .nil)) .nil))))))))) (f_L_shows_2 σ)
def f_L_shows (σ : Nat → Nat) : LC.T := f_L_shows_3 σ
def d_L_shows (σ : Nat → Nat) : LC.DefI := ⟨2, 6, f_L_shows σ⟩
/-- check_number -/
def f_check_number_0 (σ : Nat → Nat) : LC.T :=
  .cons .bad .nil
def f_check_number_1 (σ : Nat → Nat) : LC.T :=
  .cons (.ifs (.tn (.tv (.call (σ 4) (.cons (.v 0) (.cons (.v 1) (.cons (.v 2) .nil)))))) (f_check_number_0 σ) .nil) .nil
def f_check_number (σ : Nat → Nat) : LC.T := f_check_number_1 σ
def d_check_number (σ : Nat → Nat) : LC.DefI := ⟨3, 3, f_check_number σ⟩
/-- Book.value -/
def f_Book_value_0 (σ : Nat → Nat) : LC.T :=
  .cons (.ret (.call (σ 34) (.cons (.ix (.v 3) (.i 2)) (.cons (.v 2) .nil)))) .nil
def f_Book_value_1 (σ : Nat → Nat) : LC.T :=
  .cons (.ex1 (.call (σ 32) (.cons (.v 2) (.cons (.i 0) (.cons .n .nil))))) (f_Book_value_0 σ)
def f_Book_value_2 (σ : Nat → Nat) : LC.T :=
  .cons (.set 3 (.me "kind_at" (.v 0) (.cons (.v 1) .nil))) (f_Book_value_1 σ)
def f_Book_value (σ : Nat → Nat) : LC.T := f_Book_value_2 σ
def d_Book_value (σ : Nat → Nat) : LC.DefI := ⟨3, 4, f_Book_value σ⟩
/-- _law_worths -/
def f_L_worths_0 (σ : Nat → Nat) : LC.T :=
  .cons (.ret (.bin false .Add (.v 1) (.lc false [2] (.call (σ 22) (.cons (.v 0) (.cons (.ix (.ls false (.cons (.i 50) (.cons (.i 50) (.cons (.i 999) (.cons (.i 999) (.cons (.i 20011) (.cons (.i 20011) .nil))))))) (.v 2)) .nil))) (.gv 2) (.itr (.cons (.i 6) .nil)) .nil))) .nil
def f_L_worths_1 (σ : Nat → Nat) : LC.T :=
  .cons (.set 1 (.ls false (.cons (.i 0) (.cons (.i 1) (.cons (.i 2) (.cons (.i 3) (.cons (.bin false .Sub (.bin false .Pow (.i 10) (.i 30)) (.call (σ 22) (.cons (.v 0) (.cons (.i 9973) .nil)))) (.cons (.bin false .Add (.bin false .Pow (.i 10) (.i 12)) (.call (σ 22) (.cons (.v 0) (.cons (.i 9973) .nil)))) .nil)))))))) (f_L_worths_0 σ)
def f_L_worths (σ : Nat → Nat) : LC.T := f_L_worths_1 σ
def d_L_worths (σ : Nat → Nat) : LC.DefI := ⟨1, 3, f_L_worths σ⟩
/-- _law_same -/
def f_L_same_0 (σ : Nat → Nat) : LC.T :=
  .cons (.ret (.b false)) .nil
def f_L_same_1 (σ : Nat → Nat) : LC.T :=
  .cons (.ret (.cmp .Eq (.bi .repr (.cons (.ls false (.cons (.mek "ask" (.v 0) .nil ["bill"] (.cons (.v 2) .nil) [0, 1]) (.cons (.mek "sums" (.v 0) .nil ["bill"] (.cons (.v 2) .nil) [0, 1]) .nil))) .nil)) (.v 3))) .nil
def f_L_same_2 (σ : Nat → Nat) : LC.T :=
  .cons (.ifs (.tc .NotEq (.bi .repr (.cons (.ls false (.cons (.me "ask" (.v 0) (.cons (.v 2) .nil)) (.cons (.me "sums" (.v 0) (.cons (.v 2) .nil)) .nil))) .nil)) (.v 3)) (f_L_same_0 σ) .nil) (f_L_same_1 σ)
def f_L_same_3 (σ : Nat → Nat) : LC.T :=
  .cons (.set 3 (.bi .repr (.cons (.ls false (.cons (.call (σ 49) (.cons (.v 1) (.cons (.v 2) .nil))) (.cons (.ty .tuple false (.cons (.call (σ 48) (.cons (.v 1) (.cons (.v 2) .nil))) .nil)) .nil))) .nil))) (f_L_same_2 σ)
def f_L_same (σ : Nat → Nat) : LC.T := f_L_same_3 σ
def d_L_same (σ : Nat → Nat) : LC.DefI := ⟨3, 4, f_L_same σ⟩
/-- common_divisor -/
def f_common_divisor_0 (σ : Nat → Nat) : LC.T :=
  .cons (.par [0, 1] (.cons (.v 1) (.cons (.bin false .Mod (.v 0) (.v 1)) .nil))) .nil
def f_common_divisor_1 (σ : Nat → Nat) : LC.T :=
  .cons (.ret (.v 0)) .nil
def f_common_divisor_2 (σ : Nat → Nat) : LC.T :=
  .cons (.whl (.tc .Gt (.v 1) (.i 0)) (f_common_divisor_0 σ)) (f_common_divisor_1 σ)
def f_common_divisor (σ : Nat → Nat) : LC.T := f_common_divisor_2 σ
def d_common_divisor (σ : Nat → Nat) : LC.DefI := ⟨2, 2, f_common_divisor σ⟩
/-- fraction -/
def f_fraction_0 (σ : Nat → Nat) : LC.T :=
  .cons (.ret (.tup (.cons (.bin false .FloorDiv (.v 0) (.v 2)) (.cons (.bin false .FloorDiv (.v 1) (.v 2)) .nil)))) .nil
def f_fraction_1 (σ : Nat → Nat) : LC.T :=
  .cons (.set 2 (.call (σ 55) (.cons (.bi .abs (.cons (.v 0) .nil)) (.cons (.v 1) .nil)))) (f_fraction_0 σ)
def f_fraction (σ : Nat → Nat) : LC.T := f_fraction_1 σ
def d_fraction (σ : Nat → Nat) : LC.DefI := ⟨2, 3, f_fraction σ⟩
/-- times -/
def f_times_0 (σ : Nat → Nat) : LC.T :=
  .cons (.ret (.call (σ 56) (.cons (.bin false .Mult (.ix (.v 0) (.i 0)) (.ix (.v 1) (.i 0))) (.cons (.bin false .Mult (.ix (.v 0) (.i 1)) (.ix (.v 1) (.i 1))) .nil)))) .nil
def f_times (σ : Nat → Nat) : LC.T := f_times_0 σ
def d_times (σ : Nat → Nat) : LC.DefI := ⟨2, 2, f_times σ⟩
/-- rate_of -/
def f_rate_of_0 (σ : Nat → Nat) : LC.T :=
  .cons (.set 1 (.call (σ 57) (.cons (.v 1) (.cons (.call (σ 56) (.cons (.ix (.v 2) (.i 1)) (.cons (.ix (.v 2) (.i 2)) .nil))) .nil)))) .nil
def f_rate_of_1 (σ : Nat → Nat) : LC.T :=
  .cons (.ifs (.tc .Eq (.ix (.v 2) (.i 0)) (.s "times")) (f_rate_of_0 σ) .nil) .nil
def f_rate_of_2 (σ : Nat → Nat) : LC.T :=
  .cons (.ret (.v 1)) .nil
def f_rate_of_3 (σ : Nat → Nat) : LC.T :=
  .cons (.fr (.gv 2) (.itv (.v 0)) (f_rate_of_1 σ)) (f_rate_of_2 σ)
def f_rate_of_4 (σ : Nat → Nat) : LC.T :=
  .cons (.set 1 (.tup (.cons (.i 1) (.cons (.i 1) .nil)))) (f_rate_of_3 σ)
def f_rate_of (σ : Nat → Nat) : LC.T := f_rate_of_4 σ
def d_rate_of (σ : Nat → Nat) : LC.DefI := ⟨1, 3, f_rate_of σ⟩
/-- Book.rate -/
def f_Book_rate_0 (σ : Nat → Nat) : LC.T :=
  .cons (.ret (.call (σ 58) (.cons (.tup (.star (.ix (.v 2) (.i 2)) (.star (.ix (.at "heaps" (.v 0)) (.ix (.v 2) (.i 1))) (.star (.at "last" (.v 0)) .nil)))) .nil))) .nil
def f_Book_rate_1 (σ : Nat → Nat) : LC.T :=
  .cons (.set 2 (.me "kind_at" (.v 0) (.cons (.v 1) .nil))) (f_Book_rate_0 σ)
def f_Book_rate (σ : Nat → Nat) : LC.T := f_Book_rate_1 σ
def d_Book_rate (σ : Nat → Nat) : LC.DefI := ⟨2, 3, f_Book_rate σ⟩
/-- _law_common -/
def f_L_common_0 (σ : Nat → Nat) : LC.T :=
  .cons .brk .nil
def f_L_common_1 (σ : Nat → Nat) : LC.T :=
  .cons (.par [2, 3] (.cons (.v 3) (.cons (.bin false .Mod (.ty .int false (.cons (.v 2) .nil)) (.v 3)) .nil))) .nil
def f_L_common_2 (σ : Nat → Nat) : LC.T :=
  .cons (.ifs (.tc .Eq (.v 3) (.i 0)) (f_L_common_0 σ) .nil) (f_L_common_1 σ)
def f_L_common_3 (σ : Nat → Nat) : LC.T :=
  .cons (.ret (.v 2)) .nil
def f_L_common_4 (σ : Nat → Nat) : LC.T :=
  .cons (.fr (.gv 4) (.itr (.cons (.i 400) .nil)) (f_L_common_2 σ)) (f_L_common_3 σ)
def f_L_common_5 (σ : Nat → Nat) : LC.T :=
  .cons (.par [2, 3] (.cons (.v 0) (.cons (.v 1) .nil))) (f_L_common_4 σ)
def f_L_common (σ : Nat → Nat) : LC.T := f_L_common_5 σ
def d_L_common (σ : Nat → Nat) : LC.DefI := ⟨2, 5, f_L_common σ⟩
/-- _law_rated -/
def f_L_rated_0 (σ : Nat → Nat) : LC.T :=
  .cons (.par [2, 3] (.cons (.bin false .Mult (.v 2) (.ix (.v 4) (.i 1))) (.cons (.bin false .Mult (.v 3) (.ix (.v 4) (.i 2))) .nil))) .nil
def f_L_rated_1 (σ : Nat → Nat) : LC.T :=
  .cons (.ifs (.tc .Eq (.ix (.v 4) (.i 0)) (.s "times")) (f_L_rated_0 σ) .nil) .nil
def f_L_rated_2 (σ : Nat → Nat) : LC.T :=
  .cons (.ret (.b false)) .nil
def f_L_rated_3 (σ : Nat → Nat) : LC.T :=
  .cons (.ret (.b false)) .nil
def f_L_rated_4 (σ : Nat → Nat) : LC.T :=
  .cons (.ret (.an (.cmp .Eq (.bin false .Mult (.ix (.v 0) (.i 0)) (.v 3)) (.bin false .Mult (.ix (.v 0) (.i 1)) (.v 2))) (.cmp .Eq (.call (σ 60) (.cons (.ix (.v 0) (.i 0)) (.cons (.ix (.v 0) (.i 1)) .nil))) (.i 1)))) .nil
def f_L_rated_5 (σ : Nat → Nat) : LC.T :=
  .cons (.ifs (.tv (.bi .any (.cons (.lc false [5] (.or (.nt (.bi .isinst (.cons (.v 5) (.cons (.bt "int") .nil)))) (.or (.bi .isinst (.cons (.v 5) (.cons (.bt "bool") .nil))) (.cmp .Lt (.v 5) (.i 1)))) (.gv 5) (.itv (.v 0)) .nil) .nil))) (f_L_rated_3 σ) .nil) (f_L_rated_4 σ)
def f_L_rated_6 (σ : Nat → Nat) : LC.T :=
  .cons (.ifs (.to (.tn (.tv (.bi .isinst (.cons (.v 0) (.cons (.bt "tuple") .nil))))) (.tc .NotEq (.bi .len (.cons (.v 0) .nil)) (.i 2))) (f_L_rated_2 σ) .nil) (f_L_rated_5 σ)
def f_L_rated_7 (σ : Nat → Nat) : LC.T :=
  .cons (.fr (.gv 4) (.itv (.v 1)) (f_L_rated_1 σ)) (f_L_rated_6 σ)
def f_L_rated_8 (σ : Nat → Nat) : LC.T :=
  .cons (.asg (.gt (.cons (.gv 2) (.cons (.gv 3) .nil))) (.tup (.cons (.i 1) (.cons (.i 1) .nil)))) (f_L_rated_7 σ)
def f_L_rated (σ : Nat → Nat) : LC.T := f_L_rated_8 σ
def d_L_rated (σ : Nat → Nat) : LC.DefI := ⟨2, 6, f_L_rated σ⟩
/-- period_of -/
def f_period_of_0 (σ : Nat → Nat) : LC.T :=
  .cons (.par [1, 2] (.cons (.bin false .Mult (.v 1) (.v 6)) (.cons (.bin false .FloorDiv (.bin false .Mult (.bin false .Mult (.v 2) (.v 6)) (.ix (.v 3) (.i 1))) (.ix (.v 3) (.i 2))) .nil))) .nil
def f_period_of_1 (σ : Nat → Nat) : LC.T :=
  .cons (.set 6 (.bin false .FloorDiv (.v 5) (.call (σ 55) (.cons (.v 2) (.cons (.v 5) .nil))))) (f_period_of_0 σ)
def f_period_of_2 (σ : Nat → Nat) : LC.T :=
  .cons (.set 5 (.bin false .FloorDiv (.v 4) (.call (σ 55) (.cons (.ix (.v 3) (.i 1)) (.cons (.v 4) .nil))))) (f_period_of_1 σ)
def f_period_of_3 (σ : Nat → Nat) : LC.T :=
  .cons (.set 4 (.bin false .Mult (.bin false .Mult (.ix (.v 3) (.i 2)) (.ix (.v 3) (.i 4))) (.ife (.tc .Eq (.ix (.v 3) (.i 3)) (.s "near even")) (.i 2) (.i 1)))) (f_period_of_2 σ)
def f_period_of_4 (σ : Nat → Nat) : LC.T :=
  .cons (.ifs (.tc .Eq (.ix (.v 3) (.i 0)) (.s "times")) (f_period_of_3 σ) .nil) .nil
def f_period_of_5 (σ : Nat → Nat) : LC.T :=
  .cons (.ret (.v 1)) .nil
def f_period_of_6 (σ : Nat → Nat) : LC.T :=
  .cons (.fr (.gv 3) (.itv (.v 0)) (f_period_of_4 σ)) (f_period_of_5 σ)
def f_period_of_7 (σ : Nat → Nat) : LC.T :=
  .cons (.asg (.gt (.cons (.gv 1) (.cons (.gv 2) .nil))) (.tup (.cons (.i 1) (.cons (.i 1) .nil)))) (f_period_of_6 σ)
def f_period_of (σ : Nat → Nat) : LC.T := f_period_of_7 σ
def d_period_of (σ : Nat → Nat) : LC.DefI := ⟨1, 7, f_period_of σ⟩
/-- Book.period -/
def f_Book_period_0 (σ : Nat → Nat) : LC.T :=
  .cons (.ret (.call (σ 62) (.cons (.tup (.star (.ix (.v 2) (.i 2)) (.star (.ix (.at "heaps" (.v 0)) (.ix (.v 2) (.i 1))) (.star (.at "last" (.v 0)) .nil)))) .nil))) .nil
def f_Book_period_1 (σ : Nat → Nat) : LC.T :=
  .cons (.set 2 (.me "kind_at" (.v 0) (.cons (.v 1) .nil))) (f_Book_period_0 σ)
def f_Book_period (σ : Nat → Nat) : LC.T := f_Book_period_1 σ
def d_Book_period (σ : Nat → Nat) : LC.DefI := ⟨2, 3, f_Book_period σ⟩
/-- Book.periods -/
def f_Book_periods_0 (σ : Nat → Nat) : LC.T :=
  .cons (.ret (.ty .tuple false (.cons (.lc false [1] (.call (σ 62) (.cons (.tup (.star (.v 1) (.star (.at "last" (.v 0)) .nil))) .nil)) (.gv 1) (.itv (.at "heaps" (.v 0))) .nil) .nil))) .nil
def f_Book_periods (σ : Nat → Nat) : LC.T := f_Book_periods_0 σ
def d_Book_periods (σ : Nat → Nat) : LC.DefI := ⟨1, 2, f_Book_periods σ⟩
/-- _law_goes -/
def f_L_goes_0 (σ : Nat → Nat) : LC.T :=
  .cons (.ret (.b false)) .nil
def f_L_goes_1 (σ : Nat → Nat) : LC.T :=
  .cons (.set 2 (.bin false .FloorDiv (.bin false .Mult (.v 2) (.ix (.v 3) (.i 1))) (.ix (.v 3) (.i 2)))) .nil
def f_L_goes_2 (σ : Nat → Nat) : LC.T :=
  .cons (.ifs (.tc .NotEq (.bin false .Mod (.ty .int false (.cons (.bin false .Mult (.v 2) (.ix (.v 3) (.i 1))) .nil)) (.v 4)) (.i 0)) (f_L_goes_0 σ) .nil) (f_L_goes_1 σ)
def f_L_goes_3 (σ : Nat → Nat) : LC.T :=
  .cons (.set 4 (.bin false .Mult (.bin false .Mult (.ix (.v 3) (.i 2)) (.ix (.v 3) (.i 4))) (.ife (.tc .Eq (.ix (.v 3) (.i 3)) (.s "near even")) (.i 2) (.i 1)))) (f_L_goes_2 σ)
def f_L_goes_4 (σ : Nat → Nat) : LC.T :=
  .cons (.ifs (.tc .Eq (.ix (.v 3) (.i 0)) (.s "times")) (f_L_goes_3 σ) .nil) .nil
def f_L_goes_5 (σ : Nat → Nat) : LC.T :=
  .cons (.ret (.b true)) .nil
def f_L_goes_6 (σ : Nat → Nat) : LC.T :=
  .cons (.fr (.gv 3) (.itv (.v 0)) (f_L_goes_4 σ)) (f_L_goes_5 σ)
def f_L_goes_7 (σ : Nat → Nat) : LC.T :=
  .cons (.set 2 (.v 1)) (f_L_goes_6 σ)
def f_L_goes (σ : Nat → Nat) : LC.T := f_L_goes_7 σ
def d_L_goes (σ : Nat → Nat) : LC.DefI := ⟨2, 5, f_L_goes σ⟩
/-- _law_primes -/
def f_L_primes_0 (σ : Nat → Nat) : LC.T :=
  .cons (.ex1 (.bm .append (.v 0) (.cons (.v 1) .nil))) .nil
def f_L_primes_1 (σ : Nat → Nat) : LC.T :=
  .cons (.ifs (.tv (.bi .all (.cons (.lc false [2] (.cmp .NotEq (.bin false .Mod (.v 1) (.v 2)) (.i 0)) (.gv 2) (.itv (.v 0)) .nil) .nil))) (f_L_primes_0 σ) .nil) .nil
def f_L_primes_2 (σ : Nat → Nat) : LC.T :=
  .cons (.ret (.v 0)) .nil
def f_L_primes_3 (σ : Nat → Nat) : LC.T :=
  .cons (.fr (.gv 1) (.itr (.cons (.i 2) (.cons (.i 200) .nil))) (f_L_primes_1 σ)) (f_L_primes_2 σ)
def f_L_primes_4 (σ : Nat → Nat) : LC.T :=
  .cons (.set 0 (.ls true .nil)) (f_L_primes_3 σ)
def f_L_primes (σ : Nat → Nat) : LC.T := f_L_primes_4 σ
def d_L_primes (σ : Nat → Nat) : LC.DefI := ⟨0, 3, f_L_primes σ⟩
/-- _law_is_period -/
def f_L_is_period_0 (σ : Nat → Nat) : LC.T :=
  .cons (.ret (.b false)) .nil
def f_L_is_period_1 (σ : Nat → Nat) : LC.T :=
  .cons (.ret (.b false)) .nil
def f_L_is_period_2 (σ : Nat → Nat) : LC.T :=
  .cons .brk .nil
def f_L_is_period_3 (σ : Nat → Nat) : LC.T :=
  .cons (.set 3 (.bin false .FloorDiv (.v 3) (.v 4))) .nil
def f_L_is_period_4 (σ : Nat → Nat) : LC.T :=
  .cons (.ifs (.tc .NotEq (.bin false .Mod (.ty .int false (.cons (.v 3) .nil)) (.v 4)) (.i 0)) (f_L_is_period_2 σ) .nil) (f_L_is_period_3 σ)
def f_L_is_period_5 (σ : Nat → Nat) : LC.T :=
  .cons (.fr (.gv 5) (.itr (.cons (.i 200) .nil)) (f_L_is_period_4 σ)) .nil
def f_L_is_period_6 (σ : Nat → Nat) : LC.T :=
  .cons (.ifs (.ta (.tc .Eq (.bin false .Mod (.ty .int false (.cons (.v 3) .nil)) (.v 4)) (.i 0)) (.tv (.call (σ 65) (.cons (.v 1) (.cons (.bin false .FloorDiv (.v 0) (.v 4)) .nil))))) (f_L_is_period_1 σ) .nil) (f_L_is_period_5 σ)
def f_L_is_period_7 (σ : Nat → Nat) : LC.T :=
  .cons (.ret (.cmp .Eq (.v 3) (.i 1))) .nil
def f_L_is_period_8 (σ : Nat → Nat) : LC.T :=
  .cons (.fr (.gv 4) (.itv (.v 2)) (f_L_is_period_6 σ)) (f_L_is_period_7 σ)
def f_L_is_period_9 (σ : Nat → Nat) : LC.T :=
  .cons (.set 3 (.v 0)) (f_L_is_period_8 σ)
def f_L_is_period_10 (σ : Nat → Nat) : LC.T :=
  .cons (.ifs (.to (.tn (.tv (.bi .isinst (.cons (.v 0) (.cons (.bt "int") .nil))))) (.to (.tv (.bi .isinst (.cons (.v 0) (.cons (.bt "bool") .nil)))) (.to (.tc .Lt (.v 0) (.i 1)) (.tn (.tv (.call (σ 65) (.cons (.v 1) (.cons (.v 0) .nil)))))))) (f_L_is_period_0 σ) .nil) (f_L_is_period_9 σ)
def f_L_is_period (σ : Nat → Nat) : LC.T := f_L_is_period_10 σ
def d_L_is_period (σ : Nat → Nat) : LC.DefI := ⟨3, 6, f_L_is_period σ⟩
end Tx

/-! # BkL: books, plain -/
namespace Bk
open PySem LC
inductive Way where
  | down | up | ndown | nup | neven
  deriving DecidableEq, Inhabited
def Way.s : Way → Str
  | .down => "down" | .up => "up" | .ndown => "near down" | .nup => "near up" | .neven => "near even"
inductive Step where
  | plus (c : Int)
  | times (a b : Int) (w : Way) (u : Int)
  deriving DecidableEq, Inhabited
def Step.ok : Step → Prop
  | .plus c => -9999 ≤ c ∧ c ≤ 9999
  | .times a b _ u => 1 ≤ a ∧ a ≤ 200 ∧ 1 ≤ b ∧ b ≤ 200 ∧ 1 ≤ u ∧ u ≤ 60
def Step.d : Step → D
  | .plus c => .tup [.str "plus", .int c]
  | .times a b w u => .tup [.str "times", .int a, .int b, .str w.s, .int u]
def dsteps (l : List Step) : List D := l.map Step.d
abbrev rowD (l : List Step) : D := .tup (dsteps l)
/-- to what integer a quotient is brought -/
def rnd (t b : Int) (w : Way) : Int :=
  if w = .down ∨ t % b = 0 then t / b
  else if w = .up then t / b + 1
  else if 2 * (t % b) ≠ b then (if 2 * (t % b) < b then t / b else t / b + 1)
  else if w = .neven then t / b + (t / b) % 2
  else if w = .ndown then t / b else t / b + 1
def led1 (v : Int) : Step → Int
  | .plus c => v + c
  | .times a b w u => rnd (v * a) (b * u) w * u
def led (l : List Step) (v : Int) : Int := l.foldl led1 v
/-- a name -/
def letter (c : Nat) : Prop := 97 ≤ c ∧ c ≤ 122
def digit (c : Nat) : Prop := 48 ≤ c ∧ c ≤ 57
structure NameOk (s : Str) : Prop where
  ne : 1 ≤ s.length
  le : s.length ≤ 8
  fst : ∀ c, s.cps[0]? = some c → letter c
  all : ∀ c ∈ s.cps.toList, letter c ∨ digit c
structure Knd where
  name : Str
  grp : Nat
  steps : List Step
def Knd.d (k : Knd) : D := .tup [.str k.name, .int (k.grp : Nat), rowD k.steps]
structure Book where
  kinds : List Knd
  groups : List (List Step)
  whole : List Step
def rowOk (l : List Step) : Prop := l.length ≤ 2 ∧ ∀ s ∈ l, s.ok
structure Book.Ok (B : Book) : Prop where
  k0 : 1 ≤ B.kinds.length
  k4 : B.kinds.length ≤ 4
  nm : ∀ k ∈ B.kinds, NameOk k.name
  nd : (B.kinds.map (·.name)).Nodup
  kr : ∀ k ∈ B.kinds, rowOk k.steps
  kg : ∀ k ∈ B.kinds, k.grp < B.groups.length
  g0 : 1 ≤ B.groups.length
  g3 : B.groups.length ≤ 3
  gr : ∀ g ∈ B.groups, rowOk g
  wr : rowOk B.whole
/-! ### texts -/
def istr (i : Int) : Str := ((toString i : String) : Str)
def Step.t : Step → Str
  | .plus c => "plus " ++ istr c
  | .times a b w u => "times " ++ istr a ++ "/" ++ istr b ++ " " ++ w.s ++ " to " ++ istr u
def stepsT (l : List Step) : Str := if l = [] then "" else ": " ++ Str.join ", " (l.map Step.t)
def kindT (k : Knd) : Str := ("kind " : Str) ++ k.name ++ " group " ++ istr (k.grp : Nat) ++ stepsT k.steps
def grpT (i : Nat) (l : List Step) : Str := ("group " : Str) ++ istr (i : Nat) ++ stepsT l
def Book.text (B : Book) : Str := Str.join "\n" (B.kinds.map kindT ++ ((List.range B.groups.length).zip B.groups).map (fun p => grpT p.1 p.2) ++ [("whole" : Str) ++ stepsT B.whole])
/-! ### bills -/
structure Line where
  name : Str
  amt : Int
def Line.d (l : Line) : D := .tup [.str l.name, .int l.amt]
abbrev billD (l : List Line) : D := .tup (l.map Line.d)
def Book.kind (B : Book) (x : Str) : Option Knd := B.kinds.find? fun k => k.name == x
structure BillOk (B : Book) (l : List Line) : Prop where
  nm : ∀ x ∈ l, ∃ k ∈ B.kinds, k.name = x.name
  am : ∀ x ∈ l, 0 ≤ x.amt
/-- what a line adds to the sum of group g -/
def Book.lineTo (B : Book) (g : Nat) (l : Line) : Int := match B.kind l.name with
  | some k => if k.grp = g then Bk.led k.steps l.amt else 0
  | none => 0
def Book.sum (B : Book) (l : List Line) (g : Nat) : Int := (l.map (B.lineTo g)).sum
def Book.sums (B : Book) (l : List Line) : List Int := (List.range B.groups.length).map (B.sum l)
def Book.askS (B : Book) (s : List Int) : Int := Bk.led B.whole ((B.groups.zip s).map fun p => Bk.led p.1 p.2).sum
def Book.ask (B : Book) (l : List Line) : Int := B.askS (B.sums l)
def bookOb (B : Book) : Ob := .ins "Book" [("sorts", .tup (B.kinds.map Knd.d)), ("heaps", .tup (B.groups.map rowD)), ("last", rowD B.whole), ("words", .str B.text)]
/-! ### bounds -/
theorem rnd_bd {t b : Int} {w : Way} (hb : 1 ≤ b) {T : Int} (h : -T ≤ t ∧ t ≤ T) : -(T + 1) ≤ rnd t b w ∧ rnd t b w ≤ T + 1 := by
  have h0 : t / b ≤ T := by
    rcases Int.lt_or_le t 0 with g | g
    · have : t / b < 0 := Int.ediv_neg_of_neg_of_pos g (by omega)
      omega
    · have := Int.ediv_le_self b g; omega
  have h1 : -T ≤ t / b := by
    rcases Int.lt_or_le t 0 with g | g
    · have e : t ≤ t / b := by
        rw [Int.le_ediv_iff_mul_le (by omega)]
        have := Int.mul_nonpos_of_nonpos_of_nonneg (show t ≤ 0 by omega) (show 0 ≤ b - 1 by omega)
        rw [Int.mul_sub, Int.mul_one] at this
        omega
      omega
    · have := Int.ediv_nonneg g (show 0 ≤ b by omega); omega
  have q2 := Int.emod_nonneg (t / b) (show (2 : Int) ≠ 0 by omega)
  have q3 := Int.emod_lt_of_pos (t / b) (show (0 : Int) < 2 by omega)
  unfold rnd
  repeat' split
  all_goals omega
theorem led1_bd {s : Step} (hs : s.ok) {v V : Int} (h : -V ≤ v ∧ v ≤ V) : -(12000 * V + 12000) ≤ led1 v s ∧ led1 v s ≤ 12000 * V + 12000 := by
  cases s with
  | plus c =>
    obtain ⟨h1, h2⟩ := hs
    show -(12000 * V + 12000) ≤ v + c ∧ v + c ≤ _
    omega
  | times a b w u =>
    obtain ⟨h1, h2, h3, h4, h5, h6⟩ := hs
    have hV : 0 ≤ V := by omega
    have hb : 1 ≤ b * u := Int.mul_pos (show 0 < b by omega) (show 0 < u by omega)
    have t1 : v * a ≤ 200 * V := by
      have a1 : v * a ≤ V * a := Int.mul_le_mul_of_nonneg_right h.2 (by omega)
      have a2 : V * a ≤ V * 200 := Int.mul_le_mul_of_nonneg_left h2 hV
      omega
    have t2 : -(200 * V) ≤ v * a := by
      have a1 : -V * a ≤ v * a := Int.mul_le_mul_of_nonneg_right h.1 (by omega)
      have a2 : V * a ≤ V * 200 := Int.mul_le_mul_of_nonneg_left h2 hV
      rw [Int.neg_mul] at a1
      omega
    have r := rnd_bd (w := w) hb (T := 200 * V) ⟨t2, t1⟩
    show -(12000 * V + 12000) ≤ rnd (v * a) (b * u) w * u ∧ rnd (v * a) (b * u) w * u ≤ _
    generalize rnd (v * a) (b * u) w = x at r
    have x1 : x * u ≤ (200 * V + 1) * u := Int.mul_le_mul_of_nonneg_right r.2 (by omega)
    have x2 : -(200 * V + 1) * u ≤ x * u := Int.mul_le_mul_of_nonneg_right r.1 (by omega)
    have x3 : (200 * V + 1) * u ≤ (200 * V + 1) * 60 := Int.mul_le_mul_of_nonneg_left h6 (by omega)
    rw [Int.neg_mul] at x2
    omega
theorem led_bd : ∀ {l : List Step}, rowOk l → ∀ {v V : Int}, -V ≤ v ∧ v ≤ V → -(200000000 * V + 200000000) ≤ led l v ∧ led l v ≤ 200000000 * V + 200000000
  | [], _, v, V, h => by show -(200000000 * V + 200000000) ≤ v ∧ v ≤ _; omega
  | [s], hl, v, V, h => by
    have := led1_bd (hl.2 s (by simp)) h
    show -(200000000 * V + 200000000) ≤ led1 v s ∧ led1 v s ≤ _
    omega
  | [s, r], hl, v, V, h => by
    have a := led1_bd (hl.2 s (by simp)) h
    have b := led1_bd (hl.2 r (by simp)) a
    show -(200000000 * V + 200000000) ≤ led1 (led1 v s) r ∧ led1 (led1 v s) r ≤ _
    omega
  | s :: r :: q :: l, hl, v, V, h => by have := hl.1; simp at this
theorem sum_bd : ∀ {l : List Int} {V : Int} {N : Nat}, l.length ≤ N → 0 ≤ V → (∀ x ∈ l, -V ≤ x ∧ x ≤ V) → -(N * V) ≤ l.sum ∧ l.sum ≤ N * V
  | [], V, N, _, hV, _ => by
    have : (0 : Int) ≤ N * V := Int.mul_nonneg (by omega) hV
    simp; omega
  | x :: l, V, 0, hl, _, _ => by simp at hl
  | x :: l, V, N + 1, hl, hV, h => by
    have a := sum_bd (l := l) (N := N) (by simpa using hl) hV fun y hy => h y (by simp [hy])
    have b := h x (by simp)
    have e : ((N + 1 : Nat) : Int) * V = N * V + V := by push_cast; rw [Int.add_mul, Int.one_mul]
    rw [e, List.sum_cons]
    generalize (N : Int) * V = z at *
    omega
end Bk

/-! # DrV: draws of the laws -/
namespace Tx
open PySem LC
variable {G : Prog} {σ : Nat → Nat} {n : Nat}
section
variable [HasD G (σ 0) (d_L_cell σ)]
theorem L_cell_ok (ns : List Int) (k : Int) (hk : 0 ≤ k) (hk2 : k < 1000) (m : Sto) : Po (callD G (n + 1) (σ 0) [.scr ns, .int k] m) fun v m' => ∃ z, v = .int z ∧ m' = m := by
  refine po_callD rfl ?_; simp only [d_L_cell, f_L_cell]; simp only [List.map_cons, List.map_nil, List.length_cons, List.length_nil, List.cons_append, List.nil_append, List.replicate]
  refine po_seq ?_; simp [den]
  split
  · rename_i hlt
    refine po_seq ?_; simp [den]
    have : (atI ns k).map D.int = some (.int (ns.getD k.toNat 0)) := by
      have := atI_d (xs := ns) hk hlt
      unfold atI at this ⊢
      rw [dints_len] at this
      rw [ixN_of hk hlt] at this ⊢
      have this : (ns.map D.int)[k.toNat]? = _ := this
      rw [List.getElem?_map] at this
      exact this
    rw [this]
    simp
  · refine po_seq ?_; simp [den, mulOk_l (i := 7907) (by omega) (by omega), mulOk_r (i := 7907 * k) (j := k) (by omega) (by omega)]
    refine po_seq ?_; simp [den]
    have e4 : cut (List.map D.int ns) none (some 4) = dints (ns.take 4) := by
      have := cut_take (xs := ns.map D.int) (s := 4)
      rw [show ((4 : Nat) : Int) = 4 by rfl] at this
      rw [this]; simp [dints, List.map_take]
    rw [e4]
    refine forL_po (fun i env m' => m' = m ∧ ∃ z o, env = [some (.scr ns), some (.int k), some (.int z), o]) rfl ⟨rfl, _, _, rfl⟩ ?_ ?_
    · rintro i env m' d hi hd ⟨rfl, z, o, rfl⟩
      obtain ⟨x, hx, rfl⟩ := List.mem_map.mp (List.mem_of_getElem? hd)
      simp [den]
      refine po_seq ?_; simp [den, mulOk_r (i := z) (j := 69997) (by omega) (by omega)]
    · rintro env m' ⟨rfl, z, o, rfl⟩
      simp
      refine po_seq ?_; simp [den]
end
theorem drawn_put {p : Nat} {m : Sto} {o : Ob} (hp : m[p]? = some o) {s b t : Int} (h1 : 0 ≤ s) (h2 : s < 2147483629) (h3 : 0 ≤ b) : Drawn p m (m.set p (.lst [D.int s, D.int b, D.int t])) :=
  ⟨⟨s, b, t, at_set hp, h1, h2, h3⟩, by simp, fun j _ hj => by rw [List.getElem?_set_ne (Ne.symm hj)]⟩
section
variable [HasD G (σ 22) (d_L_take σ)]
theorem L_take_ok (p : Nat) (k : Int) (hk : 0 < k) (hk2 : k < 2 ^ 60) (m : Sto) (hp : Purse p m) : Po (callD G (n + 1) (σ 22) [.ref p, .int k] m) fun v m' => ∃ r, v = .int r ∧ 0 ≤ r ∧ r < k ∧ Drawn p m m' := by
  refine po_callD rfl ?_; simp only [d_L_take, f_L_take]; simp only [List.map_cons, List.map_nil, List.length_cons, List.length_nil, List.cons_append, List.nil_append, List.replicate]
  obtain ⟨s, b, t, hp, h1, h2, h3⟩ := hp
  refine po_seq ?_; simp [den, ix_ref hp, atI, ixN, set_ref hp]
  have hp1 := at_set (o' := .lst [D.int s, D.int b, D.int (t + 1)]) hp
  refine po_seq ?_; simp [den, ix_ref hp1, atI, ixN]
  split
  · rename_i hb
    refine po_seq ?_; simp [den, ix_ref hp1, atI, ixN, set_ref hp1, divOk_of hk (by omega)]
    refine po_seq ?_; simp [den]
    exact ⟨Int.emod_nonneg _ (by omega), Int.emod_lt_of_pos _ hk, drawn_put hp h1 h2 (Int.ediv_nonneg h3 (by omega))⟩
  · rename_i hb
    refine po_seq ?_; simp [den, ix_ref hp1, atI, ixN]
    refine po_seq ?_; simp [den]
    refine po_seq ?_; simp [den, ix_ref hp1, atI, ixN, set_ref hp1]
    refine ⟨mulOk_r (by omega) (by omega), mulOk_l (by omega) (by omega), ?_⟩
    have hp2 := at_set (o' := .lst [D.int ((s * (s % 30323 + 40253) + 60013 * (t + 1) + 29) % 2147483629), D.int b, D.int (t + 1)]) hp
    refine po_seq ?_; simp [den, ix_ref hp2, atI, ixN, divOk_of hk (by omega)]
    refine ⟨divOk_of (by omega) (by omega), hk, Int.emod_nonneg _ (by omega), Int.emod_lt_of_pos _ hk, drawn_put hp (Int.emod_nonneg _ (by omega)) (Int.emod_lt_of_pos _ (by omega)) h3⟩
end
section
variable [HasD G (σ 1) (d_L_purse σ)]
theorem L_purse_ok (x : Int) (m : Sto) : Po (callD G (n + 1) (σ 1) [.int x] m) fun v m' => v = .ref m.length ∧ Purse m.length m' ∧ ∃ o, m' = m ++ [o] := by
  refine po_callD rfl ?_; simp only [d_L_purse, f_L_purse]; simp only [List.map_cons, List.map_nil, List.length_cons, List.length_nil, List.cons_append, List.nil_append, List.replicate]
  refine po_seq ?_; simp [den]
  refine ⟨mulOk_r (by omega) (by omega), ?_⟩
  refine po_seq ?_; simp [den]
  have hq : Purse m.length (m ++ [Ob.lst [D.int ((x % 2147483629 * 1583458089 + 362436069) % 2147483629), D.int 0, D.int 0]]) :=
    ⟨_, _, _, List.getElem?_concat_length, Int.emod_nonneg _ (by omega), Int.emod_lt_of_pos _ (by omega), by omega⟩
  have hq2 : ∀ b, 0 ≤ b → Purse m.length (m ++ [Ob.lst [D.int ((x % 2147483629 * 1583458089 + 362436069) % 2147483629), D.int b, D.int 0]]) :=
    fun b hb => ⟨_, b, _, List.getElem?_concat_length, Int.emod_nonneg _ (by omega), Int.emod_lt_of_pos _ (by omega), hb⟩
  split <;> split
  · exact hq2 _ (by omega)
  · exact hq
  · exact hq2 _ (by omega)
  · exact hq

end
-- from K19l
theorem small62I {i : Int} (h0 : -(2 ^ 62) ≤ i) (h1 : i < 2 ^ 62) : small62 i = true := by
  unfold small62
  simp
  omega
theorem rangeL_len {a b : Int} : (rangeL a b).length = (b - a).toNat := by simp [rangeL]
theorem drawsL {p : Nat} {m : Sto} {turn : D → M (Option D)} {ds : List D} {lo hi : Int} (hp : Purse p m) (hz : ds.length ≤ LIM)
    (h : ∀ d m1, Purse p m1 → Po (turn d m1) fun o m' => ∃ x, o = some (.int x) ∧ lo ≤ x ∧ x ≤ hi ∧ Drawn p m1 m') :
    Po (lcL turn ds [] m) fun v m' => ∃ xs : List Int, v = dints xs ∧ xs.length = ds.length ∧ (∀ x ∈ xs, lo ≤ x ∧ x ≤ hi) ∧ Drawn p m m' := by
  refine lcL_po (fun i acc m' => ∃ xs : List Int, acc = dints xs ∧ xs.length = i ∧ (∀ x ∈ xs, lo ≤ x ∧ x ≤ hi) ∧ Drawn p m m') rfl hz ⟨[], rfl, rfl, by simp, Drawn.refl hp⟩ ?_ ?_
  · rintro i acc m' d hi2 hd hl ⟨xs, rfl, hx, hb, hw⟩
    refine (h d m' hw.pu).mono ?_
    rintro _ m2 ⟨x, rfl, b1, b2, hw2⟩
    refine ⟨xs ++ [x], by simp [dints], by simp [hx], ?_, hw.trans hw2⟩
    intro y hy
    rcases List.mem_append.mp hy with hy | hy
    · exact hb y hy
    · rw [List.mem_singleton.mp hy]; exact ⟨b1, b2⟩
  · rintro acc m' ⟨xs, rfl, hx, hb, hw⟩
    exact ⟨xs, rfl, hx, hb, hw⟩
/-- the store behind: nothing lost, nothing changed -/
structure Kept (m m' : Sto) : Prop where
  len : m.length ≤ m'.length
  at_ : ∀ j, j < m.length → m'[j]? = m[j]?
theorem Kept.refl {m : Sto} : Kept m m := ⟨Nat.le_refl _, fun _ _ => rfl⟩
theorem Kept.trans {m m' m2 : Sto} (a : Kept m m') (b : Kept m' m2) : Kept m m2 := ⟨Nat.le_trans a.len b.len, fun j h => (b.at_ j (Nat.lt_of_lt_of_le h a.len)).trans (a.at_ j h)⟩
theorem Kept.new {m : Sto} {o : List Ob} : Kept m (m ++ o) := ⟨by simp, fun j h => List.getElem?_append_left h⟩
theorem Kept.purse {p : Nat} {m m' : Sto} (k : Kept m m') (h : Purse p m) : Purse p m' := by
  have hl := h.lt
  obtain ⟨s, b, t, e, q⟩ := h
  exact ⟨s, b, t, (k.at_ p hl).trans e, q⟩
theorem allTrue {P : Phi} {m : Sto} {xs : List D} (h : ∀ x ∈ xs, x = .bl true) : callB P .all [.lst xs] m = .ok (.bl true) m := by
  obtain ⟨bs, e, q⟩ := asBools_t xs h
  show (match asBools xs with | some ns => Out.ok (D.bl (ns.all id)) m | _ => .bad) = _
  rw [e]; simp only [q]
/-- how far the laws go: as many numbers as there are, two at least, at most N -/
def farI (l N : Int) : Int := if (if N < l then N else l) > 2 then (if N < l then N else l) else 2
theorem farI_ge (l N : Int) : 2 ≤ farI l N := by unfold farI; split <;> omega
theorem farI_le (l N : Int) (h : 2 ≤ N) : farI l N ≤ N := by unfold farI; split <;> (try split) <;> omega
/-- a list of draws -/
theorem lcDraw {α : Type} {e : α → D} {P : α → Prop} {p : Nat} {m : Sto} {turn : D → M (Option D)} {ds : List D} (hp : Purse p m) (hz : ds.length ≤ LIM)
    (h : ∀ d ∈ ds, ∀ m1, Drawn p m m1 → Po (turn d m1) fun o m' => ∃ x, o = some (e x) ∧ P x ∧ Drawn p m1 m') :
    Po (lcL turn ds [] m) fun v m' => ∃ xs : List α, v = xs.map e ∧ xs.length = ds.length ∧ (∀ x ∈ xs, P x) ∧ Drawn p m m' := by
  refine lcL_po (fun i acc m' => ∃ xs : List α, acc = xs.map e ∧ xs.length = i ∧ (∀ x ∈ xs, P x) ∧ Drawn p m m') rfl hz ⟨[], rfl, rfl, by simp, Drawn.refl hp⟩ ?_ ?_
  · rintro i acc m' d hi2 hd hl ⟨xs, rfl, hx, hb, hw⟩
    refine (h d (List.mem_of_getElem? hd) m' hw).mono ?_
    rintro _ m2 ⟨x, rfl, b1, hw2⟩
    refine ⟨xs ++ [x], by simp, by simp [hx], ?_, hw.trans hw2⟩
    intro y hy
    rcases List.mem_append.mp hy with hy | hy
    · exact hb y hy
    · rw [List.mem_singleton.mp hy]; exact b1
  · rintro acc m' ⟨xs, rfl, hx, hb, hw⟩
    exact ⟨xs, rfl, hx, hb, hw⟩
/-- a for over a list at a place that stays as it is -/
theorem forV_po {body : D → LC.Env → M LC.Flow} {F : LC.Flow → Sto → Prop} (R : Nat → LC.Env → Sto → Prop) {q w : Nat} {xs : List D} {r : LC.Env} {m : Sto} (hw : xs.length < w) (hat : ∀ i r m, R i r m → m[q]? = some (.lst xs)) (h0 : R 0 r m)
    (hs : ∀ i r m d, i < xs.length → xs[i]? = some d → R i r m → Po (body d r m) fun fl m' => match fl with | .nx r' => R (i + 1) r' m' | .ct r' => R (i + 1) r' m' | .bk r' => F (.nx r') m' | .rt x => F (.rt x) m')
    (hd : ∀ r m, R xs.length r m → F (.nx r) m) : Po (forV body q w 0 r m) F := by
  have go : ∀ (w k : Nat) (r : LC.Env) (m : Sto), k ≤ xs.length → xs.length < w + k → R k r m → Po (forV body q w k r m) F := by
    intro w
    induction w with
    | zero => intro k r m h1 h2 _; omega
    | succ w ih =>
      intro k r m h1 h2 hr
      unfold forV
      simp only [hat k r m hr]
      cases e : xs[k]? with
      | none =>
        have : xs.length ≤ k := List.getElem?_eq_none_iff.mp e
        have : k = xs.length := by omega
        subst this
        simp only
        exact ⟨hd r m hr⟩
      | some d =>
        have hk : k < xs.length := (List.getElem?_eq_some_iff.mp e).1
        have h := (hs k r m d hk e hr).h
        simp only
        cases z : body d r m with
        | ok fl m' =>
          rw [z] at h
          cases fl with
          | nx r' => exact ih (k + 1) r' m' hk (by omega) h
          | ct r' => exact ih (k + 1) r' m' hk (by omega) h
          | bk r' => exact ⟨h⟩
          | rt x => exact ⟨h⟩
        | exc C fs m' => rw [z] at h; exact (show False from h).elim
        | bad => rw [z] at h; exact (show False from h).elim
  exact go w 0 r m (Nat.zero_le _) (by omega) h0
theorem Drawn.keep {p q : Nat} {m m' : Sto} {C : Str} {fs : List (Str × D)} (hd : Drawn p m m') (hp : Purse p m) (h : m[q]? = some (.ins C fs)) : m'[q]? = some (.ins C fs) := by
  have hl : q < m.length := (List.getElem?_eq_some_iff.mp h).1
  rw [hd.off q hl ?_]
  · exact h
  · intro e
    subst e
    obtain ⟨s, b, k, e, _⟩ := hp
    rw [h] at e; cases e
theorem Kept.at {m m' : Sto} (k : Kept m m') {q : Nat} {o : Ob} (h : m[q]? = some o) : m'[q]? = some o := by
  rw [k.at_ q (List.getElem?_eq_some_iff.mp h).1]; exact h
theorem Kept.drawn {p : Nat} {m m' : Sto} (k : Kept m m') (h : Purse p m) : Drawn p m m' := ⟨k.purse h, k.len, fun j hj _ => k.at_ j hj⟩
theorem eqB {a b : Bool} {m : Sto} : opCmp .Eq (.bl a) (.bl b) m = .ok (.bl (a == b)) m := by
  rw [eq_of (a := .bool a) (b := .bool b) rfl rfl (by decide +revert) (by decide +revert)]
  simp [PyData.eqv]
theorem neB {a b : Bool} {m : Sto} : opCmp .NotEq (.bl a) (.bl b) m = .ok (.bl (!(a == b))) m := by
  rw [ne_of (a := .bool a) (b := .bool b) rfl rfl (by decide +revert) (by decide +revert)]
  simp [PyData.eqv]
@[simp] theorem at8 {a b c d e f g h : D} {k : Nat} : True := trivial
end Tx

namespace Tx
open PySem LC Bk
variable {G : Prog} {σ : Nat → Nat} {n : Nat}
section
variable [HasD G (σ 3) (d_is_integer σ)]
theorem int_ok (i : Int) (m : Sto) : callD G (n + 1) (σ 3) [.int i] m = .ok (.bl true) m := by
  refine po_eq ?_; refine po_callD rfl ?_; simp only [d_is_integer, f_is_integer]; simp only [List.map_cons, List.map_nil, List.length_cons, List.length_nil, List.cons_append, List.nil_append, List.replicate]
  refine po_seq ?_; simp [den]
end
section
variable [HasD G (σ 4) (d_is_between σ)] [HasD G (σ 3) (d_is_integer σ)]
theorem between_ok (i l h : Int) (m : Sto) : callD G (n + 2) (σ 4) [.int i, .int l, .int h] m = .ok (.bl (decide (l ≤ i ∧ i ≤ h))) m := by
  refine po_eq ?_; refine po_callD rfl ?_; simp only [d_is_between, f_is_between]; simp only [List.map_cons, List.map_nil, List.length_cons, List.length_nil, List.cons_append, List.nil_append, List.replicate]
  refine po_seq ?_; simp [den, int_ok]
  by_cases h1 : l ≤ i
  · simp [h1]
  · simp [h1]
end
section
variable [HasD G (σ 4) (d_is_between σ)] [HasD G (σ 3) (d_is_integer σ)]
theorem from_ok (i l : Int) (m : Sto) : callD G (n + 2) (σ 4) [.int i, .int l, .non] m = .ok (.bl (decide (l ≤ i))) m := by
  refine po_eq ?_; refine po_callD rfl ?_; simp only [d_is_between, f_is_between]; simp only [List.map_cons, List.map_nil, List.length_cons, List.length_nil, List.cons_append, List.nil_append, List.replicate]
  refine po_seq ?_; simp [den, int_ok]
end
section
variable [HasD G (σ 32) (d_check_number σ)] [HasD G (σ 4) (d_is_between σ)] [HasD G (σ 3) (d_is_integer σ)]
theorem number_ok (i : Int) (h : 0 ≤ i) (m : Sto) : callD G (n + 3) (σ 32) [.int i, .int 0, .non] m = .ok .non m := by
  refine po_eq ?_; refine po_callD rfl ?_; simp only [d_check_number, f_check_number]; simp only [List.map_cons, List.map_nil, List.length_cons, List.length_nil, List.cons_append, List.nil_append, List.replicate]
  refine po_seq ?_; simp [den, from_ok, h]
end
theorem letters_memL (c : Nat) : c ∈ ("abcdefghijklmnopqrstuvwxyz" : Str).cps.toList ↔ letter c := by
  have e : ("abcdefghijklmnopqrstuvwxyz" : Str).cps.toList = (List.range 26).map (· + 97) := by decide +kernel
  rw [e]
  simp only [List.mem_map, List.mem_range]
  unfold letter
  constructor
  · rintro ⟨k, hk, rfl⟩; omega
  · intro h; exact ⟨c - 97, by omega, by omega⟩
theorem digits_memL (c : Nat) : c ∈ ("0123456789" : Str).cps.toList ↔ digit c := by
  have e : ("0123456789" : Str).cps.toList = (List.range 10).map (· + 48) := by decide +kernel
  rw [e]
  simp only [List.mem_map, List.mem_range]
  unfold digit
  constructor
  · rintro ⟨k, hk, rfl⟩; omega
  · intro h; exact ⟨c - 48, by omega, by omega⟩
theorem letters_mem (c : Nat) : (c ∈ ("abcdefghijklmnopqrstuvwxyz" : Str).cps) = letter c := by rw [← letters_memL, Array.mem_toList_iff]
theorem digits_mem (c : Nat) : (c ∈ ("0123456789" : Str).cps) = digit c := by rw [← digits_memL, Array.mem_toList_iff]
theorem NameOk_okS {s : Str} (h : NameOk s) : PyData.strOk s = true := by
  refine (okS_iff (s := s)).mpr ?_
  intro c hc
  rcases h.all c hc with h | h
  · unfold letter at h; omega
  · unfold digit at h; omega
theorem lcL_chars {turn : D → M (Option D)} {f : Nat → D} {m : Sto} {cs : List Nat} (h : ∀ c ∈ cs, turn (.str ⟨#[c]⟩) m = .ok (some (f c)) m) (hz : cs.length ≤ LIM) : lcL turn (cs.map fun c => .str ⟨#[c]⟩) [] m = .ok (cs.map f) m := by
  have := lcL_map (turn := turn) (m := m) (ds := cs.map fun c => D.str ⟨#[c]⟩) (acc := []) (g := fun d => match d with | .str s => f (s.cps.getD 0 0) | _ => d) (fun d hd => by
    obtain ⟨c, hc, rfl⟩ := List.mem_map.mp hd
    exact h c hc) (by simp; exact hz)
  rw [this]
  simp [Function.comp_def]
section
variable [HasD G (σ 5) (d_is_name σ)] [HasG G "LETTERS" (.str "abcdefghijklmnopqrstuvwxyz")] [HasG G "DIGITS" (.str "0123456789")] [HasG G "LONGEST_NAME" (.int 8)]
theorem is_name_ok (s : Str) (hs : NameOk s) (m : Sto) : callD G (n + 1) (σ 5) [.str s] m = .ok (.bl true) m := by
  refine po_eq ?_; refine po_callD rfl ?_; simp only [d_is_name, f_is_name]; simp only [List.map_cons, List.map_nil, List.length_cons, List.length_nil, List.cons_append, List.nil_append, List.replicate]
  have hl : s.length ≤ LIM := by have := hs.le; unfold LIM; omega
  have l1 := hs.ne
  have l8 := hs.le
  have c0 : ∃ c, s.cps[0]? = some c ∧ letter c := by
    have : 0 < s.cps.size := hs.ne
    exact ⟨s.cps[0], by simp [this], hs.fst _ (by simp [this])⟩
  obtain ⟨c, e0, h0⟩ := c0
  have ix : opIx (.str s) (.int 0) m = .ok (.str ⟨#[c]⟩) m := by
    show (if decide (s.length ≤ LIM) = true then oOut ((atI s.cps.toList 0).map fun c => .str ⟨#[c]⟩) m else .bad) = _
    rw [decide_eq_true hl]
    have : atI s.cps.toList 0 = some c := by
      unfold atI
      rw [ixN_of (by omega) (by have : s.cps.toList.length = s.length := by simp [Str.length]
                                omega)]
      show s.cps.toList[0]? = _
      simpa using e0
    rw [this]; rfl
  refine po_seq ?_; simp [den, v_lenStr hl, show (1 : Int) ≤ (s.length : Int) by omega, show (s.length : Int) ≤ 8 by omega, ix, nin_chr, letters_mem, h0]
  refine po_seq ?_; simp [den]
  refine eq_po (lcL_chars (f := fun c => .bl true) (fun c hc => po_eq ?_) (by have : s.cps.toList.length = s.length := by simp [Str.length]
                                                                              unfold LIM; omega)) ?_
  · simp [lcTurn, ifT, wipeE, in_chr, letters_mem, digits_mem]
    rcases hs.all c hc with h | h
    · simp [h]
    · by_cases h2 : letter c <;> simp [h, h2]
  · have := v_allF (P := phi G n) (m := m) (l := s.cps.toList) (f := fun _ => true)
    rw [this]
    simp
end
theorem way_mem (w : Way) : w.s ∈ (["down", "up", "near down", "near up", "near even"] : List Str) := by cases w <;> simp [Way.s]
@[simp] theorem way_ok (w : Way) : (PyData.strOk w.s = true) = True := by cases w <;> simp [Way.s]
theorem ixT2 {xs : List D} {k : Nat} {m : Sto} {d : D} (h : xs[k]? = some d) : opIx (.tup xs) (.int (k : Nat)) m = .ok d m := by
  rw [v_ixT]
  unfold atI
  rw [ixN_of (by omega) (by have := (List.getElem?_eq_some_iff.mp h).1; omega)]
  show oOut xs[(k : Int).toNat]? m = _
  rw [Int.toNat_natCast, h]; rfl
@[simp] theorem at5_0 {a b c d e : D} : atI [a, b, c, d, e] 0 = some a := rfl
@[simp] theorem at5_1 {a b c d e : D} : atI [a, b, c, d, e] 1 = some b := rfl
@[simp] theorem at5_2 {a b c d e : D} : atI [a, b, c, d, e] 2 = some c := rfl
@[simp] theorem at5_3 {a b c d e : D} : atI [a, b, c, d, e] 3 = some d := rfl
@[simp] theorem at5_4 {a b c d e : D} : atI [a, b, c, d, e] 4 = some e := rfl
@[simp] theorem at2_0 {a b : D} : atI [a, b] 0 = some a := rfl
@[simp] theorem at2_1 {a b : D} : atI [a, b] 1 = some b := rfl
@[simp] theorem at3_0 {a b c : D} : atI [a, b, c] 0 = some a := rfl
@[simp] theorem at3_1 {a b c : D} : atI [a, b, c] 1 = some b := rfl
@[simp] theorem at3_2 {a b c : D} : atI [a, b, c] 2 = some c := rfl
section
variable [HasD G (σ 6) (d_is_step σ)] [HasG G "PLUS_SIZE" (.int 2)] [HasG G "MOST_PLUS" (.int 9999)] [HasG G "MOST_UNIT" (.int 60)] [HasG G "MOST_FACTOR" (.int 200)] [HasG G "TIMES_SIZE" (.int 5)]
  [HasG G "WAYS" (.tup [.str "down", .str "up", .str "near down", .str "near up", .str "near even"])] [HasD G (σ 4) (d_is_between σ)] [HasD G (σ 3) (d_is_integer σ)]
theorem is_step_ok (s : Bk.Step) (hs : s.ok) (m : Sto) : callD G (n + 3) (σ 6) [s.d] m = .ok (.bl true) m := by
  refine po_eq ?_; refine po_callD rfl ?_; simp only [d_is_step, f_is_step]; simp only [List.map_cons, List.map_nil, List.length_cons, List.length_nil, List.cons_append, List.nil_append, List.replicate]
  cases s with
  | plus c =>
    obtain ⟨h1, h2⟩ := hs
    refine po_seq ?_; simp [den, Step.d, eqS, neS]
    refine po_seq ?_; simp [den, Step.d, eqS, neS]
    refine po_seq ?_; simp [den, Step.d, between_ok]
    omega
  | times a b w u =>
    obtain ⟨h1, h2, h3, h4, h5, h6⟩ := hs
    have hw := way_mem w
    have nw := nin_strs (a := w.s) (ys := ["down", "up", "near down", "near up", "near even"]) (m := m)
    simp only [List.map_cons, List.map_nil, hw, decide_true, Bool.not_true] at nw
    refine po_seq ?_; simp [den, Step.d, eqS, neS, ofS_inj]
    refine po_seq ?_; simp [den, Step.d, eqS, neS, ofS_inj]
    refine po_seq ?_; simp [den, Step.d, eqS, neS, ofS_inj, nw]
    refine po_seq ?_; simp [den, Step.d, between_ok, h1, h2, h3, h4]
    refine po_seq ?_; simp [den, Step.d, between_ok, h5, h6]
end
section
variable [HasD G (σ 7) (d_wrong_step σ)] [HasG G "MOST_STEPS" (.int 2)] [HasD G (σ 6) (d_is_step σ)] [HasG G "PLUS_SIZE" (.int 2)] [HasG G "MOST_PLUS" (.int 9999)] [HasG G "MOST_UNIT" (.int 60)]
  [HasG G "MOST_FACTOR" (.int 200)] [HasG G "TIMES_SIZE" (.int 5)] [HasG G "WAYS" (.tup [.str "down", .str "up", .str "near down", .str "near up", .str "near even"])] [HasD G (σ 4) (d_is_between σ)] [HasD G (σ 3) (d_is_integer σ)]
theorem wrong_step_ok (l : List Bk.Step) (hl : rowOk l) (m : Sto) : callD G (n + 4) (σ 7) [rowD l] m = .ok .non m := by
  refine po_eq ?_; refine po_callD rfl ?_; simp only [d_wrong_step, f_wrong_step]; simp only [List.map_cons, List.map_nil, List.length_cons, List.length_nil, List.cons_append, List.nil_append, List.replicate]
  refine po_seq ?_
  simp [den]
  refine forL_po (n := (dsteps l).length) (fun i env m' => m' = m ∧ ∃ x y, env = [some (rowD l), x, y]) enum_len ⟨rfl, _, _, rfl⟩ ?_ ?_
  · rintro i env m' d hi hd ⟨rfl, x, y, rfl⟩
    obtain ⟨v, hv, rfl⟩ := enum_get hd
    unfold dsteps at hv
    rw [List.getElem?_map] at hv
    obtain ⟨s, hs, rfl⟩ := Option.map_eq_some_iff.mp hv
    have hm : s ∈ l := List.mem_of_getElem? hs
    have i2 : i < 2 := by have := (List.getElem?_eq_some_iff.mp hs).1; have := hl.1; omega
    simp
    refine po_seq ?_; simp [den, is_step_ok s (hl.2 s hm), show ¬ ((i : Int) = 2) by omega]
  · rintro env m' ⟨rfl, x, y, rfl⟩
    refine po_seq ?_; simp [den]
end
section
variable [HasD G (σ 8) (d_is_row_of_steps σ)] [HasD G (σ 7) (d_wrong_step σ)] [HasG G "MOST_STEPS" (.int 2)] [HasD G (σ 6) (d_is_step σ)] [HasG G "PLUS_SIZE" (.int 2)] [HasG G "MOST_PLUS" (.int 9999)]
  [HasG G "MOST_UNIT" (.int 60)] [HasG G "MOST_FACTOR" (.int 200)] [HasG G "TIMES_SIZE" (.int 5)] [HasG G "WAYS" (.tup [.str "down", .str "up", .str "near down", .str "near up", .str "near even"])] [HasD G (σ 4) (d_is_between σ)] [HasD G (σ 3) (d_is_integer σ)]
theorem is_row_ok (l : List Bk.Step) (hl : rowOk l) (m : Sto) : callD G (n + 5) (σ 8) [rowD l] m = .ok (.bl true) m := by
  refine po_eq ?_; refine po_callD rfl ?_; simp only [d_is_row_of_steps, f_is_row_of_steps]; simp only [List.map_cons, List.map_nil, List.length_cons, List.length_nil, List.cons_append, List.nil_append, List.replicate]
  refine po_seq ?_; simp [den, wrong_step_ok l hl]
end
section
variable [HasD G (σ 33) (d_rounded σ)]
theorem rounded_ok (t b : Int) (w : Way) (hb : 0 < b) (hb2 : b < 2 ^ 60) (m : Sto) : callD G (n + 1) (σ 33) [.int t, .int b, .str w.s] m = .ok (.int (rnd t b w)) m := by
  refine po_eq ?_; refine po_callD rfl ?_; simp only [d_rounded, f_rounded]; simp only [List.map_cons, List.map_nil, List.length_cons, List.length_nil, List.cons_append, List.nil_append, List.replicate]
  have d1 := divOk_of hb (Int.lt_trans hb2 (by decide +kernel : (2 : Int) ^ 60 < 2 ^ 8000))
  have m0 := Int.emod_nonneg t (show b ≠ 0 by omega)
  have m1 := Int.emod_lt_of_pos t hb
  refine po_seq ?_; simp [den, d1]
  refine po_seq ?_; simp [den, eqS, way_ok]
  have wd : (w.s = ("down" : Str)) = (w = .down) := by cases w <;> simp [Way.s, ofS_inj]
  have wu : (w.s = ("up" : Str)) = (w = .up) := by cases w <;> simp [Way.s, ofS_inj]
  have wn : (w.s = ("near down" : Str)) = (w = .ndown) := by cases w <;> simp [Way.s, ofS_inj]
  have we : (w.s = ("near even" : Str)) = (w = .neven) := by cases w <;> simp [Way.s, ofS_inj]
  simp only [wd]
  have fin0 : ∀ F, F (.int (t / b)) m → Po ((den (phi G n) (f_rounded_0 σ)).s [some (D.int t), some (D.int b), some (D.str w.s), some (D.int (t / b)), some (D.int (t % b))] m) (sq (den (phi G n) (f_rounded_7 σ)).s (fin F)) := fun F h => by
    refine po_seq ?_; simp [den]; exact h
  unfold rnd
  by_cases h1 : w = .down
  · simp [h1]
    refine po_seq ?_; simp [den]
  · by_cases h2 : t % b = 0
    · simp [h1, h2]
      refine po_seq ?_; simp [den]
    · simp [h1, h2]
      refine po_seq ?_
      simp [den, eqS, way_ok, wu]
      by_cases h3 : w = .up
      · simp [h3]
        refine po_seq ?_; simp [den]
      · simp [h3]
        refine po_seq ?_
        simp [den, mulOk_l (i := 2) (j := t % b) (by omega) (by omega)]
        by_cases h4 : 2 * (t % b) = b
        · simp [h4]
          refine po_seq ?_
          simp [den, eqS, way_ok, we]
          by_cases h5 : w = .neven
          · simp [h5]
            refine po_seq ?_; simp [den]
          · simp [h5]
            refine po_seq ?_
            simp [den, eqS, way_ok, wn]
            by_cases h6 : w = .ndown <;> simp [h6]
        · simp [h4]
          refine po_seq ?_
          simp [den, mulOk_l (i := 2) (j := t % b) (by omega) (by omega)]
          by_cases h5 : 2 * (t % b) < b
          · simp [h5]; intro z; omega
          · simp [h5]
end
section
variable [HasD G (σ 34) (d_led σ)] [HasD G (σ 33) (d_rounded σ)]
theorem led_ok (l : List Bk.Step) (hl : ∀ s ∈ l, s.ok) (v : Int) (m : Sto) : callD G (n + 2) (σ 34) [rowD l, .int v] m = .ok (.int (Bk.led l v)) m := by
  refine po_eq ?_; refine po_callD rfl ?_; simp only [d_led, f_led]; simp only [List.map_cons, List.map_nil, List.length_cons, List.length_nil, List.cons_append, List.nil_append, List.replicate]
  refine po_seq ?_
  simp [den]
  refine forL_po (n := (dsteps l).length) (fun i env m' => m' = m ∧ ∃ x, env = [some (rowD l), some (.int (Bk.led (l.take i) v)), x]) rfl ⟨rfl, _, rfl⟩ ?_ ?_
  · rintro i env m' d hi hd ⟨rfl, x, rfl⟩
    unfold dsteps at hd
    rw [List.getElem?_map] at hd
    obtain ⟨s, hs, rfl⟩ := Option.map_eq_some_iff.mp hd
    have hm : s ∈ l := List.mem_of_getElem? hs
    have ok := hl s hm
    have tk : Bk.led (l.take (i + 1)) v = led1 (Bk.led (l.take i) v) s := by
      rw [List.take_add_one, hs]
      simp [Bk.led]
    simp
    rw [tk]
    generalize Bk.led (l.take i) v = u
    cases s with
    | plus c =>
      refine po_seq ?_
      simp [den, Step.d, eqS]
      refine po_seq ?_
      simp [den, led1]
    | times a b w q =>
      obtain ⟨h1, h2, h3, h4, h5, h6⟩ := ok
      have hb : 0 < b * q ∧ b * q ≤ 200 * 60 := ⟨Int.mul_pos (by omega) (by omega), Int.mul_le_mul h4 h6 (by omega) (by omega)⟩
      refine po_seq ?_
      simp [den, Step.d, eqS, ofS_inj]
      refine po_seq ?_
      simp [den, mulOk_r (i := u) (j := a) (by omega) (by omega), mulOk_r (i := b) (j := q) (by omega) (by omega), mulOk_r (j := q) (by omega) (by omega), rounded_ok _ (b * q) w hb.1 (by omega), led1]
  · rintro env m' ⟨rfl, x, rfl⟩
    refine po_seq ?_; simp [den]
    rw [List.take_of_length_le (by simp [dsteps])]
/-! ### texts -/
end
theorem fmtI {i : Int} {m : Sto} (h0 : -(10 ^ 100) ≤ i) (h1 : i ≤ 10 ^ 100) : fmt (.int i) m = .ok (.str (istr i)) m := v_fmtI (log2_of h0 h1)
theorem istr_le {i : Int} (h0 : -(10 ^ 100) ≤ i) (h1 : i ≤ 10 ^ 100) : (istr i).length ≤ 1921 := istr_len (log2_of h0 h1)
@[simp] theorem emp_app (a : Str) : Str.empty ++ a = a := by
  show (⟨#[] ++ a.cps⟩ : Str) = a
  simp
@[simp] theorem emp_len : Str.empty.length = 0 := rfl
theorem way_len (w : Way) : w.s.length ≤ 9 := by cases w <;> simp [Way.s]
theorem step_len (s : Bk.Step) (hs : s.ok) : s.t.length ≤ 8000 := by
  cases s with
  | plus c =>
    obtain ⟨h1, h2⟩ := hs
    have l1 := istr_le (i := c) (by omega) (by omega)
    simp only [Step.t, str_len_app, len_l0]
    omega
  | times a b w u =>
    obtain ⟨h1, h2, h3, h4, h5, h6⟩ := hs
    have l1 := istr_le (i := a) (by omega) (by omega)
    have l2 := istr_le (i := b) (by omega) (by omega)
    have l3 := istr_le (i := u) (by omega) (by omega)
    have l4 := way_len w
    simp only [Step.t, str_len_app, len_l1, len_l2, len_l3, len_l4]
    omega
section
variable [HasD G (σ 308) (d_text_of_step σ)]
theorem text_of_step_ok (s : Bk.Step) (hs : s.ok) (m : Sto) : callD G (n + 1) (σ 308) [s.d] m = .ok (.str s.t) m := by
  refine po_eq ?_; refine po_callD rfl ?_; simp only [d_text_of_step, f_text_of_step]; simp only [List.map_cons, List.map_nil, List.length_cons, List.length_nil, List.cons_append, List.nil_append, List.replicate]
  cases s with
  | plus c =>
    obtain ⟨h1, h2⟩ := hs
    have l1 := istr_le (i := c) (by omega) (by omega)
    refine po_seq ?_; simp [den, Step.d, eqS]
    refine po_seq ?_
    simp [den, Step.d, fmtI (i := c) (by omega) (by omega), str_len_app, Step.t]
    unfold LIM; omega
  | times a b w u =>
    obtain ⟨h1, h2, h3, h4, h5, h6⟩ := hs
    have l1 := istr_le (i := a) (by omega) (by omega)
    have l2 := istr_le (i := b) (by omega) (by omega)
    have l3 := istr_le (i := u) (by omega) (by omega)
    have l4 := way_len w
    refine po_seq ?_; simp [den, Step.d, eqS, ofS_inj]
    refine po_seq ?_
    simp [den, Step.d, fmtI (i := a) (by omega) (by omega), fmtI (i := b) (by omega) (by omega), fmtI (i := u) (by omega) (by omega), v_fmtS (s := w.s) (by unfold LIM; omega), str_len_app, Step.t]
    unfold LIM; omega
end
theorem sum_le {xs : List Nat} {B : Nat} (h : ∀ x ∈ xs, x ≤ B) : xs.sum ≤ xs.length * B := by
  induction xs with
  | nil => simp
  | cons x xs ih =>
    have := ih fun y hy => h y (by simp [hy])
    have := h x (by simp)
    simp only [List.sum_cons, List.length_cons, Nat.succ_mul]
    omega
theorem join_le {s : Str} {l : List Str} {B : Nat} (h : ∀ x ∈ l, x.length ≤ B) : (Str.join s l).length ≤ l.length * (B + s.length) := by
  refine Nat.le_trans (join_len s l) ?_
  have := sum_le (xs := l.map fun x => x.length + s.length) (B := B + s.length) fun y hy => by
    obtain ⟨x, hx, rfl⟩ := List.mem_map.mp hy
    have := h x hx
    omega
  simpa using this
theorem sums_le {l : List Str} {B : Nat} (h : ∀ x ∈ l, x.length ≤ B) : (l.map (·.length)).sum ≤ l.length * B := by
  have := sum_le (xs := l.map (·.length)) (B := B) fun y hy => by
    obtain ⟨x, hx, rfl⟩ := List.mem_map.mp hy
    exact h x hx
  simpa using this
theorem stepsT_len (l : List Bk.Step) (hl : rowOk l) : (stepsT l).length ≤ 17000 := by
  unfold stepsT
  split
  · simp
  · rw [str_len_app, len_l5]
    have := join_le (s := ", ") (l := l.map Step.t) (B := 8000) fun x hx => by
      obtain ⟨s, hs, rfl⟩ := List.mem_map.mp hx
      exact step_len s (hl.2 s hs)
    rw [List.length_map, len_l6] at this
    have h2 := hl.1
    have : l.length * (8000 + 2) ≤ 2 * 8002 := Nat.mul_le_mul_right _ h2
    omega
theorem eqT0 {xs : List D} {a : List PyData} {m : Sto} (h : D.pys xs = some a) (f : fitD (.tuple a) = true) : opCmp .NotEq (.tup xs) (.tup []) m = .ok (.bl (!xs.isEmpty)) m := by
  rw [ne_of (a := .tuple a) (b := .tuple []) (by simp [top, h]) (by simp [top]) f (by decide)]
  cases xs with
  | nil => simp at h; subst h; rfl
  | cons x xs =>
    have : a ≠ [] := by
      intro e; subst e
      rw [D.pys] at h
      split at h <;> cases h
    cases a with
    | nil => exact absurd rfl this
    | cons y ys => rfl
def Step.p : Bk.Step → PyData
  | .plus c => .tuple [.str "plus", .int c]
  | .times a b w u => .tuple [.str "times", .int a, .int b, .str w.s, .int u]
theorem step_py (s : Bk.Step) : s.d.py = some (Step.p s) := by
  cases s with
  | plus c => simp [Step.d, Step.p, D.pys]
  | times a b w u => simp [Step.d, Step.p, D.pys]
theorem steps_py : ∀ l : List Bk.Step, D.pys (dsteps l) = some (l.map Step.p)
  | [] => rfl
  | s :: l => pys_cons (step_py s) (steps_py l)
theorem step_lay (s : Bk.Step) : (Step.p s).canLay0 = true ∧ (Step.p s).depth ≤ 1 := by
  cases s with
  | plus c => simp [Step.p, PyData.canLay0, PyData.canLayAll0, PyData.depth, PyData.depthAll]
  | times a b w u => simp [Step.p, PyData.canLay0, PyData.canLayAll0, PyData.depth, PyData.depthAll]
theorem steps_lay : ∀ l : List Bk.Step, PyData.canLayAll0 (l.map Step.p) = true ∧ PyData.depthAll (l.map Step.p) ≤ 1
  | [] => by simp [PyData.canLayAll0, PyData.depthAll]
  | s :: l => by
    have a := step_lay s
    have b := steps_lay l
    simp only [List.map_cons, PyData.canLayAll0, PyData.depthAll, a.1, b.1, Bool.and_self, true_and]
    omega
theorem steps_fit (l : List Bk.Step) : fitD (.tuple (l.map Step.p)) = true := by
  unfold fitD
  rw [Bool.and_eq_true, decide_eq_true_eq]
  refine ⟨by simp only [PyData.canLay0, steps_lay], ?_⟩
  simp only [PyData.depth]
  have := (steps_lay l).2
  omega
theorem lcL_of {turn : D → M (Option D)} {α : Type} {e : α → D} {f : α → D} {m : Sto} {l : List α} (h : ∀ x ∈ l, turn (e x) m = .ok (some (f x)) m) (hz : l.length ≤ LIM) : lcL turn (l.map e) [] m = .ok (l.map f) m := by
  have go : ∀ (l : List α) (acc : List D), (∀ x ∈ l, turn (e x) m = .ok (some (f x)) m) → acc.length + l.length ≤ LIM → lcL turn (l.map e) acc m = .ok (acc ++ l.map f) m := by
    intro l
    induction l with
    | nil => intro acc _ _; simp [lcL, LC.ret]
    | cons x l ih =>
      intro acc h hz
      rw [List.length_cons] at hz
      rw [List.map_cons]
      unfold lcL
      rw [h x (by simp)]
      simp only
      rw [if_pos (by simp; omega), ih _ (fun y hy => h y (by simp [hy])) (by simp; omega)]
      simp
  have := go l [] h (by simpa using hz)
  simpa using this
section
variable [HasD G (σ 309) (d_text_of_steps σ)] [HasD G (σ 308) (d_text_of_step σ)]
theorem text_of_steps_ok (l : List Bk.Step) (hl : rowOk l) (m : Sto) : callD G (n + 2) (σ 309) [rowD l] m = .ok (.str (stepsT l)) m := by
  refine po_eq ?_; refine po_callD rfl ?_; simp only [d_text_of_steps, f_text_of_steps]; simp only [List.map_cons, List.map_nil, List.length_cons, List.length_nil, List.cons_append, List.nil_append, List.replicate]
  refine po_seq ?_
  simp [den, eqT0 (steps_py l) (steps_fit l)]
  have h2 := hl.1
  cases e : l with
  | nil => simp [dsteps, stepsT]
  | cons s l' =>
    rw [← e]
    have ne : ¬ dsteps l = [] := by rw [e]; simp [dsteps]
    rw [if_neg ne]
    refine eq_po (lcL_of (e := Step.d) (f := fun s => .str s.t) (fun s hs => po_eq (by simp [lcTurn, ifT, wipeE, text_of_step_ok s (hl.2 s hs)])) (by unfold LIM; omega)) ?_
    have sm := sums_le (l := l.map Step.t) (B := 8000) fun x hx => by
      obtain ⟨s, hs, rfl⟩ := List.mem_map.mp hx
      exact step_len s (hl.2 s hs)
    have jn := join_le (s := ", ") (l := l.map Step.t) (B := 8000) fun x hx => by
      obtain ⟨s, hs, rfl⟩ := List.mem_map.mp hx
      exact step_len s (hl.2 s hs)
    rw [List.length_map] at sm jn
    rw [len_l6] at jn
    have h3 : l.length * 8000 ≤ 2 * 8000 := Nat.mul_le_mul_right _ h2
    have h4 : l.length * (8000 + 2) ≤ 2 * 8002 := Nat.mul_le_mul_right _ h2
    have ej : (l.map fun s => D.str s.t) = (l.map Step.t).map D.str := by simp
    rw [ej]
    refine eq_po (v_join rfl (by rw [List.length_map, len_l6]; unfold LIM; omega)) ?_
    rw [v_addS (by rw [len_l5]; unfold LIM; omega)]
    simp
    unfold stepsT
    rw [if_neg (by rw [e]; simp)]
end
end Tx

namespace Tx
open PySem LC Bk
variable {G : Prog} {σ : Nat → Nat} {n : Nat}
section
variable [HasD G (σ 9) (d_is_kind σ)] [HasG G "KIND_SIZE" (.int 3)] [HasD G (σ 4) (d_is_between σ)] [HasD G (σ 5) (d_is_name σ)] [HasG G "LETTERS" (.str "abcdefghijklmnopqrstuvwxyz")] [HasG G "DIGITS" (.str "0123456789")]
  [HasG G "LONGEST_NAME" (.int 8)] [HasD G (σ 8) (d_is_row_of_steps σ)] [HasD G (σ 3) (d_is_integer σ)] [HasD G (σ 7) (d_wrong_step σ)] [HasG G "MOST_STEPS" (.int 2)] [HasD G (σ 6) (d_is_step σ)]
  [HasG G "PLUS_SIZE" (.int 2)] [HasG G "MOST_PLUS" (.int 9999)] [HasG G "MOST_UNIT" (.int 60)] [HasG G "MOST_FACTOR" (.int 200)] [HasG G "TIMES_SIZE" (.int 5)] [HasG G "WAYS" (.tup [.str "down", .str "up", .str "near down", .str "near up", .str "near even"])]
theorem is_kind_ok (k : Knd) (h1 : NameOk k.name) (h2 : rowOk k.steps) (m : Sto) : callD G (n + 6) (σ 9) [k.d] m = .ok (.bl true) m := by
  refine po_eq ?_; refine po_callD rfl ?_; simp only [d_is_kind, f_is_kind]; simp only [List.map_cons, List.map_nil, List.length_cons, List.length_nil, List.cons_append, List.nil_append, List.replicate]
  refine po_seq ?_; simp [den, Knd.d, is_name_ok k.name h1]
  refine po_seq ?_; simp [den, Knd.d, from_ok, is_row_ok k.steps h2]
end
def Knd.p (k : Knd) : PyData := .tuple [.str k.name, .int (k.grp : Nat), .tuple (k.steps.map Step.p)]
theorem kind_py (k : Knd) : k.d.py = some (Knd.p k) := by
  unfold Knd.d Knd.p
  rw [py_tup, pys_cons py_str (pys_cons py_int (pys_cons (by rw [py_tup, steps_py]; rfl) pys_nil))]
  rfl
theorem kinds_py : ∀ l : List Knd, D.pys (l.map Knd.d) = some (l.map Knd.p)
  | [] => rfl
  | s :: l => pys_cons (kind_py s) (kinds_py l)
theorem kind_lay (k : Knd) (h : NameOk k.name) : (Knd.p k).canLay0 = true ∧ (Knd.p k).depth ≤ 3 := by
  have a := steps_lay k.steps
  constructor
  · simp only [Knd.p, PyData.canLay0, PyData.canLayAll0, a.1, Bool.and_self, Bool.and_true]
    exact NameOk_okS h
  · simp only [Knd.p, PyData.depth, PyData.depthAll]
    omega
theorem kinds_lay : ∀ l : List Knd, (∀ k ∈ l, NameOk k.name) → PyData.canLayAll0 (l.map Knd.p) = true ∧ PyData.depthAll (l.map Knd.p) ≤ 3
  | [], _ => by simp [PyData.canLayAll0, PyData.depthAll]
  | s :: l, h => by
    have a := kind_lay s (h s (by simp))
    have b := kinds_lay l fun k hk => h k (by simp [hk])
    simp only [List.map_cons, PyData.canLayAll0, PyData.depthAll, a.1, b.1, Bool.and_self, true_and]
    omega
theorem kinds_fit (l : List Knd) (h : ∀ k ∈ l, NameOk k.name) : fitD (.tuple (l.map Knd.p)) = true := by
  unfold fitD
  rw [Bool.and_eq_true, decide_eq_true_eq]
  refine ⟨by simp only [PyData.canLay0, kinds_lay l h], ?_⟩
  simp only [PyData.depth]
  have := (kinds_lay l h).2
  omega
theorem eqT1 {xs : List D} {a : List PyData} {m : Sto} (h : D.pys xs = some a) (f : fitD (.tuple a) = true) : opCmp .Eq (.tup xs) (.tup []) m = .ok (.bl (decide (xs = []))) m := by
  rw [eq_of (a := .tuple a) (b := .tuple []) (by simp [top, h]) (by simp [top]) f (by decide)]
  cases xs with
  | nil => simp at h; subst h; rfl
  | cons x xs =>
    cases a with
    | nil =>
      rw [D.pys] at h
      split at h <;> cases h
    | cons y ys => rfl
theorem append_ref {p : Nat} {m : Sto} {xs : List D} {d : D} (hp : m[p]? = some (.lst xs)) (hz : xs.length < LIM) : callM .append (.ref p) [d] m = .ok .non (m.set p (.lst (xs ++ [d]))) := by
  show (match m[p]? with | some (.lst xs) => if decide (xs.length < LIM) = true then Out.ok D.non (m.set p (.lst (xs ++ [d]))) else .bad | _ => .bad) = _
  rw [hp]
  simp only [decide_eq_true hz, if_true]
theorem preL_ref {p : Nat} {m : Sto} {xs : List D} (hp : m[p]? = some (.lst xs)) : preL (.ref p) m = .ok () m := by
  unfold preL
  simp only [hp]
section
variable [HasD G (σ 10) (d_check_kinds σ)] [HasG G "MOST_KINDS" (.int 4)] [HasD G (σ 9) (d_is_kind σ)] [HasG G "KIND_SIZE" (.int 3)] [HasD G (σ 4) (d_is_between σ)] [HasD G (σ 5) (d_is_name σ)]
  [HasG G "LETTERS" (.str "abcdefghijklmnopqrstuvwxyz")] [HasG G "DIGITS" (.str "0123456789")] [HasG G "LONGEST_NAME" (.int 8)] [HasD G (σ 8) (d_is_row_of_steps σ)] [HasD G (σ 3) (d_is_integer σ)] [HasD G (σ 7) (d_wrong_step σ)]
  [HasG G "MOST_STEPS" (.int 2)] [HasD G (σ 6) (d_is_step σ)] [HasG G "PLUS_SIZE" (.int 2)] [HasG G "MOST_PLUS" (.int 9999)] [HasG G "MOST_UNIT" (.int 60)] [HasG G "MOST_FACTOR" (.int 200)]
  [HasG G "TIMES_SIZE" (.int 5)] [HasG G "WAYS" (.tup [.str "down", .str "up", .str "near down", .str "near up", .str "near even"])]
theorem check_kinds_ok (B : Book) (h : B.Ok) (m : Sto) : Po (callD G (n + 7) (σ 10) [.tup (B.kinds.map Knd.d)] m) fun v m' => v = .non ∧ ∃ o, m' = m ++ [o] := by
  refine po_callD rfl ?_; simp only [d_check_kinds, f_check_kinds]; simp only [List.map_cons, List.map_nil, List.length_cons, List.length_nil, List.cons_append, List.nil_append, List.replicate]
  refine po_seq ?_
  have ne : ¬ B.kinds = [] := by intro e; have := h.k0; rw [e] at this; simp at this
  simp [den, eqT1 (kinds_py B.kinds) (kinds_fit B.kinds h.nm), ne]
  refine po_seq ?_; simp [den]
  refine po_seq ?_
  simp [den]
  refine forL_po (n := (B.kinds.map Knd.d).length) (fun i env m' => m' = m ++ [.lst ((B.kinds.take i).map fun k => .str k.name)] ∧ ∃ x y, env = [some (.tup (B.kinds.map Knd.d)), some (.ref m.length), x, y]) enum_len ⟨rfl, _, _, rfl⟩ ?_ ?_
  · rintro i env m' d hi hd ⟨rfl, x, y, rfl⟩
    obtain ⟨v, hv, rfl⟩ := enum_get hd
    rw [List.getElem?_map] at hv
    obtain ⟨k, hk, rfl⟩ := Option.map_eq_some_iff.mp hv
    have hm : k ∈ B.kinds := List.mem_of_getElem? hk
    have hlt : i < B.kinds.length := (List.getElem?_eq_some_iff.mp hk).1
    have i4 : i < 4 := by have := h.k4; omega
    have hp : (m ++ [Ob.lst ((B.kinds.take i).map fun k => D.str k.name)])[m.length]? = some (.lst ((B.kinds.take i).map fun k => .str k.name)) := by simp
    have es : ((B.kinds.take i).map fun k => D.str k.name) = ((B.kinds.take i).map (·.name)).map D.str := by simp [Function.comp_def]
    have tp : top (m ++ [Ob.lst ((B.kinds.take i).map fun k => D.str k.name)]) (.ref m.length) = .lst (((B.kinds.take i).map (·.name)).map D.str) := by
      show topR (.ref m.length) _ = _
      rw [hp, es]; rfl
    have nin : ¬ k.name ∈ (B.kinds.take i).map (·.name) := by
      intro hin
      have nd := h.nd
      have e1 : B.kinds.map (·.name) = (B.kinds.take i).map (·.name) ++ (B.kinds.drop i).map (·.name) := by rw [← List.map_append, List.take_append_drop]
      rw [e1] at nd
      have := (List.nodup_append.mp nd).2.2 _ hin k.name (List.mem_map.mpr ⟨k, by
        rw [List.mem_iff_getElem?]; exact ⟨0, by rw [List.getElem?_drop]; simpa using hk⟩, rfl⟩)
      exact this rfl
    simp
    have dk : opIx k.d (.int 0) (m ++ [Ob.lst ((B.kinds.take i).map fun k => D.str k.name)]) = .ok (.str k.name) (m ++ [Ob.lst ((B.kinds.take i).map fun k => D.str k.name)]) := rfl
    have inn := in_strsL tp (fun z => by simp) (a := k.name)
    rw [decide_eq_false nin] at inn
    simp only [List.map_take] at *
    refine po_seq ?_; simp [den, is_kind_ok k (h.nm k hm) (h.kr k hm), show ¬ ((i : Int) = 4) by omega, dk, inn]
    refine po_seq ?_
    simp [den, preL_ref hp, dk, append_ref hp (by simp; unfold LIM; omega)]
    rw [List.take_add_one, List.getElem?_map, hk]
    simp
  · rintro env m' ⟨rfl, x, y, rfl⟩
    simp
end
theorem groups_py : ∀ l : List (List Bk.Step), D.pys (l.map rowD) = some (l.map fun r => .tuple (r.map Step.p))
  | [] => rfl
  | s :: l => pys_cons (by rw [py_tup, steps_py]; rfl) (groups_py l)
theorem groups_lay : ∀ l : List (List Bk.Step), PyData.canLayAll0 (l.map fun r => .tuple (r.map Step.p)) = true ∧ PyData.depthAll (l.map fun r => .tuple (r.map Step.p)) ≤ 2
  | [] => by simp [PyData.canLayAll0, PyData.depthAll]
  | s :: l => by
    have a := steps_lay s
    have b := groups_lay l
    simp only [List.map_cons, PyData.canLayAll0, PyData.depthAll, PyData.canLay0, PyData.depth, a.1, b.1, Bool.and_self, true_and]
    omega
theorem groups_fit (l : List (List Bk.Step)) : fitD (.tuple (l.map fun r => .tuple (r.map Step.p))) = true := by
  unfold fitD
  rw [Bool.and_eq_true, decide_eq_true_eq]
  refine ⟨by simp only [PyData.canLay0, groups_lay l], ?_⟩
  simp only [PyData.depth]
  have := (groups_lay l).2
  omega
section
variable [HasD G (σ 11) (d_check_groups σ)] [HasG G "MOST_GROUPS" (.int 3)] [HasD G (σ 8) (d_is_row_of_steps σ)] [HasD G (σ 7) (d_wrong_step σ)] [HasG G "MOST_STEPS" (.int 2)] [HasD G (σ 6) (d_is_step σ)]
  [HasG G "PLUS_SIZE" (.int 2)] [HasG G "MOST_PLUS" (.int 9999)] [HasG G "MOST_UNIT" (.int 60)] [HasG G "MOST_FACTOR" (.int 200)] [HasG G "TIMES_SIZE" (.int 5)] [HasG G "WAYS" (.tup [.str "down", .str "up", .str "near down", .str "near up", .str "near even"])]
  [HasD G (σ 4) (d_is_between σ)] [HasD G (σ 3) (d_is_integer σ)]
theorem check_groups_ok (B : Book) (h : B.Ok) (m : Sto) : callD G (n + 6) (σ 11) [.tup (B.groups.map rowD)] m = .ok .non m := by
  refine po_eq ?_; refine po_callD rfl ?_; simp only [d_check_groups, f_check_groups]; simp only [List.map_cons, List.map_nil, List.length_cons, List.length_nil, List.cons_append, List.nil_append, List.replicate]
  refine po_seq ?_
  have ne : ¬ B.groups = [] := by intro e; have := h.g0; rw [e] at this; simp at this
  simp [den, eqT1 (groups_py B.groups) (groups_fit B.groups), ne]
  refine po_seq ?_
  simp [den]
  refine forL_po (n := (B.groups.map rowD).length) (fun i env m' => m' = m ∧ ∃ x y, env = [some (.tup (B.groups.map rowD)), x, y]) enum_len ⟨rfl, _, _, rfl⟩ ?_ ?_
  · rintro i env m' d hi hd ⟨rfl, x, y, rfl⟩
    obtain ⟨v, hv, rfl⟩ := enum_get hd
    rw [List.getElem?_map] at hv
    obtain ⟨g, hg, rfl⟩ := Option.map_eq_some_iff.mp hv
    have hm : g ∈ B.groups := List.mem_of_getElem? hg
    have hlt : i < B.groups.length := (List.getElem?_eq_some_iff.mp hg).1
    have i3 : i < 3 := by have := h.g3; omega
    simp
    refine po_seq ?_; simp [den, is_row_ok g (h.gr g hm), show ¬ ((i : Int) = 3) by omega]
  · rintro env m' ⟨rfl, x, y, rfl⟩
    simp
end
section
variable [HasD G (σ 12) (d_check_places σ)]
theorem check_places_ok (B : Book) (h : B.Ok) (m : Sto) : callD G (n + 1) (σ 12) [.tup (B.kinds.map Knd.d), .int (B.groups.length : Nat)] m = .ok .non m := by
  refine po_eq ?_; refine po_callD rfl ?_; simp only [d_check_places, f_check_places]; simp only [List.map_cons, List.map_nil, List.length_cons, List.length_nil, List.cons_append, List.nil_append, List.replicate]
  refine po_seq ?_
  simp [den]
  refine forL_po (n := (B.kinds.map Knd.d).length) (fun i env m' => m' = m ∧ ∃ x y, env = [some (.tup (B.kinds.map Knd.d)), some (.int (B.groups.length : Nat)), x, y]) enum_len ⟨rfl, _, _, rfl⟩ ?_ ?_
  · rintro i env m' d hi hd ⟨rfl, x, y, rfl⟩
    obtain ⟨v, hv, rfl⟩ := enum_get hd
    rw [List.getElem?_map] at hv
    obtain ⟨k, hk, rfl⟩ := Option.map_eq_some_iff.mp hv
    have hm : k ∈ B.kinds := List.mem_of_getElem? hk
    have := h.kg k hm
    simp
    refine po_seq ?_; simp [den, Knd.d, show ¬ ((B.groups.length : Int) ≤ (k.grp : Int)) by omega]
  · rintro env m' ⟨rfl, x, y, rfl⟩
    simp
end
section
variable [HasD G (σ 13) (d_check_whole σ)] [HasD G (σ 7) (d_wrong_step σ)] [HasG G "MOST_STEPS" (.int 2)] [HasD G (σ 6) (d_is_step σ)] [HasG G "PLUS_SIZE" (.int 2)] [HasG G "MOST_PLUS" (.int 9999)]
  [HasG G "MOST_UNIT" (.int 60)] [HasG G "MOST_FACTOR" (.int 200)] [HasG G "TIMES_SIZE" (.int 5)] [HasG G "WAYS" (.tup [.str "down", .str "up", .str "near down", .str "near up", .str "near even"])] [HasD G (σ 4) (d_is_between σ)] [HasD G (σ 3) (d_is_integer σ)]
theorem check_whole_ok (l : List Bk.Step) (h : rowOk l) (m : Sto) : callD G (n + 5) (σ 13) [rowD l] m = .ok .non m := by
  refine po_eq ?_; refine po_callD rfl ?_; simp only [d_check_whole, f_check_whole]; simp only [List.map_cons, List.map_nil, List.length_cons, List.length_nil, List.cons_append, List.nil_append, List.replicate]
  refine po_seq ?_; simp [den]
  refine po_seq ?_; simp [den, wrong_step_ok l h]
  refine po_seq ?_; simp [den]
end
theorem enum_map {α : Type} {e : α → D} {l : List α} : enumL (l.map e) = ((List.range l.length).zip l).map fun p => .tup [.int (p.1 : Nat), e p.2] := by
  unfold enumL
  rw [List.length_map, List.zip_map_right, List.map_map]
  rfl
theorem lcL_enum {turn : D → M (Option D)} {α : Type} {e : α → D} {f : Nat → α → D} {m : Sto} {l : List α} (h : ∀ i x, l[i]? = some x → turn (.tup [.int (i : Nat), e x]) m = .ok (some (f i x)) m) (hz : l.length ≤ LIM) :
    lcL turn (enumL (l.map e)) [] m = .ok (((List.range l.length).zip l).map fun p => f p.1 p.2) m := by
  rw [enum_map]
  refine lcL_of (fun p hp => ?_) (by simp; exact hz)
  obtain ⟨i, hi⟩ := List.mem_iff_getElem?.mp hp
  obtain ⟨h1, h2⟩ := List.getElem?_zip_eq_some.mp (show ((List.range l.length).zip l)[i]? = some (p.1, p.2) from hi)
  have hl : i < l.length := (List.getElem?_eq_some_iff.mp h2).1
  rw [List.getElem?_range hl] at h1
  cases h1
  exact h _ _ h2
theorem extend_ref {p : Nat} {m : Sto} {xs ys : List D} (hp : m[p]? = some (.lst xs)) (hz : xs.length + ys.length ≤ LIM) : callM .extend (.ref p) [.lst ys] m = .ok .non (m.set p (.lst (xs ++ ys))) := by
  show mExtend (.ref p) [.lst ys] m = _
  unfold mExtend
  simp only [hp, top, decide_eq_true hz, if_true]
theorem extend_tup {p : Nat} {m : Sto} {xs ys : List D} (hp : m[p]? = some (.lst xs)) (hz : xs.length + ys.length ≤ LIM) : callM .extend (.ref p) [.tup ys] m = .ok .non (m.set p (.lst (xs ++ ys))) := by
  show mExtend (.ref p) [.tup ys] m = _
  unfold mExtend
  simp only [hp, top, decide_eq_true hz, if_true]
theorem star_ref {p : Nat} {m : Sto} {xs : List D} (hp : m[p]? = some (.lst xs)) : starred (.ref p) m = .ok xs m := by
  have e : top m (.ref p) = .lst xs := by show topR (.ref p) m[p]? = _; rw [hp]; rfl
  unfold starred
  rw [e]
theorem name_len {s : Str} (h : NameOk s) : s.length ≤ 8 := h.le
theorem kindT_len (k : Knd) (h1 : NameOk k.name) (h2 : rowOk k.steps) (h3 : k.grp < 3) : (kindT k).length ≤ 20000 := by
  have l1 := istr_le (i := (k.grp : Nat)) (by omega) (by omega)
  have l2 := stepsT_len k.steps h2
  have l3 := name_len h1
  simp only [kindT, str_len_app, len_l9, len_l10]
  omega
theorem grpT_len (i : Nat) (l : List Bk.Step) (h2 : rowOk l) (h3 : i < 3) : (grpT i l).length ≤ 20000 := by
  have l1 := istr_le (i := (i : Nat)) (by omega) (by omega)
  have l2 := stepsT_len l h2
  simp only [grpT, str_len_app, len_l11]
  omega
section
variable [HasD G (σ 310) (d_text_of σ)] [HasD G (σ 309) (d_text_of_steps σ)] [HasD G (σ 308) (d_text_of_step σ)]
theorem text_of_ok (B : Book) (h : B.Ok) (m : Sto) : Po (callD G (n + 3) (σ 310) [.tup (B.kinds.map Knd.d), .tup (B.groups.map rowD), rowD B.whole] m) fun v m' => v = .str B.text ∧ ∃ o, m' = m ++ [o] := by
  refine po_callD rfl ?_; simp only [d_text_of, f_text_of]; simp only [List.map_cons, List.map_nil, List.length_cons, List.length_nil, List.cons_append, List.nil_append, List.replicate]
  have g3 := h.g3
  have k4 := h.k4
  refine po_seq ?_
  simp [den]
  refine eq_po (lcL_of (e := Knd.d) (f := fun k => .str (kindT k)) (fun k hk => po_eq ?_) (by unfold LIM; omega)) ?_
  · have hg := h.kg k hk
    have l1 := istr_le (i := (k.grp : Nat)) (by omega) (by omega)
    have l2 := stepsT_len k.steps (h.kr k hk)
    have l3 := name_len (h.nm k hk)
    simp [lcTurn, ifT, wipeE, Knd.d, v_fmtS (s := k.name) (by unfold LIM; omega), fmtI (i := (k.grp : Nat)) (by omega) (by omega), str_len_app, text_of_steps_ok k.steps (h.kr k hk)]
    refine ⟨by unfold LIM; omega, by unfold LIM; omega, by unfold LIM; omega, ?_⟩
    rw [v_addS (by simp only [str_len_app, len_l9, len_l10]; unfold LIM; omega)]
    simp [kindT]
  simp [new]
  have hp : (m ++ [Ob.lst (B.kinds.map fun k => D.str (kindT k))])[m.length]? = some (.lst (B.kinds.map fun k => D.str (kindT k))) := by simp
  refine po_seq ?_
  simp [den, preL_ref hp]
  refine eq_po (lcL_enum (e := rowD) (f := fun i l => .str (grpT i l)) (fun i l hl => po_eq ?_) (by unfold LIM; omega)) ?_
  · have hm := List.mem_of_getElem? hl
    have hi : i < B.groups.length := (List.getElem?_eq_some_iff.mp hl).1
    have l1 := istr_le (i := (i : Nat)) (by omega) (by omega)
    have l2 := stepsT_len l (h.gr l hm)
    simp [lcTurn, ifT, wipeE, fmtI (i := (i : Nat)) (by omega) (by omega), str_len_app, text_of_steps_ok l (h.gr l hm)]
    refine ⟨by unfold LIM; omega, ?_⟩
    rw [v_addS (by simp only [str_len_app, len_l11]; unfold LIM; omega)]
    simp [grpT]
  refine eq_po (extend_ref hp (by simp; unfold LIM; omega)) ?_
  simp
  generalize hr : (B.kinds.map fun k => D.str (kindT k)) ++ ((List.range B.groups.length).zip B.groups).map (fun p => D.str (grpT p.1 p.2)) = rows
  have hp2 : (m ++ [Ob.lst rows])[m.length]? = some (.lst rows) := by simp
  have er : rows = (B.kinds.map kindT ++ ((List.range B.groups.length).zip B.groups).map (fun p => grpT p.1 p.2)).map D.str := by rw [← hr]; simp [Function.comp_def]
  have rl : rows.length ≤ 7 := by rw [← hr]; simp; omega
  refine po_seq ?_
  have l2 := stepsT_len B.whole h.wr
  simp [den, star_ref hp2, text_of_steps_ok B.whole h.wr, v_addS (a := "whole") (b := stepsT B.whole) (by rw [len_l12]; unfold LIM; omega)]
  refine ⟨by unfold LIM; omega, ?_⟩
  have ej : rows ++ [D.str (Str.ofString "whole" ++ stepsT B.whole)] = (B.kinds.map kindT ++ ((List.range B.groups.length).zip B.groups).map (fun p => grpT p.1 p.2) ++ [("whole" : Str) ++ stepsT B.whole]).map D.str := by
    rw [er]; simp
  rw [ej]
  refine eq_po (v_join rfl ?_) ?_
  · have sm := sums_le (l := B.kinds.map kindT ++ ((List.range B.groups.length).zip B.groups).map (fun p => grpT p.1 p.2) ++ [("whole" : Str) ++ stepsT B.whole]) (B := 20000) fun x hx => by
      rw [List.mem_append, List.mem_append] at hx
      rcases hx with (hx | hx) | hx
      · obtain ⟨k, hk, rfl⟩ := List.mem_map.mp hx
        exact kindT_len k (h.nm k hk) (h.kr k hk) (by have := h.kg k hk; omega)
      · obtain ⟨p, hp, rfl⟩ := List.mem_map.mp hx
        have hp := List.of_mem_zip (show (p.1, p.2) ∈ (List.range B.groups.length).zip B.groups from hp)
        exact grpT_len p.1 p.2 (h.gr _ hp.2) (by have := List.mem_range.mp hp.1; omega)
      · rw [List.mem_singleton.mp hx, str_len_app, len_l12]; omega
    have hl : (B.kinds.map kindT ++ ((List.range B.groups.length).zip B.groups).map (fun p => grpT p.1 p.2) ++ [("whole" : Str) ++ stepsT B.whole]).length ≤ 8 := by simp; omega
    generalize (B.kinds.map kindT ++ ((List.range B.groups.length).zip B.groups).map (fun p => grpT p.1 p.2) ++ [("whole" : Str) ++ stepsT B.whole]) = z at sm hl ⊢
    have : z.length * 20000 ≤ 8 * 20000 := Nat.mul_le_mul_right _ hl
    rw [len_l8]
    unfold LIM; omega
  · simp [Book.text]
end
section
variable [HasD G (σ 14) (d_Book_init σ)] [HasF G "Book" "words"] [HasF G "Book" "sorts"] [HasF G "Book" "heaps"] [HasF G "Book" "last"] [HasD G (σ 11) (d_check_groups σ)]
  [HasG G "MOST_GROUPS" (.int 3)] [HasD G (σ 10) (d_check_kinds σ)] [HasG G "MOST_KINDS" (.int 4)] [HasD G (σ 12) (d_check_places σ)] [HasD G (σ 13) (d_check_whole σ)] [HasD G (σ 310) (d_text_of σ)]
  [HasD G (σ 8) (d_is_row_of_steps σ)] [HasD G (σ 9) (d_is_kind σ)] [HasG G "KIND_SIZE" (.int 3)] [HasD G (σ 7) (d_wrong_step σ)] [HasG G "MOST_STEPS" (.int 2)] [HasD G (σ 309) (d_text_of_steps σ)]
  [HasD G (σ 4) (d_is_between σ)] [HasD G (σ 5) (d_is_name σ)] [HasG G "LETTERS" (.str "abcdefghijklmnopqrstuvwxyz")] [HasG G "DIGITS" (.str "0123456789")] [HasG G "LONGEST_NAME" (.int 8)] [HasD G (σ 6) (d_is_step σ)]
  [HasG G "PLUS_SIZE" (.int 2)] [HasG G "MOST_PLUS" (.int 9999)] [HasG G "MOST_UNIT" (.int 60)] [HasG G "MOST_FACTOR" (.int 200)] [HasG G "TIMES_SIZE" (.int 5)] [HasG G "WAYS" (.tup [.str "down", .str "up", .str "near down", .str "near up", .str "near even"])]
  [HasD G (σ 308) (d_text_of_step σ)] [HasD G (σ 3) (d_is_integer σ)]
theorem Book_init_ok (B : Book) (h : B.Ok) (p : Nat) (m : Sto) (hp : m[p]? = some (.ins "Book" [])) : Po (callD G (n + 8) (σ 14) [.ref p, .tup (B.kinds.map Knd.d), .tup (B.groups.map rowD), rowD B.whole] m) fun v m' => v = .non ∧ ∃ o1 o2, m' = (m.set p (bookOb B)) ++ [o1, o2] := by
  refine po_callD rfl ?_; simp only [d_Book_init, f_Book_init]; simp only [List.map_cons, List.map_nil, List.length_cons, List.length_nil, List.cons_append, List.nil_append, List.replicate]
  have hl : p < m.length := (List.getElem?_eq_some_iff.mp hp).1
  refine po_seq ?_
  simp [den]
  refine (check_kinds_ok (σ := σ) B h m).mono ?_
  rintro _ m1 ⟨rfl, o1, rfl⟩
  try simp
  refine po_seq ?_; simp [den, check_groups_ok B h]
  refine po_seq ?_; simp [den, check_places_ok B h]
  refine po_seq ?_; simp [den, check_whole_ok B.whole h.wr]
  refine po_seq ?_
  simp [den]
  have hp1 : (m ++ [o1])[p]? = some (.ins "Book" []) := by rw [List.getElem?_append_left hl]; exact hp
  refine eq_po (put_fld hp1 (by decide)) ?_
  refine eq_po (put_fld (at_set hp1) (by simp [putF])) ?_
  have n1 : ¬ (("sorts" : Str) = "heaps") := by decide +kernel
  have n2 : ¬ (("sorts" : Str) = "last") := by decide +kernel
  have n3 : ¬ (("heaps" : Str) = "last") := by decide +kernel
  have n4 : ¬ (("sorts" : Str) = "words") := by decide +kernel
  have n5 : ¬ (("heaps" : Str) = "words") := by decide +kernel
  have n6 : ¬ (("last" : Str) = "words") := by decide +kernel
  refine eq_po (put_fld (at_set (at_set hp1)) (by simp [putF, n1])) ?_
  try simp
  refine po_seq ?_
  simp [den]
  refine (text_of_ok (σ := σ) B h _).mono ?_
  rintro _ m2 ⟨rfl, o2, rfl⟩
  have e1 : (m ++ [o1]).set p (.ins "Book" (putF "last" (rowD B.whole) (putF "heaps" (.tup (B.groups.map rowD)) (putF "sorts" (.tup (B.kinds.map Knd.d)) [])))) = (m.set p (.ins "Book" [("sorts", .tup (B.kinds.map Knd.d)), ("heaps", .tup (B.groups.map rowD)), ("last", rowD B.whole)])) ++ [o1] := by
    rw [List.set_append_left _ _ hl]
    simp [putF, n1, n2, n3]
  rw [e1]
  have hp2 : ((m.set p (.ins "Book" [("sorts", .tup (B.kinds.map Knd.d)), ("heaps", .tup (B.groups.map rowD)), ("last", rowD B.whole)])) ++ [o1] ++ [o2])[p]? = some (.ins "Book" [("sorts", .tup (B.kinds.map Knd.d)), ("heaps", .tup (B.groups.map rowD)), ("last", rowD B.whole)]) := by
    rw [List.append_assoc, List.getElem?_append_left (by simpa using hl)]
    exact at_set hp
  refine eq_po (put_fld hp2 (by simp)) ?_
  try simp
  refine ⟨o1, o2, ?_⟩
  rw [List.set_append_left _ _ (by simpa using hl), List.set_set]
  simp [putF, n4, n5, n6, bookOb]
end
end Tx

namespace Tx
open PySem LC Bk
variable {G : Prog} {σ : Nat → Nat} {n : Nat}
theorem bSorts [HasF G "Book" "sorts"] {p : Nat} {m : Sto} {B : Book} (hp : m[p]? = some (bookOb B)) : opAt (phi G n) "sorts" (.ref p) m = .ok (.tup (B.kinds.map Knd.d)) m := at_fld hp rfl
theorem bHeaps [HasF G "Book" "heaps"] {p : Nat} {m : Sto} {B : Book} (hp : m[p]? = some (bookOb B)) : opAt (phi G n) "heaps" (.ref p) m = .ok (.tup (B.groups.map rowD)) m := at_fld hp rfl
theorem bLast [HasF G "Book" "last"] {p : Nat} {m : Sto} {B : Book} (hp : m[p]? = some (bookOb B)) : opAt (phi G n) "last" (.ref p) m = .ok (rowD B.whole) m := at_fld hp rfl
theorem bWords [HasF G "Book" "words"] {p : Nat} {m : Sto} {B : Book} (hp : m[p]? = some (bookOb B)) : opAt (phi G n) "words" (.ref p) m = .ok (.str B.text) m := at_fld hp rfl
section
variable [HasD G (σ 18) (d_Book_names σ)] [HasF G "Book" "sorts"]
theorem Book_names_ok (B : Book) (p : Nat) (m : Sto) (hp : m[p]? = some (bookOb B)) (h : B.kinds.length ≤ 1000) : callD G (n + 1) (σ 18) [.ref p] m = .ok (.tup ((B.kinds.map (·.name)).map .str)) m := by
  refine po_eq ?_; refine po_callD rfl ?_; simp only [d_Book_names, f_Book_names]; simp only [List.map_cons, List.map_nil, List.length_cons, List.length_nil, List.cons_append, List.nil_append, List.replicate]
  refine po_seq ?_
  simp [den, bSorts hp]
  refine eq_po (lcL_of (e := Knd.d) (f := fun k => .str k.name) (fun k hk => po_eq ?_) (by unfold LIM; omega)) ?_
  · simp [lcTurn, ifT, wipeE, Knd.d]
  · simp [Function.comp_def]
end
theorem kind_mem {B : Book} {x : Str} {k : Knd} (h : B.kind x = some k) : k ∈ B.kinds ∧ k.name = x := by
  unfold Book.kind at h
  exact ⟨List.mem_of_find?_eq_some h, by simpa using List.find?_some h⟩
theorem kind_of {B : Book} (h : B.Ok) {k : Knd} (hk : k ∈ B.kinds) : B.kind k.name = some k := by
  unfold Book.kind
  cases e : B.kinds.find? (fun j => j.name == k.name) with
  | none =>
    have := List.find?_eq_none.mp e k hk
    simp at this
  | some j =>
    have h1 := List.mem_of_find?_eq_some e
    have h2 : j.name = k.name := by simpa using List.find?_some e
    have nd := h.nd
    congr 1
    obtain ⟨a, ha⟩ := List.mem_iff_getElem?.mp h1
    obtain ⟨b, hb⟩ := List.mem_iff_getElem?.mp hk
    have na : (B.kinds.map (·.name))[a]? = some j.name := by rw [List.getElem?_map, ha]; rfl
    have nb : (B.kinds.map (·.name))[b]? = some k.name := by rw [List.getElem?_map, hb]; rfl
    have la : a < (B.kinds.map (·.name)).length := (List.getElem?_eq_some_iff.mp na).1
    have : a = b := (List.getElem?_inj la nd).mp (by rw [na, nb, h2])
    subst this
    rw [ha] at hb
    exact Option.some.inj hb
section
variable [HasD G (σ 37) (d_Book_kind_at σ)] [HasF G "Book" "sorts"]
theorem Book_kind_at_ok (B : Book) (h : B.Ok) (x : Str) (k : Knd) (hk : B.kind x = some k) (p : Nat) (m : Sto) (hp : m[p]? = some (bookOb B)) : callD G (n + 1) (σ 37) [.ref p, .str x] m = .ok k.d m := by
  refine po_eq ?_; refine po_callD rfl ?_; simp only [d_Book_kind_at, f_Book_kind_at]; simp only [List.map_cons, List.map_nil, List.length_cons, List.length_nil, List.cons_append, List.nil_append, List.replicate]
  obtain ⟨hm, rfl⟩ := kind_mem hk
  have okx := NameOk_okS (h.nm k hm)
  refine po_seq ?_
  simp [den, bSorts hp]
  refine forL_po (n := (B.kinds.map Knd.d).length) (fun i env m' => m' = m ∧ (∃ y, env = [some (.ref p), some (.str k.name), y]) ∧ ∀ j, j < i → B.kinds[j]? ≠ some k) rfl ⟨rfl, ⟨_, rfl⟩, fun j hj => absurd hj (Nat.not_lt_zero _)⟩ ?_ ?_
  · rintro i env m' d hi hd ⟨rfl, ⟨y, rfl⟩, no⟩
    rw [List.getElem?_map] at hd
    obtain ⟨q, hq, rfl⟩ := Option.map_eq_some_iff.mp hd
    have hqm : q ∈ B.kinds := List.mem_of_getElem? hq
    have okq := NameOk_okS (h.nm q hqm)
    have e0 : opCmp .Eq (.str q.name) (.str k.name) m' = .ok (.bl (decide (q.name = k.name))) m' := eqS okq okx
    simp
    refine po_seq ?_
    simp [den, Knd.d, e0]
    by_cases hn : q.name = k.name
    · have : q = k := by
        have a := kind_of h hqm
        have b := kind_of h hm
        rw [hn, b] at a
        exact (Option.some.inj a).symm
      subst this
      simp
      refine po_seq ?_
      simp [den, Knd.d]
    · simp [hn]
      intro j hj e
      rcases Nat.lt_succ_iff_lt_or_eq.mp hj with z | z
      · exact no j z e
      · subst z
        rw [hq] at e
        exact hn (by rw [Option.some.inj e])
  · rintro env m' ⟨rfl, ⟨y, rfl⟩, no⟩
    obtain ⟨j, hj⟩ := List.mem_iff_getElem?.mp hm
    exact absurd hj (no j (by rw [List.length_map]; exact (List.getElem?_eq_some_iff.mp hj).1))
end
section
variable [HasD G (σ 38) (d_Book_value σ)] [HasM G "Book" "kind_at" (σ 37)] [HasD G (σ 32) (d_check_number σ)] [HasD G (σ 34) (d_led σ)] [HasD G (σ 37) (d_Book_kind_at σ)] [HasF G "Book" "sorts"]
  [HasD G (σ 4) (d_is_between σ)] [HasD G (σ 33) (d_rounded σ)] [HasD G (σ 3) (d_is_integer σ)]
theorem Book_value_ok (B : Book) (h : B.Ok) (x : Str) (k : Knd) (hk : B.kind x = some k) (a : Int) (ha : 0 ≤ a) (p : Nat) (m : Sto) (hp : m[p]? = some (bookOb B)) : callD G (n + 4) (σ 38) [.ref p, .str x, .int a] m = .ok (.int (Bk.led k.steps a)) m := by
  refine po_eq ?_; refine po_callD rfl ?_; simp only [d_Book_value, f_Book_value]; simp only [List.map_cons, List.map_nil, List.length_cons, List.length_nil, List.cons_append, List.nil_append, List.replicate]
  have hm := kind_mem hk
  have pm : preMe (phi G (n + 3)) "kind_at" (.ref p) m = .ok (σ 37) m := pre_me hp rfl
  refine po_seq ?_; simp [den, pm, Book_kind_at_ok B h x k hk p m hp]
  refine po_seq ?_; simp [den, number_ok a ha]
  refine po_seq ?_; simp [den, Knd.d, led_ok k.steps (h.kr k hm.1).2]
end
section
variable [HasD G (σ 35) (d_is_line σ)] [HasD G (σ 4) (d_is_between σ)] [HasD G (σ 3) (d_is_integer σ)]
theorem is_line_ok (l : Line) (ns : List Str) (h1 : l.name ∈ ns) (h2 : 0 ≤ l.amt) (m : Sto) : callD G (n + 3) (σ 35) [l.d, .tup (ns.map .str)] m = .ok (.bl true) m := by
  refine po_eq ?_; refine po_callD rfl ?_; simp only [d_is_line, f_is_line]; simp only [List.map_cons, List.map_nil, List.length_cons, List.length_nil, List.cons_append, List.nil_append, List.replicate]
  refine po_seq ?_; simp [den, Line.d, from_ok, h2]
  refine po_seq ?_; simp [den, Line.d, in_strs, h1]
end
section
variable [HasD G (σ 36) (d_check_bill σ)] [HasD G (σ 35) (d_is_line σ)] [HasD G (σ 4) (d_is_between σ)] [HasD G (σ 3) (d_is_integer σ)]
theorem check_bill_ok (b : List Line) (ns : List Str) (h1 : ∀ l ∈ b, l.name ∈ ns) (h2 : ∀ l ∈ b, 0 ≤ l.amt) (m : Sto) : callD G (n + 4) (σ 36) [billD b, .tup (ns.map .str)] m = .ok .non m := by
  refine po_eq ?_; refine po_callD rfl ?_; simp only [d_check_bill, f_check_bill]; simp only [List.map_cons, List.map_nil, List.length_cons, List.length_nil, List.cons_append, List.nil_append, List.replicate]
  refine po_seq ?_; simp [den]
  refine po_seq ?_
  simp [den]
  refine forL_po (n := (b.map Line.d).length) (fun i env m' => m' = m ∧ ∃ x y, env = [some (billD b), some (.tup (ns.map .str)), x, y]) enum_len ⟨rfl, _, _, rfl⟩ ?_ ?_
  · rintro i env m' d hi hd ⟨rfl, x, y, rfl⟩
    obtain ⟨v, hv, rfl⟩ := enum_get hd
    rw [List.getElem?_map] at hv
    obtain ⟨l, hl, rfl⟩ := Option.map_eq_some_iff.mp hv
    have hm : l ∈ b := List.mem_of_getElem? hl
    simp
    refine po_seq ?_; simp [den, is_line_ok l ns (h1 l hm) (h2 l hm)]
  · rintro env m' ⟨rfl, x, y, rfl⟩
    simp
end
end Tx

namespace Tx
open PySem LC Bk
variable {G : Prog} {σ : Nat → Nat} {n : Nat}
theorem repM {v : D} {k : Nat} {m : Sto} (h : k ≤ 1000) : opBin true .Mult (.lst [v]) (.int (k : Nat)) m = .ok (.ref m.length) (m ++ [.lst (List.replicate k v)]) := by
  show (match top m (.lst [v]) with
    | .lst a => if decide (-(2 ^ 63) ≤ (k : Int) ∧ (k : Int) < 2 ^ 63 ∧ a.length * (k : Int).toNat ≤ LIM) = true then (if true then new (.lst (List.replicate (k : Int).toNat a).flatten) m else .ok (.lst (List.replicate (k : Int).toNat a).flatten) m) else .bad
    | _ => .bad) = _
  have : (-(2 ^ 63) ≤ (k : Int) ∧ (k : Int) < 2 ^ 63 ∧ [v].length * (k : Int).toNat ≤ LIM) := by
    refine ⟨by omega, by omega, ?_⟩
    simp [LIM]; omega
  simp only [top, decide_eq_true this, if_true]
  simp [new]
theorem repF {v : D} {k : Nat} {m : Sto} (h : k ≤ 1000) : opBin false .Mult (.lst [v]) (.int (k : Nat)) m = .ok (.lst (List.replicate k v)) m := by
  show (match top m (.lst [v]) with
    | .lst a => if decide (-(2 ^ 63) ≤ (k : Int) ∧ (k : Int) < 2 ^ 63 ∧ a.length * (k : Int).toNat ≤ LIM) = true then (if false then new (.lst (List.replicate (k : Int).toNat a).flatten) m else .ok (.lst (List.replicate (k : Int).toNat a).flatten) m) else .bad
    | _ => .bad) = _
  have : (-(2 ^ 63) ≤ (k : Int) ∧ (k : Int) < 2 ^ 63 ∧ [v].length * (k : Int).toNat ≤ LIM) := by
    refine ⟨by omega, by omega, ?_⟩
    simp [LIM]; omega
  simp only [top, decide_eq_true this, if_true]
  simp
theorem repI {v : D} {i : Int} {m : Sto} (h0 : 0 ≤ i) (h : i ≤ 1000) : opBin false .Mult (.lst [v]) (.int i) m = .ok (.lst (List.replicate i.toNat v)) m := by
  obtain ⟨k, rfl⟩ := Int.eq_ofNat_of_zero_le h0
  rw [repF (by omega), Int.toNat_natCast]
theorem get_ref {p j : Nat} {m : Sto} {xs : List D} {d : D} (hp : m[p]? = some (.lst xs)) (hj : xs[j]? = some d) : opGet (.ref p) (.int (j : Nat)) m = .ok d m := by
  have hl : j < xs.length := (List.getElem?_eq_some_iff.mp hj).1
  unfold opGet
  simp only [hp]
  unfold atI
  rw [ixN_of (by omega) (by omega)]
  show oOut xs[(j : Int).toNat]? m = _
  rw [Int.toNat_natCast, hj]; rfl
theorem setN_ref {p j : Nat} {m : Sto} {xs : List D} {v : D} (hp : m[p]? = some (.lst xs)) (hj : j < xs.length) : opSet (.ref p) (.int (j : Nat)) v m = .ok () (m.set p (.lst (xs.set j v))) := by
  rw [set_ref hp (ixN_of (by omega) (by omega)), Int.toNat_natCast]
@[simp] theorem v_augI {i j : Int} {m : Sto} : opAug .Add (.int i) (.int j) m = .ok (.int (i + j)) m := rfl
@[simp] theorem v_augSub {i j : Int} {m : Sto} : opAug .Sub (.int i) (.int j) m = .ok (.int (i - j)) m := rfl
theorem sum_snoc (B : Book) (b : List Line) (l : Line) (g : Nat) : B.sum (b ++ [l]) g = B.sum b g + B.lineTo g l := by
  simp [Book.sum]
theorem tyTup_ref {p : Nat} {m : Sto} {xs : List D} {mu : Bool} (hp : m[p]? = some (.lst xs)) : callT mu .tuple [.ref p] m = .ok (.tup xs) m := by
  have e : top m (.ref p) = .lst xs := by show topR (.ref p) m[p]? = _; rw [hp]; rfl
  show (match top m (.ref p) with | .lst xs => Out.ok (D.tup xs) m | .tup xs => .ok (.tup xs) m | _ => .bad) = _
  rw [e]
theorem at_names [HasP G "Book" "names" (σ 18)] [HasD G (σ 18) (d_Book_names σ)] [HasF G "Book" "sorts"] (B : Book) (p : Nat) (m : Sto) (hp : m[p]? = some (bookOb B)) (h : B.kinds.length ≤ 1000) : opAt (phi G (n + 1)) "names" (.ref p) m = .ok (.tup ((B.kinds.map (·.name)).map .str)) m :=
  (at_prop hp).trans (Book_names_ok B p m hp h)
theorem line_name {B : Book} {b : List Line} (hb : BillOk B b) : ∀ l ∈ b, l.name ∈ B.kinds.map (·.name) := fun l hl => by
  obtain ⟨k, hk, e⟩ := hb.nm l hl
  exact List.mem_map.mpr ⟨k, hk, e⟩
section
variable [HasD G (σ 39) (d_Book_sums σ)] [HasM G "Book" "kind_at" (σ 37)] [HasF G "Book" "heaps"] [HasP G "Book" "names" (σ 18)] [HasD G (σ 36) (d_check_bill σ)] [HasD G (σ 34) (d_led σ)]
  [HasD G (σ 37) (d_Book_kind_at σ)] [HasF G "Book" "sorts"] [HasD G (σ 18) (d_Book_names σ)] [HasD G (σ 35) (d_is_line σ)] [HasD G (σ 33) (d_rounded σ)] [HasD G (σ 4) (d_is_between σ)]
  [HasD G (σ 3) (d_is_integer σ)]
theorem Book_sums_ok (B : Book) (h : B.Ok) (b : List Line) (hb : BillOk B b) (p : Nat) (m : Sto) (hp : m[p]? = some (bookOb B)) :
    Po (callD G (n + 5) (σ 39) [.ref p, billD b] m) fun v m' => v = .tup (dints (B.sums b)) ∧ ∃ o, m' = m ++ [o] := by
  refine po_callD rfl ?_; simp only [d_Book_sums, f_Book_sums]; simp only [List.map_cons, List.map_nil, List.length_cons, List.length_nil, List.cons_append, List.nil_append, List.replicate]
  have k4 := h.k4
  have g3 := h.g3
  have hl : p < m.length := (List.getElem?_eq_some_iff.mp hp).1
  refine po_seq ?_
  simp [den, at_names (n := n + 3) (σ := σ) B p m hp (by omega)]
  have ck := check_bill_ok (G := G) (σ := σ) (n := n) b (B.kinds.map (·.name)) (line_name hb) hb.am m
  rw [List.map_map] at ck
  simp [ck]
  refine po_seq ?_
  simp [den, bHeaps hp, repM (k := B.groups.length) (show B.groups.length ≤ 1000 by omega)]
  have s0 : List.replicate B.groups.length (D.int 0) = dints ((List.range B.groups.length).map (B.sum [])) := by
    simp [dints, Book.sum, List.map_const', Function.comp_def]
  rw [s0]
  refine po_seq ?_
  simp [den]
  refine forL_po (n := (b.map Line.d).length) (fun i env m' => m' = m ++ [.lst (dints ((List.range B.groups.length).map (B.sum (b.take i))))] ∧ ∃ x y z, env = [some (.ref p), some (billD b), some (.ref m.length), x, y, z]) rfl ⟨rfl, _, _, _, rfl⟩ ?_ ?_
  · rintro i env m' d hi hd ⟨rfl, x, y, z, rfl⟩
    rw [List.getElem?_map] at hd
    obtain ⟨l, hlb, rfl⟩ := Option.map_eq_some_iff.mp hd
    have hm : l ∈ b := List.mem_of_getElem? hlb
    obtain ⟨k, hk, hkn⟩ := hb.nm l hm
    have kk : B.kind l.name = some k := by rw [← hkn]; exact kind_of h hk
    have hg := h.kg k hk
    generalize hS : (List.range B.groups.length).map (B.sum (b.take i)) = S
    have hSl : S.length = B.groups.length := by rw [← hS]; simp
    have hp1 : (m ++ [Ob.lst (dints S)])[p]? = some (bookOb B) := by rw [List.getElem?_append_left hl]; exact hp
    have hq : (m ++ [Ob.lst (dints S)])[m.length]? = some (.lst (dints S)) := by simp
    have pm : preMe (phi G (n + 4)) "kind_at" (.ref p) (m ++ [Ob.lst (dints S)]) = .ok (σ 37) (m ++ [Ob.lst (dints S)]) := pre_me hp1 rfl
    simp [Line.d]
    refine po_seq ?_
    simp [den, Line.d, pm, Book_kind_at_ok B h l.name k kk p _ hp1]
    refine po_seq ?_
    have g0 : (dints S)[k.grp]? = some (.int (S.getD k.grp 0)) := by
      have : k.grp < S.length := by omega
      simp [dints, List.getD, List.getElem?_map, List.getElem?_eq_getElem this]
    simp [den, Knd.d, get_ref hq g0, led_ok k.steps (h.kr k hk).2]
    refine eq_po (setN_ref hq (by simp [dints]; omega)) ?_
    simp
    have e1 : (dints S).set k.grp (D.int (S.getD k.grp 0 + Bk.led k.steps l.amt)) = dints (S.set k.grp (S.getD k.grp 0 + Bk.led k.steps l.amt)) := by simp [dints, List.map_set]
    have e2 : S.set k.grp (S.getD k.grp 0 + Bk.led k.steps l.amt) = (List.range B.groups.length).map (B.sum (b.take (i + 1))) := by
      refine List.ext_getElem (by simp [hSl]) fun j h1 h2 => ?_
      rw [List.length_set] at h1
      rw [List.getElem_set, List.getElem_map, List.getElem_range, List.take_add_one, hlb]
      simp only [Option.toList_some]
      rw [sum_snoc]
      have lt : B.lineTo j l = if k.grp = j then Bk.led k.steps l.amt else 0 := by unfold Book.lineTo; rw [kk]
      have sj : ∀ j (hj : j < S.length), S[j] = B.sum (b.take i) j := fun j hj => by subst hS; simp
      rw [lt]
      split
      · rename_i e
        subst e
        have : k.grp < S.length := by omega
        simp only [List.getD, List.getElem?_eq_getElem this, Option.getD_some]
        rw [sj _ this]
      · rw [sj j h1]; omega
    simp only [← List.getD_eq_getElem?_getD]
    rw [e1, e2]
  · rintro env m' ⟨rfl, x, y, z, rfl⟩
    refine po_seq ?_
    have hq : (m ++ [Ob.lst (dints ((List.range B.groups.length).map (B.sum (b.take (b.map Line.d).length))))])[m.length]? = some (.lst (dints ((List.range B.groups.length).map (B.sum (b.take (b.map Line.d).length))))) := by simp
    simp only [List.length_map, List.take_length] at hq ⊢
    simp [den, tyTup_ref hq]
    rfl
end
theorem bSum_ints {P : Phi} {m : Sto} {xs : List Int} : callB P .sum [.lst (dints xs)] m = .ok (.int xs.sum) m := by
  show (match top m (.lst (dints xs)) with | .lst xs => (match asInts xs with | some ns => Out.ok (D.int ns.sum) m | _ => .bad) | _ => .bad) = _
  simp only [top, asInts_d]
section
variable [HasD G (σ 41) (d_Book_ask_of_sums σ)] [HasF G "Book" "last"] [HasF G "Book" "heaps"] [HasD G (σ 34) (d_led σ)] [HasD G (σ 33) (d_rounded σ)]
theorem Book_ask_of_sums_ok (B : Book) (h : B.Ok) (s : List Int) (p : Nat) (m : Sto) (hp : m[p]? = some (bookOb B)) : callD G (n + 3) (σ 41) [.ref p, .tup (dints s)] m = .ok (.int (B.askS s)) m := by
  refine po_eq ?_; refine po_callD rfl ?_; simp only [d_Book_ask_of_sums, f_Book_ask_of_sums]; simp only [List.map_cons, List.map_nil, List.length_cons, List.length_nil, List.cons_append, List.nil_append, List.replicate]
  have g3 := h.g3
  refine po_seq ?_
  simp [den, bHeaps hp, bLast hp]
  have ez : ((B.groups.map rowD).zip (dints s)).map (fun p => D.tup [p.1, p.2]) = (B.groups.zip s).map fun p => .tup [rowD p.1, .int p.2] := by
    unfold dints
    rw [List.zip_map, List.map_map]
    rfl
  have ez2 : ((B.groups.map rowD).zip (dints s)).map (fun x => D.tup [x.fst, x.snd]) = (B.groups.zip s).map fun p => .tup [rowD p.1, .int p.2] := ez
  rw [ez2]
  refine eq_po (lcL_of (e := fun p : List Bk.Step × Int => .tup [rowD p.1, .int p.2]) (f := fun p => .int (Bk.led p.1 p.2)) (fun p hp2 => po_eq ?_) (by simp; unfold LIM; omega)) ?_
  · have hg := (List.of_mem_zip (show (p.1, p.2) ∈ B.groups.zip s from hp2)).1
    simp [lcTurn, ifT, wipeE, den, led_ok p.1 (h.gr p.1 hg).2]
  · have e3 : ((B.groups.zip s).map fun p => D.int (Bk.led p.1 p.2)) = dints ((B.groups.zip s).map fun p => Bk.led p.1 p.2) := by simp [dints]
    rw [e3, bSum_ints]
    simp [led_ok B.whole h.wr.2, Book.askS]
end
section
variable [HasD G (σ 40) (d_Book_ask σ)] [HasM G "Book" "ask_of_sums" (σ 41)] [HasM G "Book" "sums" (σ 39)] [HasD G (σ 41) (d_Book_ask_of_sums σ)] [HasF G "Book" "last"] [HasF G "Book" "heaps"]
  [HasD G (σ 39) (d_Book_sums σ)] [HasM G "Book" "kind_at" (σ 37)] [HasP G "Book" "names" (σ 18)] [HasD G (σ 34) (d_led σ)] [HasD G (σ 36) (d_check_bill σ)] [HasD G (σ 37) (d_Book_kind_at σ)]
  [HasF G "Book" "sorts"] [HasD G (σ 18) (d_Book_names σ)] [HasD G (σ 33) (d_rounded σ)] [HasD G (σ 35) (d_is_line σ)] [HasD G (σ 4) (d_is_between σ)] [HasD G (σ 3) (d_is_integer σ)]
theorem Book_ask_ok (B : Book) (h : B.Ok) (b : List Line) (hb : BillOk B b) (p : Nat) (m : Sto) (hp : m[p]? = some (bookOb B)) :
    Po (callD G (n + 6) (σ 40) [.ref p, billD b] m) fun v m' => v = .int (B.ask b) ∧ ∃ o, m' = m ++ [o] := by
  refine po_callD rfl ?_; simp only [d_Book_ask, f_Book_ask]; simp only [List.map_cons, List.map_nil, List.length_cons, List.length_nil, List.cons_append, List.nil_append, List.replicate]
  refine po_seq ?_
  have p1 : preMe (phi G (n + 5)) "ask_of_sums" (.ref p) m = .ok (σ 41) m := pre_me hp rfl
  have p2 : preMe (phi G (n + 5)) "sums" (.ref p) m = .ok (σ 39) m := pre_me hp rfl
  simp [den, p1, p2]
  refine (Book_sums_ok (σ := σ) B h b hb p m hp).mono ?_
  rintro _ m1 ⟨rfl, o, rfl⟩
  have hl : p < m.length := (List.getElem?_eq_some_iff.mp hp).1
  have hp1 : (m ++ [o])[p]? = some (bookOb B) := by rw [List.getElem?_append_left hl]; exact hp
  simp [Book_ask_of_sums_ok B h (B.sums b) p _ hp1]
  rfl
end
end Tx

/-! # LsV: drawn steps -/
namespace Tx
open PySem LC Bk
variable {G : Prog} {σ : Nat → Nat} {n : Nat}
theorem pick_of {xs : List D} {t : Int} (h0 : 0 ≤ t) (h1 : t < xs.length) : ∃ d, atI xs t = some d ∧ d ∈ xs := by
  have : t.toNat < xs.length := by omega
  refine ⟨xs[t.toNat], ?_, List.getElem_mem _⟩
  unfold atI
  rw [ixN_of h0 h1]
  show xs[t.toNat]? = _
  simp [this]
section
variable [HasD G (σ 23) (d_L_step σ)] [HasD G (σ 22) (d_L_take σ)]
theorem L_step_ok (p : Nat) (m : Sto) (hp : Purse p m) : Po (callD G (n + 2) (σ 23) [.ref p] m) fun v m' => ∃ s : Bk.Step, v = s.d ∧ s.ok ∧ Drawn p m m' := by
  refine po_callD rfl ?_; simp only [d_L_step, f_L_step]; simp only [List.map_cons, List.map_nil, List.length_cons, List.length_nil, List.cons_append, List.nil_append, List.replicate]
  refine po_seq ?_
  simp [den]
  refine (L_take_ok (σ := σ) p 6 (by omega) (by omega) m hp).mono ?_
  rintro _ m1 ⟨t, rfl, t0, t1, hd1⟩
  simp
  split
  · refine po_seq ?_
    simp [den]
    refine (L_take_ok (σ := σ) p 19999 (by omega) (by omega) m1 hd1.pu).mono ?_
    rintro _ m2 ⟨c, rfl, c0, c1, hd2⟩
    simp
    refine po_seq ?_
    simp [den]
    refine (L_take_ok (σ := σ) p 8 (by omega) (by omega) m2 hd2.pu).mono ?_
    rintro _ m3 ⟨k, rfl, k0, k1, hd3⟩
    obtain ⟨d, e, hm⟩ := pick_of (xs := [D.int 0, D.int 1, D.int (-1), D.int 30, D.int (-250), D.int 9999, D.int (-9999), D.int (c - 9999)]) k0 (by simpa using k1)
    have : ∃ z : Int, d = .int z ∧ -9999 ≤ z ∧ z ≤ 9999 := by
      simp only [List.mem_cons, List.not_mem_nil, or_false] at hm
      rcases hm with rfl | rfl | rfl | rfl | rfl | rfl | rfl | rfl <;> exact ⟨_, rfl, by omega, by omega⟩
    obtain ⟨z, rfl, z0, z1⟩ := this
    simp [e]
    exact ⟨.plus z, rfl, ⟨z0, z1⟩, (hd1.trans hd2).trans hd3⟩
  · refine po_seq ?_
    simp [den]
    refine (L_take_ok (σ := σ) p 4 (by omega) (by omega) m1 hd1.pu).mono ?_
    rintro _ m2 ⟨c, rfl, c0, c1, hd2⟩
    obtain ⟨d, e, hm⟩ := pick_of (xs := [D.int 6, D.int 6, D.int 20, D.int 200]) c0 (by simpa using c1)
    have : ∃ z : Int, d = .int z ∧ 1 ≤ z ∧ z ≤ 200 := by
      simp only [List.mem_cons, List.not_mem_nil, or_false] at hm
      rcases hm with rfl | rfl | rfl | rfl <;> exact ⟨_, rfl, by omega, by omega⟩
    obtain ⟨z, rfl, z0, z1⟩ := this
    simp [e]
    refine po_seq ?_
    simp [den]
    refine (L_take_ok (σ := σ) p z (by omega) (by omega) m2 hd2.pu).mono ?_
    rintro _ m3 ⟨a, rfl, a0, a1, hd3⟩
    simp
    refine (L_take_ok (σ := σ) p z (by omega) (by omega) m3 hd3.pu).mono ?_
    rintro _ m4 ⟨b, rfl, b0, b1, hd4⟩
    simp
    refine po_seq ?_
    simp [den]
    refine (L_take_ok (σ := σ) p 5 (by omega) (by omega) m4 hd4.pu).mono ?_
    rintro _ m5 ⟨k, rfl, k0, k1, hd5⟩
    obtain ⟨d, e2, hm⟩ := pick_of (xs := [D.str "down", D.str "up", D.str "near down", D.str "near up", D.str "near even"]) k0 (by simpa using k1)
    have : ∃ w : Way, d = .str w.s := by
      simp only [List.mem_cons, List.not_mem_nil, or_false] at hm
      rcases hm with rfl | rfl | rfl | rfl | rfl
      · exact ⟨.down, rfl⟩
      · exact ⟨.up, rfl⟩
      · exact ⟨.ndown, rfl⟩
      · exact ⟨.nup, rfl⟩
      · exact ⟨.neven, rfl⟩
    obtain ⟨w, rfl⟩ := this
    simp [e2]
    refine po_seq ?_
    simp [den]
    refine (L_take_ok (σ := σ) p 60 (by omega) (by omega) m5 hd5.pu).mono ?_
    rintro _ m6 ⟨u, rfl, u0, u1, hd6⟩
    simp
    refine (L_take_ok (σ := σ) p 5 (by omega) (by omega) m6 hd6.pu).mono ?_
    rintro _ m7 ⟨j, rfl, j0, j1, hd7⟩
    obtain ⟨d, e3, hm⟩ := pick_of (xs := [D.int 1, D.int 1, D.int 2, D.int 5, D.int (1 + u)]) j0 (by simpa using j1)
    have : ∃ q : Int, d = .int q ∧ 1 ≤ q ∧ q ≤ 60 := by
      simp only [List.mem_cons, List.not_mem_nil, or_false] at hm
      rcases hm with rfl | rfl | rfl | rfl | rfl <;> exact ⟨_, rfl, by omega, by omega⟩
    obtain ⟨q, rfl, q0, q1⟩ := this
    simp [e3]
    refine po_seq ?_
    simp [den]
    exact ⟨.times (1 + a) (1 + b) w q, rfl, ⟨by omega, by omega, by omega, by omega, q0, q1⟩, (((((hd1.trans hd2).trans hd3).trans hd4).trans hd5).trans hd6).trans hd7⟩
end
section
variable [HasD G (σ 24) (d_L_steps σ)] [HasD G (σ 23) (d_L_step σ)] [HasD G (σ 22) (d_L_take σ)]
theorem L_steps_ok (p : Nat) (m : Sto) (hp : Purse p m) : Po (callD G (n + 3) (σ 24) [.ref p] m) fun v m' => ∃ l : List Bk.Step, v = rowD l ∧ rowOk l ∧ Drawn p m m' := by
  refine po_callD rfl ?_; simp only [d_L_steps, f_L_steps]; simp only [List.map_cons, List.map_nil, List.length_cons, List.length_nil, List.cons_append, List.nil_append, List.replicate]
  refine po_seq ?_
  simp [den]
  refine (L_take_ok (σ := σ) p 4 (by omega) (by omega) m hp).mono ?_
  rintro _ m1 ⟨t, rfl, t0, t1, hd1⟩
  obtain ⟨d, e, hm⟩ := pick_of (xs := [D.int 0, D.int 1, D.int 1, D.int 2]) t0 (by simpa using t1)
  have : ∃ z : Int, d = .int z ∧ 0 ≤ z ∧ z ≤ 2 := by
    simp only [List.mem_cons, List.not_mem_nil, or_false] at hm
    rcases hm with rfl | rfl | rfl | rfl <;> exact ⟨_, rfl, by omega, by omega⟩
  obtain ⟨z, rfl, z0, z1⟩ := this
  simp [e]
  refine ⟨small62I (by omega) (by omega), ?_⟩
  refine (lcDraw (e := Step.d) (P := Step.ok) hd1.pu (by rw [rangeL_len]; unfold LIM; omega) ?_).mono ?_
  · intro d hd m2 hw
    simp [lcTurn, ifT, wipeE]
    refine (L_step_ok (σ := σ) p m2 hw.pu).mono ?_
    rintro _ m3 ⟨s, rfl, ok, hw3⟩
    exact ⟨s, rfl, ok, hw3⟩
  · rintro _ m2 ⟨xs, rfl, hl, ok, hw⟩
    rw [rangeL_len] at hl
    exact ⟨xs, rfl, ⟨by omega, ok⟩, hd1.trans hw⟩
end
end Tx

namespace Tx
open PySem LC Bk
variable {G : Prog} {σ : Nat → Nat} {n : Nat}
section
variable [HasD G (σ 14) (d_Book_init σ)] [HasF G "Book" "words"] [HasF G "Book" "sorts"] [HasF G "Book" "heaps"] [HasF G "Book" "last"] [HasD G (σ 11) (d_check_groups σ)]
  [HasG G "MOST_GROUPS" (.int 3)] [HasD G (σ 10) (d_check_kinds σ)] [HasG G "MOST_KINDS" (.int 4)] [HasD G (σ 12) (d_check_places σ)] [HasD G (σ 13) (d_check_whole σ)] [HasD G (σ 310) (d_text_of σ)]
  [HasD G (σ 8) (d_is_row_of_steps σ)] [HasD G (σ 9) (d_is_kind σ)] [HasG G "KIND_SIZE" (.int 3)] [HasD G (σ 7) (d_wrong_step σ)] [HasG G "MOST_STEPS" (.int 2)] [HasD G (σ 309) (d_text_of_steps σ)]
  [HasD G (σ 4) (d_is_between σ)] [HasD G (σ 5) (d_is_name σ)] [HasG G "LETTERS" (.str "abcdefghijklmnopqrstuvwxyz")] [HasG G "DIGITS" (.str "0123456789")] [HasG G "LONGEST_NAME" (.int 8)] [HasD G (σ 6) (d_is_step σ)]
  [HasG G "PLUS_SIZE" (.int 2)] [HasG G "MOST_PLUS" (.int 9999)] [HasG G "MOST_UNIT" (.int 60)] [HasG G "MOST_FACTOR" (.int 200)] [HasG G "TIMES_SIZE" (.int 5)] [HasG G "WAYS" (.tup [.str "down", .str "up", .str "near down", .str "near up", .str "near even"])]
  [HasD G (σ 308) (d_text_of_step σ)] [HasD G (σ 3) (d_is_integer σ)] [HasI G "Book" (σ 14)]
include σ
theorem mkBook_ok (B : Book) (h : B.Ok) (m : Sto) :
    Po (opMk (phi G (n + 8)) "Book" [.tup (B.kinds.map Knd.d), .tup (B.groups.map rowD), rowD B.whole] m) fun v m' => v = .ref m.length ∧ m'[m.length]? = some (bookOb B) ∧ Kept m m' := by
  refine mk_new (G := G) (k := (σ 14)) ?_
  refine (Book_init_ok (G := G) (σ := σ) (n := n) B h m.length (m ++ [.ins "Book" []]) (by simp)).mono ?_
  rintro _ m5 ⟨rfl, o1, o2, rfl⟩
  have e : (m ++ [Ob.ins "Book" []]).set m.length (bookOb B) = m ++ [bookOb B] := by simp
  rw [e]
  exact ⟨rfl, rfl, by simp, Kept.new.trans Kept.new⟩
end
theorem big_of {V : Int} (h : -(10 ^ 40) ≤ V ∧ V ≤ 10 ^ 40) : big V := by unfold big; omega
theorem nameX : NameOk "x" := ⟨by decide +kernel, by decide +kernel, by
  intro c hc
  have : ("x" : Str).cps[0]? = some 120 := by decide +kernel
  rw [this] at hc; cases hc; unfold letter; omega, by
  intro c hc
  have : ("x" : Str).cps.toList = [120] := by decide +kernel
  rw [this] at hc
  rw [List.mem_singleton.mp hc]; unfold letter; omega⟩
theorem nameY : NameOk "y" := ⟨by decide +kernel, by decide +kernel, by
  intro c hc
  have : ("y" : Str).cps[0]? = some 121 := by decide +kernel
  rw [this] at hc; cases hc; unfold letter; omega, by
  intro c hc
  have : ("y" : Str).cps.toList = [121] := by decide +kernel
  rw [this] at hc
  rw [List.mem_singleton.mp hc]; unfold letter; omega⟩
theorem rowOk_nil : rowOk [] := ⟨by simp, by simp⟩
/-- reprs of two rows of ints, compared as unlike: they are the same -/
theorem repr_ne_ints {P : Phi} {m : Sto} {xs : List Int} {F : D → Sto → Prop} (hx : ∀ x ∈ xs, big x) (hl : xs.length ≤ 1000) (h : F (.bl false) m) :
    Po (callB P .repr [.lst (dints xs)] m) fun u m1 => Po (callB P .repr [.lst (dints xs)] m1) fun w m2 => Po (opCmp .NotEq u w m2) F := by
  have e : (top m (.lst (dints xs))).py = some (.list (xs.map .int)) := by simp [top, pys_ints]
  have ht : tel (.list (xs.map .int)) = true := by simp only [tel]; exact tels_ints hx
  have hd : (PyData.list (xs.map .int)).depth ≤ 64 := by simp only [PyData.depth]; have := depths_ints xs; omega
  have hw : wt (.list (xs.map .int)) ≤ LIM := by simp only [wt, wts_ints]; unfold LIM; omega
  have hr : rs (.list (xs.map .int)) = true := by simp only [rs, rss_ints]
  rw [repr_ok e ht hd hw, v_ok, repr_ok e ht hd hw, v_ok, neS (okS_shown _ hr) (okS_shown _ hr), v_ok]
  simpa using h
theorem srcRef {q : Nat} {m : Sto} {xs : List D} (h : m[q]? = some (.lst xs)) : srcV (.ref q) m = .ok (.live q) m := by
  unfold srcV
  simp only [h]
theorem led_app (a b : List Bk.Step) (v : Int) : Bk.led (a ++ b) v = Bk.led b (Bk.led a v) := by simp [Bk.led, List.foldl_append]
end Tx

/-! # LwV: the laws' own rounding, led steps, worths -/
namespace Tx
open PySem LC Bk
variable {G : Prog} {σ : Nat → Nat} {n : Nat}
theorem cut_from {α : Type} {xs : List α} {s : Nat} : cut xs (some (s : Int)) none = xs.drop s := by
  unfold cut
  have h : sIx xs.length 0 (some (s : Int)) = min s xs.length := by
    show (if (s : Int) < 0 then ((s : Int) + (xs.length : Int)).toNat else min (s : Int).toNat xs.length) = _
    rw [if_neg (by omega), Int.toNat_natCast]
  rw [h]
  show (xs.drop (min s xs.length)).take (xs.length - min s xs.length) = _
  rw [List.take_of_length_le (by simp)]
  by_cases q : s ≤ xs.length
  · rw [Nat.min_eq_left q]
  · rw [Nat.min_eq_right (by omega), List.drop_of_length_le (by omega), List.drop_of_length_le (by omega)]
section
variable [HasD G (σ 43) (d_L_whole_part σ)]
theorem L_whole_part_ok (t b : Int) (w : Way) (hb : 0 < b) (hb2 : b < 2 ^ 60) (m : Sto) : callD G (n + 1) (σ 43) [.int t, .int b, .str w.s] m = .ok (.int (rnd t b w)) m := by
  refine po_eq ?_; refine po_callD rfl ?_; simp only [d_L_whole_part, f_L_whole_part]; simp only [List.map_cons, List.map_nil, List.length_cons, List.length_nil, List.cons_append, List.nil_append, List.replicate]
  have d1 := divOk_of hb (Int.lt_trans hb2 (by decide +kernel : (2 : Int) ^ 60 < 2 ^ 8000))
  have m0 := Int.emod_nonneg t (show b ≠ 0 by omega)
  have m1 := Int.emod_lt_of_pos t hb
  have er : t - t / b * b = t % b := by have := Int.emod_add_mul_ediv t b; rw [Int.mul_comm] at this; omega
  refine po_seq ?_; simp [den, d1]
  refine po_seq ?_; simp [den, mulOk_r (i := t / b) (j := b) (by omega) (by omega)]
  rw [er]
  have wd : (w.s = ("down" : Str)) = (w = .down) := by cases w <;> simp [Way.s, ofS_inj]
  have wu : (w.s = ("up" : Str)) = (w = .up) := by cases w <;> simp [Way.s, ofS_inj]
  have wn : (w.s = ("near down" : Str)) = (w = .ndown) := by cases w <;> simp [Way.s, ofS_inj]
  have wp : (w.s = ("near up" : Str)) = (w = .nup) := by cases w <;> simp [Way.s, ofS_inj]
  have ml : mulOk 2 (t % b) = true := mulOk_l (by omega) (by omega)
  unfold rnd
  refine po_seq ?_
  simp [den, eqS, way_ok, wd]
  by_cases h2 : t % b = 0
  · simp [h2]
    refine po_seq ?_; simp [den]
  · simp [h2]
    by_cases h1 : w = .down
    · simp [h1]
      refine po_seq ?_; simp [den]
    · simp [h1]
      refine po_seq ?_
      simp [den, eqS, way_ok, wu, ml]
      by_cases h3 : w = .up
      · simp [h3]
        refine po_seq ?_; simp [den]
      · simp [h3]
        by_cases h4 : b < 2 * (t % b)
        · have : ¬ 2 * (t % b) = b := by omega
          have : ¬ 2 * (t % b) < b := by omega
          simp [*]
          refine po_seq ?_; simp [den]
        · simp [h4]
          refine po_seq ?_
          simp [den, eqS, way_ok, wn, ml]
          by_cases h5 : 2 * (t % b) < b
          · have : ¬ 2 * (t % b) = b := by omega
            simp [*]
            refine po_seq ?_; simp [den]
          · have : 2 * (t % b) = b := by omega
            simp [h5, this]
            by_cases h6 : w = .ndown
            · simp [h6]
              refine po_seq ?_; simp [den]
            · simp [h6]
              refine po_seq ?_
              simp [den, eqS, way_ok, wp]
              cases w <;> simp_all
end
section
variable [HasD G (σ 44) (d_L_led σ)] [HasD G (σ 43) (d_L_whole_part σ)]
theorem L_led_ok (l : List Bk.Step) (hl : ∀ s ∈ l, s.ok) (v : Int) (m : Sto) : callD G (n + 2) (σ 44) [rowD l, .int v] m = .ok (.int (Bk.led l v)) m := by
  refine po_eq ?_; refine po_callD rfl ?_; simp only [d_L_led, f_L_led]; simp only [List.map_cons, List.map_nil, List.length_cons, List.length_nil, List.cons_append, List.nil_append, List.replicate]
  refine po_seq ?_
  simp [den]
  refine po_seq ?_
  simp [den]
  refine forL_po (n := (dsteps l).length) (fun i env m' => m' = m ∧ ∃ x, env = [some (rowD l), some (.int v), some (.int (Bk.led (l.take i) v)), x]) rfl ⟨rfl, _, rfl⟩ ?_ ?_
  · rintro i env m' d hi hd ⟨rfl, x, rfl⟩
    unfold dsteps at hd
    rw [List.getElem?_map] at hd
    obtain ⟨s, hs, rfl⟩ := Option.map_eq_some_iff.mp hd
    have hm : s ∈ l := List.mem_of_getElem? hs
    have ok := hl s hm
    have tk : Bk.led (l.take (i + 1)) v = led1 (Bk.led (l.take i) v) s := by
      rw [List.take_add_one, hs]
      simp [Bk.led]
    simp
    rw [tk]
    generalize Bk.led (l.take i) v = u
    cases s with
    | plus c =>
      refine po_seq ?_
      simp [den, Step.d, eqS]
      refine po_seq ?_
      simp [den, led1]
    | times a b w q =>
      obtain ⟨h1, h2, h3, h4, h5, h6⟩ := ok
      have hb : 0 < b * q ∧ b * q ≤ 200 * 60 := ⟨Int.mul_pos (by omega) (by omega), Int.mul_le_mul h4 h6 (by omega) (by omega)⟩
      refine po_seq ?_
      simp [den, Step.d, eqS, ofS_inj]
      refine po_seq ?_
      simp [den, mulOk_r (i := u) (j := a) (by omega) (by omega), mulOk_r (i := b) (j := q) (by omega) (by omega), mulOk_r (j := q) (by omega) (by omega), L_whole_part_ok _ (b * q) w hb.1 (by omega), led1]
  · rintro env m' ⟨rfl, x, rfl⟩
    refine po_seq ?_; simp [den]
    rw [List.take_of_length_le (by simp [dsteps])]
end
section
variable [HasD G (σ 45) (d_L_worths σ)] [HasD G (σ 22) (d_L_take σ)]
theorem L_worths_ok (p : Nat) (m : Sto) (hp : Purse p m) :
    Po (callD G (n + 2) (σ 45) [.ref p] m) fun v m' => ∃ xs : List Int, v = .lst (dints xs) ∧ xs.length ≤ 12 ∧ (∀ x ∈ xs, 0 ≤ x ∧ x ≤ 10 ^ 30) ∧ Drawn p m m' := by
  refine po_callD rfl ?_; simp only [d_L_worths, f_L_worths]; simp only [List.map_cons, List.map_nil, List.length_cons, List.length_nil, List.cons_append, List.nil_append, List.replicate]
  refine po_seq ?_
  simp [den]
  refine (L_take_ok (σ := σ) p 9973 (by omega) (by omega) m hp).mono ?_
  rintro _ m1 ⟨x, rfl, x0, x1, hd1⟩
  simp
  refine (L_take_ok (σ := σ) p 9973 (by omega) (by omega) m1 hd1.pu).mono ?_
  rintro _ m2 ⟨y, rfl, y0, y1, hd2⟩
  simp
  refine po_seq ?_
  simp [den]
  refine ⟨rfl, ?_⟩
  refine (lcDraw (e := D.int) (P := fun x => 0 ≤ x ∧ x ≤ 20011) hd2.pu (by rw [rangeL_len]; unfold LIM; omega) ?_).mono ?_
  · intro d hd m3 hw
    obtain ⟨k, hk, rfl⟩ := List.mem_map.mp hd
    have hk := List.mem_range.mp hk
    simp [lcTurn, ifT, wipeE]
    obtain ⟨d, e, hm⟩ := pick_of (xs := [D.int 50, D.int 50, D.int 999, D.int 999, D.int 20011, D.int 20011]) (t := (k : Int)) (by omega) (by simp; omega)
    have : ∃ z : Int, d = .int z ∧ 1 ≤ z ∧ z ≤ 20011 := by
      simp only [List.mem_cons, List.not_mem_nil, or_false] at hm
      rcases hm with rfl | rfl | rfl | rfl | rfl | rfl <;> exact ⟨_, rfl, by omega, by omega⟩
    obtain ⟨z, rfl, z0, z1⟩ := this
    simp [e]
    refine (L_take_ok (σ := σ) p z (by omega) (by omega) m3 hw.pu).mono ?_
    rintro _ m4 ⟨r, rfl, r0, r1, hd3⟩
    exact ⟨r, rfl, ⟨r0, by omega⟩, hd3⟩
  · rintro _ m3 ⟨xs, rfl, hl, ok, hw⟩
    rw [rangeL_len] at hl
    refine ⟨by simp; unfold LIM; omega, [0, 1, 2, 3, 1000000000000000000000000000000 - x, 1000000000000 + y] ++ xs, by simp [dints], by simp; omega, ?_, (hd1.trans hd2).trans hw⟩
    intro z hz
    rcases List.mem_append.mp hz with hz | hz
    · simp only [List.mem_cons, List.not_mem_nil, or_false] at hz
      omega
    · have := ok z hz
      omega
end
end Tx

/-! # PtV: drawn words, books' parts -/
namespace Tx
open PySem LC Bk
variable {G : Prog} {σ : Nat → Nat} {n : Nat}
/-- a name, on its letters -/
structure Nm (l : List Nat) : Prop where
  ne : 1 ≤ l.length
  le : l.length ≤ 8
  fst : ∀ c, l[0]? = some c → letter c
  all : ∀ c ∈ l, letter c ∨ digit c
theorem nm_of {l : List Nat} (h : Nm l) : NameOk ⟨l.toArray⟩ := ⟨h.ne, h.le, fun c hc => h.fst c (by simpa using hc), fun c hc => h.all c (by simpa using hc)⟩
theorem of_nm {s : Str} (h : NameOk s) : Nm s.cps.toList := ⟨h.ne, h.le, fun c hc => h.fst c (by simpa using hc), h.all⟩
instance : DecidablePred letter := fun c => by unfold letter; infer_instance
instance : DecidablePred digit := fun c => by unfold digit; infer_instance
def nmB (l : List Nat) : Bool := decide (1 ≤ l.length) && decide (l.length ≤ 8) && (match l with | [] => false | c :: _ => decide (letter c)) && l.all fun c => decide (letter c ∨ digit c)
theorem nameB_of {s : Str} (h : nmB s.cps.toList = true) : NameOk s := by
  have e : s = ⟨s.cps.toList.toArray⟩ := by cases s; simp
  rw [e]
  refine nm_of ?_
  generalize s.cps.toList = l at h
  unfold nmB at h
  simp only [Bool.and_eq_true, decide_eq_true_eq, List.all_eq_true] at h
  obtain ⟨⟨⟨h1, h2⟩, h3⟩, h4⟩ := h
  refine ⟨h1, h2, ?_, h4⟩
  intro c hc
  cases l with
  | nil => simp at hc
  | cons x xs => simp at hc; subst hc; exact of_decide_eq_true h3
/-- a letter drawn from a text -/
theorem ix_chr {s : Str} {i : Int} {m : Sto} (hl : s.length ≤ 1000) (h0 : 0 ≤ i) (h1 : i < s.cps.toList.length) : ∃ c, opIx (.str s) (.int i) m = .ok (.str ⟨#[c]⟩) m ∧ c ∈ s.cps.toList := by
  have hj : i.toNat < s.cps.toList.length := by omega
  refine ⟨s.cps.toList[i.toNat], ?_, List.getElem_mem _⟩
  show (if decide (s.length ≤ LIM) = true then oOut ((atI s.cps.toList i).map fun c => .str ⟨#[c]⟩) m else .bad) = _
  rw [decide_eq_true (by unfold LIM; omega)]
  have : atI s.cps.toList i = some s.cps.toList[i.toNat] := by
    unfold atI
    rw [ixN_of h0 h1]
    show s.cps.toList[i.toNat]? = _
    simp only [List.getElem?_eq_getElem hj]
  rw [this]; rfl
theorem both_memL (c : Nat) : c ∈ ("abcdefghijklmnopqrstuvwxyz0123456789" : Str).cps.toList → letter c ∨ digit c := by
  have e : ("abcdefghijklmnopqrstuvwxyz0123456789" : Str).cps.toList = (List.range 26).map (· + 97) ++ (List.range 10).map (· + 48) := by decide +kernel
  rw [e]
  simp only [List.mem_append, List.mem_map, List.mem_range]
  unfold letter digit
  rintro (⟨k, hk, rfl⟩ | ⟨k, hk, rfl⟩) <;> omega
theorem letters_len : ("abcdefghijklmnopqrstuvwxyz" : Str).cps.toList.length = 26 := by decide +kernel
theorem both_len : ("abcdefghijklmnopqrstuvwxyz0123456789" : Str).cps.toList.length = 36 := by decide +kernel
theorem nm_str {s : Str} (h : Nm s.cps.toList) : NameOk s := by
  have e : s = ⟨s.cps.toList.toArray⟩ := by cases s; simp
  rw [e]
  exact nm_of h
theorem app_cps (a b : Str) : (a ++ b).cps.toList = a.cps.toList ++ b.cps.toList := by
  show (a.cps ++ b.cps).toList = _
  simp
theorem nm_app {a b : List Nat} (h : Nm a) (hb : ∀ c ∈ b, letter c ∨ digit c) (hl : a.length + b.length ≤ 8) : Nm (a ++ b) := by
  refine ⟨by have := h.ne; simp; omega, by simpa using hl, ?_, ?_⟩
  · intro c hc
    have := h.ne
    rw [List.getElem?_append_left (by omega)] at hc
    exact h.fst c hc
  · intro c hc
    rcases List.mem_append.mp hc with hc | hc
    · exact h.all c hc
    · exact hb c hc
theorem nm_take {a : List Nat} (h : Nm a) {k : Nat} (hk : 1 ≤ k) : Nm (a.take k) := by
  have := h.ne
  have := h.le
  refine ⟨by simp; omega, by simp; omega, ?_, fun c hc => h.all c (List.mem_of_mem_take hc)⟩
  intro c hc
  rw [List.getElem?_take_of_lt (by omega)] at hc
  exact h.fst c hc
theorem okA {a b : Str} {mu : Bool} {m : Sto} (h : a.length + b.length ≤ 1000) : opBin mu .Add (.str a) (.str b) m = .ok (.str (a ++ b)) m := v_addS (by unfold LIM; omega)
section
variable [HasD G (σ 25) (d_L_word σ)] [HasD G (σ 22) (d_L_take σ)]
theorem L_word_ok (p : Nat) (m : Sto) (hp : Purse p m) : Po (callD G (n + 2) (σ 25) [.ref p] m) fun v m' => ∃ s : Str, v = .str s ∧ NameOk s ∧ Drawn p m m' := by
  refine po_callD rfl ?_; simp only [d_L_word, f_L_word]; simp only [List.map_cons, List.map_nil, List.length_cons, List.length_nil, List.cons_append, List.nil_append, List.replicate]
  refine po_seq ?_
  simp [den]
  refine (L_take_ok (σ := σ) p 4 (by omega) (by omega) m hp).mono ?_
  rintro _ m1 ⟨t, rfl, t0, t1, hd1⟩
  simp
  split
  · refine po_seq ?_
    simp [den]
    refine (L_take_ok (σ := σ) p 10 (by omega) (by omega) m1 hd1.pu).mono ?_
    rintro _ m2 ⟨k, rfl, k0, k1, hd2⟩
    obtain ⟨d, e, hm⟩ := pick_of (xs := [D.str "kind", D.str "group", D.str "whole", D.str "times", D.str "plus", D.str "to", D.str "near", D.str "down", D.str "up", D.str "even"]) k0 (by simpa using k1)
    have : ∃ s, d = .str s ∧ NameOk s := by
      simp only [List.mem_cons, List.not_mem_nil, or_false] at hm
      rcases hm with rfl | rfl | rfl | rfl | rfl | rfl | rfl | rfl | rfl | rfl <;> exact ⟨_, rfl, nameB_of (by decide +kernel)⟩
    obtain ⟨s, rfl, ok⟩ := this
    simp [e]
    exact ⟨ok, hd1.trans hd2⟩
  · refine po_seq ?_
    simp [den]
    refine (L_take_ok (σ := σ) p 26 (by omega) (by omega) m1 hd1.pu).mono ?_
    rintro _ m2 ⟨k, rfl, k0, k1, hd2⟩
    obtain ⟨c, e, hc⟩ := ix_chr (s := "abcdefghijklmnopqrstuvwxyz") (m := m2) (by decide +kernel) k0 (by rw [letters_len]; omega)
    simp [e]
    have hc := (letters_memL c).mp hc
    refine po_seq ?_
    simp [den]
    refine (L_take_ok (σ := σ) p 8 (by omega) (by omega) m2 hd2.pu).mono ?_
    rintro _ m3 ⟨t2, rfl, u0, u1, hd3⟩
    simp
    refine ⟨small62I (by omega) (by omega), ?_⟩
    refine forL_po (n := (rangeL 0 t2).length) (fun i env m' => ∃ s x, env = [some (.ref p), some (.str s), x] ∧ Nm s.cps.toList ∧ s.cps.toList.length = i + 1 ∧ Drawn p m m') rfl ⟨⟨#[c]⟩, _, rfl, ⟨by simp, by simp, ?_, ?_⟩, by simp, (hd1.trans hd2).trans hd3⟩ ?_ ?_
    · intro x hx; simp at hx; subst hx; exact hc
    · intro x hx; simp at hx; subst hx; exact .inl hc
    · rintro i env m' d hi hd' ⟨s, x, rfl, ok, hl, hw⟩
      rw [rangeL_len] at hi
      simp
      refine po_seq ?_
      simp [den]
      refine (L_take_ok (σ := σ) p 36 (by omega) (by omega) m' hw.pu).mono ?_
      rintro _ m4 ⟨j, rfl, j0, j1, hd4⟩
      obtain ⟨c2, e2, hc2⟩ := ix_chr (s := "abcdefghijklmnopqrstuvwxyz0123456789") (m := m4) (by decide +kernel) j0 (by rw [both_len]; omega)
      have sl : s.length + (⟨#[c2]⟩ : Str).length ≤ 1000 := by
        have : s.length = i + 1 := hl
        have : (⟨#[c2]⟩ : Str).length = 1 := rfl
        omega
      simp [e2, okA sl]
      refine ⟨?_, ?_, hw.trans hd4⟩
      · rw [app_cps]
        refine nm_app ok (fun x hx => ?_) (by rw [hl]; simp; omega)
        simp at hx; subst hx; exact both_memL _ hc2
      · have : (s ++ (⟨#[c2]⟩ : Str)).cps.toList.length = i + 1 + 1 := by rw [app_cps, List.length_append, hl]; rfl
        simpa using this
    · rintro env m' ⟨s, x, rfl, ok, hl, hw⟩
      refine po_seq ?_
      simp [den]
      refine ⟨?_, hw⟩
      have := nm_of ok
      simpa using this
end
section
variable [HasD G (σ 26) (d_L_beside σ)] [HasD G (σ 22) (d_L_take σ)]
theorem L_beside_ok (p : Nat) (s : Str) (hs : NameOk s) (m : Sto) (hp : Purse p m) : Po (callD G (n + 2) (σ 26) [.ref p, .str s] m) fun v m' => ∃ s' : Str, v = .str s' ∧ NameOk s' ∧ Drawn p m m' := by
  refine po_callD rfl ?_; simp only [d_L_beside, f_L_beside]; simp only [List.map_cons, List.map_nil, List.length_cons, List.length_nil, List.cons_append, List.nil_append, List.replicate]
  have ok := of_nm hs
  have l1 := hs.ne
  have l8 := hs.le
  have ll : s.cps.toList.length = s.length := by simp [Str.length]
  have ln : s.length ≤ LIM := by unfold LIM; omega
  have sl : ∀ lo hi (m : Sto), opSl false (.str s) lo hi m = .ok (.str ⟨(cut s.cps.toList lo hi).toArray⟩) m := fun lo hi m => by
    show (if decide (s.length ≤ LIM) = true then _ else _) = _
    rw [decide_eq_true ln]; rfl
  refine po_seq ?_
  simp [den]
  refine (L_take_ok (σ := σ) p 3 (by omega) (by omega) m hp).mono ?_
  rintro _ m1 ⟨t, rfl, t0, t1, hd1⟩
  try simp
  refine (L_take_ok (σ := σ) p 36 (by omega) (by omega) m1 hd1.pu).mono ?_
  rintro _ m2 ⟨k, rfl, k0, k1, hd2⟩
  obtain ⟨c, e, hc⟩ := ix_chr (s := "abcdefghijklmnopqrstuvwxyz0123456789") (m := m2) (by decide +kernel) k0 (by rw [both_len]; omega)
  have hc := both_memL _ hc
  have hd := hd1.trans hd2
  simp [e]
  have last : Po ((den (phi G (n + 1)) (f_L_beside_3 σ)).s [some (.ref p), some (.str s), some (.int t), some (.str ⟨#[c]⟩), none] m2) (fin fun v m' => ∃ s' : Str, v = .str s' ∧ NameOk s' ∧ Drawn p m m') := by
    refine po_seq ?_
    simp [den]
    refine (L_take_ok (σ := σ) p 7 (by omega) (by omega) m2 hd2.pu).mono ?_
    rintro _ m3 ⟨q, rfl, q0, q1, hd3⟩
    simp
    refine po_seq ?_
    simp [den, v_lenStr ln, sl]
    have ht : cut s.cps.toList none (some (1 + q)) = s.cps.toList.take (1 + q).toNat := by
      have := cut_take (xs := s.cps.toList) (s := (1 + q).toNat)
      rw [show (((1 + q).toNat : Nat) : Int) = 1 + q by omega] at this
      exact this
    have hf : cut s.cps.toList (some (1 + q + 1)) none = s.cps.toList.drop (1 + q + 1).toNat := by
      have := cut_from (xs := s.cps.toList) (s := (1 + q + 1).toNat)
      rw [show (((1 + q + 1).toNat : Nat) : Int) = 1 + q + 1 by omega] at this
      exact this
    have hf1 : cut s.cps.toList (some 1) none = s.cps.toList.drop 1 := by
      have := cut_from (xs := s.cps.toList) (s := 1)
      exact this
    rw [ht, hf, hf1]
    by_cases hlt : 1 + q < (s.length : Int)
    · have la : (⟨(s.cps.toList.take (1 + q).toNat).toArray⟩ : Str).length = (1 + q).toNat := by show (s.cps.toList.take (1 + q).toNat).length = _; rw [List.length_take]; omega
      have lb : (⟨(s.cps.toList.drop (1 + q + 1).toNat).toArray⟩ : Str).length = s.length - (1 + q + 1).toNat := by show (s.cps.toList.drop (1 + q + 1).toNat).length = _; rw [List.length_drop]; omega
      have lc : (⟨#[c]⟩ : Str).length = 1 := rfl
      simp [hlt, okA (show (⟨(s.cps.toList.take (1 + q).toNat).toArray⟩ : Str).length + (⟨#[c]⟩ : Str).length ≤ 1000 by omega),
        okA (show ((⟨(s.cps.toList.take (1 + q).toNat).toArray⟩ : Str) ++ ⟨#[c]⟩).length + (⟨(s.cps.toList.drop (1 + q + 1).toNat).toArray⟩ : Str).length ≤ 1000 by rw [str_len_app]; omega)]
      refine ⟨nm_str ?_, hd.trans hd3⟩
      rw [app_cps, app_cps]
      have n1 := nm_take ok (k := (1 + q).toNat) (by omega)
      have n2 : Nm (s.cps.toList.take (1 + q).toNat ++ [c]) := nm_app n1 (by simp [hc]) (by rw [List.length_take]; simp; omega)
      refine nm_app n2 (fun x hx => ok.all x (List.mem_of_mem_drop (by simpa using hx))) ?_
      simp [List.length_take]
      simp [Str.length] at *
      omega
    · have lb : (⟨(s.cps.toList.drop 1).toArray⟩ : Str).length = s.length - 1 := by show (s.cps.toList.drop 1).length = _; rw [List.length_drop]; omega
      have l2 : ("a" : Str).length = 1 := by decide +kernel
      simp only [hlt, decide_false, Bool.false_eq_true, if_false]
      simp [-List.drop_one, okA (show ("a" : Str).length + (⟨(s.cps.toList.drop 1).toArray⟩ : Str).length ≤ 1000 by omega)]
      refine ⟨nm_str ?_, hd.trans hd3⟩
      rw [app_cps]
      have n1 : Nm ("a" : Str).cps.toList := of_nm (nameB_of (by decide +kernel))
      have l3 : ("a" : Str).cps.toList.length = 1 := by decide +kernel
      refine nm_app n1 (fun x hx => ok.all x (List.mem_of_mem_drop (show x ∈ s.cps.toList.drop 1 from hx))) ?_
      rw [l3]
      show 1 + (s.cps.toList.drop 1).length ≤ 8
      rw [List.length_drop]; omega
  have mid : Po ((den (phi G (n + 1)) (f_L_beside_4 σ)).s [some (.ref p), some (.str s), some (.int t), some (.str ⟨#[c]⟩), none] m2) (fin fun v m' => ∃ s' : Str, v = .str s' ∧ NameOk s' ∧ Drawn p m m') := by
    refine po_seq ?_
    simp [den, v_lenStr ln]
    by_cases h1 : t = 1
    · simp [h1]
      split
      · refine po_seq ?_
        simp [den, sl]
        refine ⟨nm_str ?_, hd⟩
        rw [cut_last, List.dropLast_eq_take]
        exact nm_take ok (by omega)
      · rw [← h1]; exact last
    · simp [h1]
      exact last
  refine po_seq ?_
  simp [den, v_lenStr ln]
  by_cases h0 : t = 0
  · simp [h0]
    split
    · rename_i h8
      have lc : (⟨#[c]⟩ : Str).length = 1 := rfl
      refine po_seq ?_
      simp [den, okA (show s.length + (⟨#[c]⟩ : Str).length ≤ 1000 by omega)]
      refine ⟨nm_str ?_, hd⟩
      rw [app_cps]
      exact nm_app ok (by simp [hc]) (by rw [ll]; simp; omega)
    · rw [← h0]; exact mid
  · simp [h0]
    exact mid
end
/-- a list at a place p, beside the purse -/
theorem drawn_set {p q : Nat} {m m' : Sto} {o : Ob} (hd : Drawn p m m') (hq : m.length ≤ q) (hpq : p ≠ q) : Drawn p m (m'.set q o) := by
  obtain ⟨s, b, k, ep, q1, q2, q3⟩ := hd.pu
  refine ⟨⟨s, b, k, by rw [List.getElem?_set_ne (Ne.symm hpq)]; exact ep, q1, q2, q3⟩, by rw [List.length_set]; exact hd.len, fun jj hj hjp => ?_⟩
  rw [List.getElem?_set_ne (by omega)]
  exact hd.off jj hj hjp
theorem pys_strs : ∀ ws : List Str, D.pys (ws.map D.str) = some (ws.map .str)
  | [] => rfl
  | w :: ws => pys_cons rfl (pys_strs ws)
theorem canLays_strs : ∀ {ws : List Str}, (∀ w ∈ ws, okS w) → PyData.canLayAll0 (ws.map .str) = true
  | [], _ => by simp [PyData.canLayAll0]
  | w :: ws, h => by
    have a : PyData.strOk w = true := h w (by simp)
    have b := canLays_strs (ws := ws) fun x hx => h x (by simp [hx])
    simp only [List.map_cons, PyData.canLayAll0, b, PyData.canLay0, Bool.and_true]
    exact a
theorem depths_strs : ∀ ws : List Str, PyData.depthAll (ws.map .str) ≤ 1
  | [] => by simp [PyData.depthAll]
  | x :: xs => by simp only [List.map_cons, PyData.depthAll, PyData.depth]; have := depths_strs xs; omega
theorem fit_strs {ws : List Str} (h : ∀ w ∈ ws, okS w) : fitD (.list (ws.map .str)) = true := by
  unfold fitD
  rw [Bool.and_eq_true, decide_eq_true_eq]
  refine ⟨by simp only [PyData.canLay0, canLays_strs h], ?_⟩
  simp only [PyData.depth]
  exact Nat.le_trans (Nat.add_le_add_right (depths_strs ws) 1) (by decide)
theorem ne_none {q : Nat} {ws : List Str} {m : Sto} (hq : m[q]? = some (.lst (ws.map .str))) (h : ∀ w ∈ ws, okS w) : opCmp .NotEq (.ref q) (.lst []) m = .ok (.bl (!ws.isEmpty)) m := by
  have e : top m (.ref q) = .lst (ws.map .str) := by show topR (.ref q) m[q]? = _; rw [hq]; rfl
  rw [ne_of (a := .list (ws.map .str)) (b := .list []) (by rw [e]; simp [pys_strs]) (by simp [top]) (fit_strs h) (by decide)]
  cases ws <;> simp [PyData.eqv, PyData.eqvAll]
theorem nin_strsL {a : Str} {ys : List Str} {y : D} {m : Sto} (h : top m y = .lst (ys.map .str)) (hy : ∀ z, y ≠ .str z) : opCmp .NotIn (.str a) y m = .ok (.bl (!decide (a ∈ ys))) m := by
  have := in_strsL (a := a) h hy
  have e : opCmp .In (.str a) y m = bOut (inD m (.str a) y) m := rfl
  rw [e] at this
  show bOut ((inD m (.str a) y).map not) m = _
  cases z : inD m (.str a) y with
  | none => rw [z] at this; cases this
  | some b => rw [z] at this; cases this; rfl
theorem sub_len {α : Type} [DecidableEq α] : ∀ {xs ws : List α}, xs.Nodup → (∀ x ∈ xs, x ∈ ws) → xs.length ≤ ws.length
  | [], ws, _, _ => Nat.zero_le _
  | x :: xs, ws, hn, h => by
    obtain ⟨n1, n2⟩ := List.nodup_cons.mp hn
    have hx := h x (by simp)
    have := sub_len (xs := xs) (ws := ws.erase x) n2 fun y hy => by
      have hyx : y ≠ x := fun e => n1 (e ▸ hy)
      exact (List.mem_erase_of_ne hyx).mpr (h y (by simp [hy]))
    rw [List.length_erase_of_mem hx] at this
    have : 0 < ws.length := List.length_pos_of_mem hx
    simp only [List.length_cons]
    omega
def spare : List Str := ["qa", "qb", "qc", "qd", "qe", "qf", "qg"]
theorem words_app (p q k : Nat) (kk : Int) (ws : List Str) (s : Str) (m0 m3 : Sto) (x3 x5 : Option D) (hw : Drawn p m0 m3) (hq3 : m3[q]? = some (.lst (ws.map .str))) (hlq : m0.length ≤ q) (hpq : p ≠ q) (hl : ws.length ≤ 6)
    (F : LC.Flow → Sto → Prop) (hF : ∀ m', m'[q]? = some (.lst ((ws ++ [s]).map .str)) → Drawn p m0 m' → F (.nx [some (.ref p), some (.int kk), some (.ref q), x3, some (.str s), x5]) m') :
    Po ((den (phi G (n + 2)) (f_L_words_2 σ)).s [some (.ref p), some (.int kk), some (.ref q), x3, some (.str s), x5] m3) F := by
  refine po_seq ?_
  simp [den, preL_ref hq3]
  refine eq_po (append_ref hq3 (by rw [List.length_map]; unfold LIM; omega)) ?_
  try simp
  refine hF _ ?_ (drawn_set hw hlq hpq)
  rw [at_set hq3]; simp
section
variable [HasD G (σ 27) (d_L_words σ)] [HasD G (σ 26) (d_L_beside σ)] [HasD G (σ 22) (d_L_take σ)] [HasD G (σ 25) (d_L_word σ)]
include σ
theorem words_mid (p q : Nat) (kk : Int) (ws : List Str) (s : Str) (oks : NameOk s) (m0 m3 : Sto) (x3 x5 : Option D) (hw : Drawn p m0 m3) (hq3 : m3[q]? = some (.lst (ws.map .str))) (hlq : m0.length ≤ q) (hpq : p ≠ q) (hl : ws.length ≤ 6)
    (F : LC.Flow → Sto → Prop) (hF : ∀ s m' x5, NameOk s → s ∉ ws → m'[q]? = some (.lst ((ws ++ [s]).map .str)) → Drawn p m0 m' → F (.nx [some (.ref p), some (.int kk), some (.ref q), x3, some (.str s), x5]) m') :
    Po ((den (phi G (n + 2)) (f_L_words_3 σ)).s [some (.ref p), some (.int kk), some (.ref q), x3, some (.str s), x5] m3) F := by
  have tp : top m3 (.ref q) = .lst (ws.map .str) := by show topR (.ref q) m3[q]? = _; rw [hq3]; rfl
  have inL : ∀ a : Str, opCmp .In (.str a) (.ref q) m3 = .ok (.bl (decide (a ∈ ws))) m3 := fun a => in_strsL tp (by intro z; simp)
  have ninL : ∀ a : Str, opCmp .NotIn (.str a) (.ref q) m3 = .ok (.bl (!decide (a ∈ ws))) m3 := fun a => nin_strsL tp (by intro z; simp)
  refine po_seq ?_
  simp [den, inL]
  split
  · refine po_seq ?_
    simp [den]
    refine (lcL_po (n := spare.length) (ds := spare.map D.str) (F := fun acc m' => m' = m3 ∧ ∃ ys : List Str, acc = ys.map D.str ∧ (∀ y ∈ ys, NameOk y ∧ y ∉ ws) ∧ ys ≠ []) (fun i acc m' => m' = m3 ∧ ∃ ys : List Str, acc = ys.map D.str ∧ (∀ y ∈ ys, NameOk y ∧ y ∉ ws) ∧ ∀ x ∈ spare.take i, x ∈ ws ∨ x ∈ ys) (by simp) (by decide) ⟨rfl, [], rfl, by simp, by simp⟩ ?_ ?_).mono ?_
    · rintro j acc m4 d hj hd' hl' ⟨rfl, ys, rfl, hys, hsp⟩
      rw [List.getElem?_map] at hd'
      obtain ⟨w, hw', rfl⟩ := Option.map_eq_some_iff.mp hd'
      have okw : NameOk w := by
        have : w ∈ spare := List.mem_of_getElem? hw'
        simp only [spare, List.mem_cons, List.not_mem_nil, or_false] at this
        rcases this with rfl | rfl | rfl | rfl | rfl | rfl | rfl <;> exact nameB_of (by decide +kernel)
      have tk : spare.take (j + 1) = spare.take j ++ [w] := by rw [List.take_add_one, hw']; rfl
      simp [lcTurn, ifT, wipeE, den, ninL]
      by_cases hin : w ∈ ws
      · simp [hin]
        refine ⟨ys, rfl, fun y hy => hys y hy, ?_⟩
        intro x hx
        rw [tk] at hx
        rcases List.mem_append.mp hx with hx | hx
        · exact hsp x hx
        · rw [List.mem_singleton.mp hx]; exact .inl hin
      · simp [hin]
        refine ⟨ys ++ [w], by simp, ?_, ?_⟩
        · intro y hy
          rcases List.mem_append.mp hy with hy | hy
          · exact hys y hy
          · rw [List.mem_singleton.mp hy]; exact ⟨okw, hin⟩
        · intro x hx
          rw [tk] at hx
          rcases List.mem_append.mp hx with hx | hx
          · rcases hsp x hx with h | h
            · exact .inl h
            · exact .inr (by simp [h])
          · exact .inr (by rw [List.mem_singleton.mp hx]; simp)
    · rintro acc m4 ⟨rfl, ys, rfl, hys, hsp⟩
      refine ⟨rfl, ys, rfl, hys, ?_⟩
      rintro rfl
      have := sub_len (xs := spare) (ws := ws) (by simp [spare, ofS_inj]) fun x hx => by
        rcases hsp x (by rw [List.take_of_length_le (Nat.le_refl _)]; exact hx) with h | h
        · exact h
        · simp at h
      have l7 : spare.length = 7 := rfl
      omega
    · rintro acc m4 ⟨rfl, ys, rfl, hys, hne⟩
      cases ys with
      | nil => exact absurd rfl hne
      | cons y ys =>
        have at0 : atI (D.str y :: ys.map D.str) 0 = some (.str y) := by
          unfold atI
          rw [ixN_of (by omega) (by simp)]
          rfl
        simp [at0]
        obtain ⟨h1, h2⟩ := hys y (by simp)
        exact words_app (σ := σ) p q 0 kk ws y m0 m4 x3 _ hw hq3 hlq hpq hl F fun m' a b => hF y m' _ h1 h2 a b
  · rename_i hs
    exact words_app (σ := σ) p q 0 kk ws s m0 m3 x3 x5 hw hq3 hlq hpq hl F fun m' a b => hF s m' _ oks hs a b
end
theorem atI_last {ws : List Str} (h : ws ≠ []) : ∃ w, atI (ws.map D.str) (-1) = some (.str w) ∧ w ∈ ws := by
  have hp : 0 < ws.length := List.length_pos_iff.mpr h
  refine ⟨ws[ws.length - 1], ?_, List.getElem_mem _⟩
  unfold atI ixN
  rw [if_neg (by omega), if_pos (by rw [List.length_map]; omega)]
  show (ws.map D.str)[(-1 + ((ws.map D.str).length : Int)).toNat]? = _
  rw [List.getElem?_map, List.length_map, show (-1 + (ws.length : Int)).toNat = ws.length - 1 by omega, List.getElem?_eq_getElem (by omega)]
  rfl
section
variable [HasD G (σ 27) (d_L_words σ)] [HasD G (σ 26) (d_L_beside σ)] [HasD G (σ 22) (d_L_take σ)] [HasD G (σ 25) (d_L_word σ)]
theorem L_words_ok (p : Nat) (k : Int) (hk : 0 ≤ k ∧ k ≤ 6) (m : Sto) (hp : Purse p m) : Po (callD G (n + 3) (σ 27) [.ref p, .int k] m) fun v m' => ∃ (ws : List Str) (q : Nat), v = .ref q ∧ m'[q]? = some (.lst (ws.map .str)) ∧ ws.length = k.toNat ∧ ws.Nodup ∧ (∀ w ∈ ws, NameOk w) ∧ Drawn p m m' ∧ m.length ≤ q := by
  refine po_callD rfl ?_; simp only [d_L_words, f_L_words]; simp only [List.map_cons, List.map_nil, List.length_cons, List.length_nil, List.cons_append, List.nil_append, List.replicate]
  have hpl : p < m.length := hp.lt
  refine po_seq ?_
  simp [den]
  refine po_seq ?_
  simp [den]
  refine ⟨small62I (by omega) (by omega), ?_⟩
  refine forL_po (n := (rangeL 0 k).length) (fun i env m' => ∃ (ws : List Str) (x3 x4 x5 : Option D), env = [some (.ref p), some (.int k), some (.ref m.length), x3, x4, x5] ∧ m'[m.length]? = some (.lst (ws.map .str)) ∧ ws.length = i ∧ ws.Nodup ∧ (∀ w ∈ ws, NameOk w) ∧ Drawn p m m') rfl ⟨[], _, _, _, rfl, by simp, rfl, by simp, by simp, Drawn.new hp _⟩ ?_ ?_
  · rintro i env m1 d hi hd ⟨ws, x3, x4, x5, rfl, hq, hl, nd, ok, hw⟩
    rw [rangeL_len] at hi
    simp
    refine po_seq ?_
    simp [den]
    refine (L_word_ok (σ := σ) p m1 hw.pu).mono ?_
    rintro _ m2 ⟨s, rfl, oks, hd2⟩
    have hq2 : m2[m.length]? = some (.lst (ws.map .str)) := by rw [hd2.off _ (List.getElem?_eq_some_iff.mp hq).1 (by omega)]; exact hq
    have hw2 := hw.trans hd2
    have fin : ∀ (x3 : Option D) (s : Str) (m' : Sto) (x5 : Option D), NameOk s → s ∉ ws → m'[m.length]? = some (.lst ((ws ++ [s]).map .str)) → Drawn p m m' →
        (∃ (x3' x4 x5' : Option D), [some (D.ref p), some (.int k), some (.ref m.length), x3, some (.str s), x5] = [some (.ref p), some (.int k), some (.ref m.length), x3', x4, x5']) ∧ ∃ ws : List Str, m'[m.length]? = some (.lst (ws.map .str)) ∧ ws.length = i + 1 ∧ ws.Nodup ∧ (∀ w ∈ ws, NameOk w) ∧ Drawn p m m' := by
      intro x3 s m' x5 oks hs a b
      refine ⟨⟨_, _, _, rfl⟩, ws ++ [s], a, by simp; omega, ?_, ?_, b⟩
      · rw [List.nodup_append]
        exact ⟨nd, by simp, fun a ha b hb => by rw [List.mem_singleton.mp hb]; exact fun e => hs (e ▸ ha)⟩
      · intro w hw
        rcases List.mem_append.mp hw with h | h
        · exact ok w h
        · rw [List.mem_singleton.mp h]; exact oks
    have neL := ne_none hq2 fun w hw => NameOk_okS (ok w hw)
    try simp
    refine po_seq ?_
    simp [den, neL]
    split
    · exact words_mid (σ := σ) p m.length k ws s oks m m2 _ _ hw2 hq2 (Nat.le_refl _) (by omega) (by omega) _ (fun s m' x5 a b c d => fin _ s m' x5 a b c d)
    · rename_i hne
      refine (L_take_ok (σ := σ) p 3 (by omega) (by omega) m2 hd2.pu).mono ?_
      rintro _ m3 ⟨t, rfl, t0, t1, hd3⟩
      have hq3 : m3[m.length]? = some (.lst (ws.map .str)) := by rw [hd3.off _ (List.getElem?_eq_some_iff.mp hq2).1 (by omega)]; exact hq2
      have hw3 := hw2.trans hd3
      simp
      split
      · refine po_seq ?_
        obtain ⟨w, ew, hw'⟩ := atI_last (ws := ws) (by simpa using hne)
        simp [den, ix_ref hq3, ew]
        refine (L_beside_ok (σ := σ) p w (ok w hw') m3 hd3.pu).mono ?_
        rintro _ m4 ⟨s4, rfl, oks4, hd4⟩
        have hq4 : m4[m.length]? = some (.lst (ws.map .str)) := by rw [hd4.off _ (List.getElem?_eq_some_iff.mp hq3).1 (by omega)]; exact hq3
        try simp
        exact words_mid (σ := σ) p m.length k ws s4 oks4 m m4 _ _ (hw3.trans hd4) hq4 (Nat.le_refl _) (by omega) (by omega) _ (fun s m' x5 a b c d => fin _ s m' x5 a b c d)
      · exact words_mid (σ := σ) p m.length k ws s oks m m3 _ _ hw3 hq3 (Nat.le_refl _) (by omega) (by omega) _ (fun s m' x5 a b c d => fin _ s m' x5 a b c d)
  · rintro env m1 ⟨ws, x3, x4, x5, rfl, hq, hl, nd, ok, hw⟩
    simp
    refine po_seq ?_
    simp [den]
    refine ⟨ws, hq, by rw [hl, rangeL_len]; simp, nd, ok, hw⟩
end
/-- a comprehension over a list at a place that stays as it is -/
theorem lcV_po {turn : D → M (Option D)} {F : List D → Sto → Prop} (R : Nat → List D → Sto → Prop) {q w : Nat} {xs : List D} {m : Sto} (hw : xs.length < w) (hz : xs.length ≤ LIM) (hat : ∀ i acc m, R i acc m → m[q]? = some (.lst xs)) (h0 : R 0 [] m)
    (hs : ∀ i acc m d, i < xs.length → xs[i]? = some d → acc.length ≤ i → R i acc m → Po (turn d m) fun o m' => match o with | none => R (i + 1) acc m' | some x => R (i + 1) (acc ++ [x]) m')
    (hd : ∀ acc m, R xs.length acc m → F acc m) : Po (lcV turn q w 0 [] m) F := by
  have go : ∀ (w k : Nat) (acc : List D) (m : Sto), k ≤ xs.length → xs.length < w + k → acc.length ≤ k → R k acc m → Po (lcV turn q w k acc m) F := by
    intro w
    induction w with
    | zero => intro k acc m h1 h2 _ _; omega
    | succ w ih =>
      intro k acc m h1 h2 hl hr
      unfold lcV
      simp only [hat k acc m hr]
      cases e : xs[k]? with
      | none =>
        have : xs.length ≤ k := List.getElem?_eq_none_iff.mp e
        have : k = xs.length := by omega
        subst this
        simp only
        exact ⟨hd acc m hr⟩
      | some d =>
        have hk : k < xs.length := (List.getElem?_eq_some_iff.mp e).1
        have h := (hs k acc m d hk e hl hr).h
        simp only
        cases z : turn d m with
        | ok o m' =>
          rw [z] at h
          cases o with
          | none => exact ih (k + 1) acc m' hk (by omega) (by omega) h
          | some x =>
            simp only
            rw [if_pos (decide_eq_true (by omega))]
            exact ih (k + 1) (acc ++ [x]) m' hk (by omega) (by simp; omega) h
        | exc C fs m' => rw [z] at h; exact (show False from h).elim
        | bad => rw [z] at h; exact (show False from h).elim
  exact go w 0 [] m (Nat.zero_le _) (by omega) (by simp) h0
def partsD (B : Book) : D := .tup [.tup (B.kinds.map Knd.d), .tup (B.groups.map rowD), rowD B.whole]
section
variable [HasD G (σ 28) (d_L_parts σ)] [HasD G (σ 24) (d_L_steps σ)] [HasD G (σ 22) (d_L_take σ)] [HasD G (σ 27) (d_L_words σ)] [HasD G (σ 23) (d_L_step σ)] [HasD G (σ 26) (d_L_beside σ)]
  [HasD G (σ 25) (d_L_word σ)]
theorem L_parts_ok (hW : 2000 ≤ G.W) (p : Nat) (m : Sto) (hp : Purse p m) : Po (callD G (n + 4) (σ 28) [.ref p] m) fun v m' => ∃ B : Book, v = partsD B ∧ B.Ok ∧ Drawn p m m' := by
  refine po_callD rfl ?_; simp only [d_L_parts, f_L_parts]; simp only [List.map_cons, List.map_nil, List.length_cons, List.length_nil, List.cons_append, List.nil_append, List.replicate]
  have hpl : p < m.length := hp.lt
  refine po_seq ?_
  simp [den]
  refine (L_take_ok (σ := σ) p 4 (by omega) (by omega) m hp).mono ?_
  rintro _ m1 ⟨t, rfl, t0, t1, hd1⟩
  simp
  refine (L_words_ok (σ := σ) p (1 + t) (by omega) m1 hd1.pu).mono ?_
  rintro _ m2 ⟨ws, q, rfl, hq, hl, nd, ok, hd2, hlq⟩
  have hw2 := hd1.trans hd2
  have hpq : p ≠ q := by have := hd1.len; omega
  try simp
  refine po_seq ?_
  simp [den]
  refine (L_take_ok (σ := σ) p 3 (by omega) (by omega) m2 hd2.pu).mono ?_
  rintro _ m3 ⟨t3, rfl, u0, u1, hd3⟩
  have hq3 : m3[q]? = some (.lst (ws.map .str)) := by rw [hd3.off _ (List.getElem?_eq_some_iff.mp hq).1 (Ne.symm hpq)]; exact hq
  simp
  refine ⟨small62I (by omega) (by omega), ?_⟩
  refine (lcDraw (e := rowD) (P := rowOk) hd3.pu (by rw [rangeL_len]; unfold LIM; omega) ?_).mono ?_
  · intro d hd m4 hw
    simp [lcTurn, ifT, wipeE]
    refine (L_steps_ok (σ := σ) p m4 hw.pu).mono ?_
    rintro _ m5 ⟨l, rfl, okl, hw5⟩
    exact ⟨l, rfl, okl, hw5⟩
  · rintro _ m4 ⟨gs, rfl, gl, okg, hw4⟩
    rw [rangeL_len] at gl
    have hq4 : m4[q]? = some (.lst (ws.map .str)) := by rw [hw4.off _ (List.getElem?_eq_some_iff.mp hq3).1 (Ne.symm hpq)]; exact hq3
    try simp
    refine po_seq ?_
    simp [den, srcRef hq4]
    refine (lcV_po (w := G.W) (xs := ws.map D.str) (fun i acc m' => Drawn p m4 m' ∧ ∃ ks : List Knd, acc = ks.map Knd.d ∧ ks.map (·.name) = ws.take i ∧ (∀ k ∈ ks, rowOk k.steps ∧ k.grp < gs.length)) (by rw [List.length_map]; omega) (by rw [List.length_map]; unfold LIM; omega) ?_ ⟨Drawn.refl hw4.pu, [], rfl, rfl, by simp⟩ ?_ (fun acc m h => h)).mono ?_
    · rintro i acc m' ⟨hw, _⟩
      rw [hw.off _ (List.getElem?_eq_some_iff.mp hq4).1 (Ne.symm hpq)]; exact hq4
    · rintro i acc m5 d hi hd' hl5 ⟨hw5, ks, rfl, hks, hok⟩
      rw [List.getElem?_map] at hd'
      obtain ⟨w, hw', rfl⟩ := Option.map_eq_some_iff.mp hd'
      simp [lcTurn, ifT, wipeE]
      refine (L_take_ok (σ := σ) p gs.length (by omega) (by omega) m5 hw5.pu).mono ?_
      rintro _ m6 ⟨g, rfl, g0, g1, hd6⟩
      try simp
      refine (L_steps_ok (σ := σ) p m6 hd6.pu).mono ?_
      rintro _ m7 ⟨l, rfl, okl, hd7⟩
      try simp
      refine ⟨(hw5.trans hd6).trans hd7, ks ++ [⟨w, g.toNat, l⟩], ?_, ?_, ?_⟩
      · simp [Knd.d]; omega
      · rw [List.map_append, hks, List.take_add_one, hw']; rfl
      · intro k hk
        rcases List.mem_append.mp hk with hk | hk
        · exact hok k hk
        · rw [List.mem_singleton.mp hk]; exact ⟨okl, by show g.toNat < gs.length; omega⟩
    · rintro _ m5 ⟨hw5, ks, rfl, hks, hok⟩
      try simp
      rw [List.length_map, List.take_of_length_le (Nat.le_refl _)] at hks
      refine po_seq ?_
      simp [den]
      refine (L_steps_ok (σ := σ) p m5 hw5.pu).mono ?_
      rintro _ m6 ⟨l, rfl, okl, hd6⟩
      try simp
      have kl : ks.length = ws.length := by rw [← hks, List.length_map]
      refine ⟨⟨ks, gs, l⟩, rfl, ⟨by show 1 ≤ ks.length; omega, by show ks.length ≤ 4; omega, ?_, by show (ks.map (·.name)).Nodup; rw [hks]; exact nd, fun k hk => (hok k hk).1, fun k hk => (hok k hk).2, by show 1 ≤ gs.length; omega, by show gs.length ≤ 3; omega, okg, okl⟩, ?_⟩
      · intro k hk
        have : k.name ∈ ks.map (·.name) := List.mem_map.mpr ⟨k, hk, rfl⟩
        rw [hks] at this
        exact ok _ this
      · exact (((hw2.trans hd3).trans hw4).trans hw5).trans hd6
end
end Tx

/-! # BkR: rates -/
namespace Tx
open PySem LC Bk
variable {G : Prog} {σ : Nat → Nat} {n : Nat}
theorem emodN (x y : Nat) : (x : Int) % (y : Int) = ((x % y : Nat) : Int) := (Int.natCast_emod x y).symm
theorem edivN (x y : Nat) : (x : Int) / (y : Int) = ((x / y : Nat) : Int) := (Int.natCast_ediv x y).symm
theorem mulN (x y : Nat) : (x : Int) * (y : Int) = ((x * y : Nat) : Int) := (Int.natCast_mul x y).symm
/-- a pair on its way to the common divisor -/
def Eu (g k x y : Nat) : Prop := Nat.gcd x y = g ∧ 0 < x ∧ ((y ≤ x ∧ x * y < 2 ^ k) ∨ (1 ≤ k ∧ x * y < 2 ^ (k - 1)))
theorem Eu.step {g k x y : Nat} (h : Eu g k x y) (hy : 0 < y) : 1 ≤ k ∧ Eu g (k - 1) y (x % y) := by
  obtain ⟨hg, hx, h⟩ := h
  have hp : 1 ≤ x * y := Nat.mul_pos hx hy
  have k1 : 1 ≤ k := by
    rcases h with ⟨_, h⟩ | ⟨h, _⟩
    · rcases Nat.eq_zero_or_pos k with e | e
      · subst e; simp at h; omega
      · exact e
    · exact h
  refine ⟨k1, ?_, hy, .inl ?_⟩
  · rw [← hg, Nat.gcd_comm x y, Nat.gcd_rec y x, Nat.gcd_comm]
  · have hm := Nat.mod_lt x hy
    refine ⟨by omega, ?_⟩
    by_cases hyx : y ≤ x
    · have hlt : x * y < 2 ^ k := by
        rcases h with ⟨_, h⟩ | ⟨_, h⟩
        · exact h
        · exact Nat.lt_of_lt_of_le h (Nat.pow_le_pow_right (by omega) (by omega))
      have half : 2 * (x % y) ≤ x := by
        have := Nat.div_add_mod x y
        have : 1 ≤ x / y := (Nat.one_le_div_iff hy).mpr hyx
        have : y * 1 ≤ y * (x / y) := Nat.mul_le_mul_left y this
        omega
      have : y * (2 * (x % y)) ≤ y * x := Nat.mul_le_mul_left y half
      have e : 2 ^ k = 2 * 2 ^ (k - 1) := by
        have : k = (k - 1) + 1 := by omega
        rw [this, Nat.pow_succ, Nat.add_sub_cancel]; omega
      rw [Nat.mul_comm y x, Nat.mul_left_comm] at this
      omega
    · rw [Nat.mod_eq_of_lt (by omega), Nat.mul_comm]
      rcases h with ⟨h, _⟩ | ⟨_, h⟩
      · omega
      · exact h
theorem Eu.start {x y : Nat} (hx : 0 < x) (hx2 : x < 2 ^ 59) (hy2 : y < 2 ^ 59) : Eu (Nat.gcd x y) 120 x y := by
  refine ⟨rfl, hx, .inr ⟨by omega, ?_⟩⟩
  have : x * y ≤ 2 ^ 59 * 2 ^ 59 := Nat.mul_le_mul (by omega) (by omega)
  exact Nat.lt_of_le_of_lt this (by decide)
theorem Eu.lt {g k x y : Nat} (h : Eu g k x y) (hk : k ≤ 120) : ((y : Nat) : Int) < 2 ^ 8000 := by
  obtain ⟨_, hx, h⟩ := h
  have a : x * y < 2 ^ 120 := by
    rcases h with ⟨_, h⟩ | ⟨_, h⟩
    · exact Nat.lt_of_lt_of_le h (Nat.pow_le_pow_right (by omega) hk)
    · exact Nat.lt_of_lt_of_le h (Nat.pow_le_pow_right (by omega) (by omega))
  have b : y ≤ x * y := Nat.le_mul_of_pos_left y hx
  have c : ((y : Nat) : Int) < 2 ^ 120 := by have : y < 2 ^ 120 := by omega
                                             omega
  exact Int.lt_trans c (by decide +kernel)
section
variable [HasD G (σ 55) (d_common_divisor σ)]
theorem common_divisor_ok (hW : 2000 ≤ G.W) (x y : Nat) (hx : 0 < x) (hx2 : x < 2 ^ 59) (hy2 : y < 2 ^ 59) (m : Sto) : callD G (n + 1) (σ 55) [.int (x : Nat), .int (y : Nat)] m = .ok (.int (Nat.gcd x y : Nat)) m := by
  refine po_eq ?_; refine po_callD rfl ?_; simp only [d_common_divisor, f_common_divisor]; simp only [List.map_cons, List.map_nil, List.length_cons, List.length_nil, List.cons_append, List.nil_append, List.replicate]
  refine po_seq ?_
  simp [den]
  refine while_po (fun k env m' => m' = m ∧ ∃ a b : Nat, env = [some (.int (a : Nat)), some (.int (b : Nat))] ∧ Eu (Nat.gcd x y) k a b ∧ k ≤ 120) (k := 120) (by show 120 < G.W; omega) ⟨rfl, x, y, rfl, Eu.start hx hx2 hy2, by omega⟩ ?_
  rintro k env m' ⟨rfl, a, b, rfl, he, hk⟩
  simp
  split
  · rename_i hb
    obtain ⟨k1, he2⟩ := he.step (by omega)
    refine po_seq ?_
    have dk : divOk (b : Int) = true := divOk_of (by omega) (he.lt hk)
    simp [den, dk]
    exact ⟨by omega, k - 1, by omega, b, a % b, ⟨rfl, emodN a b⟩, he2, by omega⟩
  · rename_i hb
    have : b = 0 := by omega
    subst this
    refine po_seq ?_
    simp [den]
    have := he.1
    simp at this
    rw [this]
end
/-- in lowest terms -/
def fr (t b : Nat) : Nat × Nat := (t / Nat.gcd t b, b / Nat.gcd t b)
theorem fr_ok {t b : Nat} (ht : 0 < t) (hb : 0 < b) : (fr t b).1 * b = (fr t b).2 * t ∧ Nat.gcd (fr t b).1 (fr t b).2 = 1 ∧ 0 < (fr t b).1 ∧ 0 < (fr t b).2 ∧ (fr t b).1 ≤ t ∧ (fr t b).2 ≤ b := by
  have g0 : 0 < Nat.gcd t b := Nat.gcd_pos_of_pos_left b ht
  have g1 := Nat.gcd_dvd_left t b
  have g2 := Nat.gcd_dvd_right t b
  unfold fr
  refine ⟨?_, Nat.gcd_div_gcd_div_gcd_of_pos_left ht, Nat.div_pos (Nat.le_of_dvd ht g1) g0, Nat.div_pos (Nat.le_of_dvd hb g2) g0, Nat.div_le_self .., Nat.div_le_self ..⟩
  obtain ⟨c, hc⟩ := g1
  obtain ⟨d, hd⟩ := g2
  generalize Nat.gcd t b = g at *
  subst hc
  subst hd
  show g * c / g * (g * d) = g * d / g * (g * c)
  rw [Nat.mul_div_cancel_left _ g0, Nat.mul_div_cancel_left _ g0]
  ac_rfl
def rstep (p : Nat × Nat) : Bk.Step → Nat × Nat
  | .plus _ => p
  | .times a b _ _ => fr (p.1 * (fr a.toNat b.toNat).1) (p.2 * (fr a.toNat b.toNat).2)
def rate (l : List Bk.Step) : Nat × Nat := l.foldl rstep (1, 1)
def ov1 (x : Nat) : Bk.Step → Nat
  | .plus _ => x
  | .times a _ _ _ => x * a.toNat
def un1 (x : Nat) : Bk.Step → Nat
  | .plus _ => x
  | .times _ b _ _ => x * b.toNat
def ov (l : List Bk.Step) : Nat := l.foldl ov1 1
def un (l : List Bk.Step) : Nat := l.foldl un1 1
structure RI (i : Nat) (p : Nat × Nat) (A B : Nat) : Prop where
  x : p.1 * B = p.2 * A
  g : Nat.gcd p.1 p.2 = 1
  p1 : 0 < p.1
  p2 : 0 < p.2
  l1 : p.1 ≤ A
  l2 : p.2 ≤ B
  b1 : A ≤ 200 ^ i
  b2 : B ≤ 200 ^ i
theorem RI.step {i A B : Nat} {p : Nat × Nat} (h : RI i p A B) {s : Bk.Step} (hs : s.ok) : RI (i + 1) (rstep p s) (ov1 A s) (un1 B s) := by
  cases s with
  | plus c =>
    have : 200 ^ i ≤ 200 ^ (i + 1) := Nat.pow_le_pow_right (by omega) (by omega)
    exact ⟨h.x, h.g, h.p1, h.p2, h.l1, h.l2, by have := h.b1; show A ≤ _; omega, by have := h.b2; show B ≤ _; omega⟩
  | times a b w u =>
    obtain ⟨h1, h2, h3, h4, h5, h6⟩ := hs
    have e := fr_ok (t := a.toNat) (b := b.toNat) (by omega) (by omega)
    show RI (i + 1) (fr (p.1 * (fr a.toNat b.toNat).1) (p.2 * (fr a.toNat b.toNat).2)) (A * a.toNat) (B * b.toNat)
    generalize fr a.toNat b.toNat = f at *
    obtain ⟨e1, e2, e3, e4, e5, e6⟩ := e
    have q := fr_ok (t := p.1 * f.1) (b := p.2 * f.2) (Nat.mul_pos h.p1 e3) (Nat.mul_pos h.p2 e4)
    generalize fr (p.1 * f.1) (p.2 * f.2) = z at *
    obtain ⟨q1, q2, q3, q4, q5, q6⟩ := q
    have t1 : A * a.toNat ≤ 200 ^ i * 200 := Nat.mul_le_mul h.b1 (by omega)
    have t2 : B * b.toNat ≤ 200 ^ i * 200 := Nat.mul_le_mul h.b2 (by omega)
    refine ⟨?_, q2, q3, q4, Nat.le_trans q5 (Nat.mul_le_mul h.l1 e5), Nat.le_trans q6 (Nat.mul_le_mul h.l2 e6), by rw [Nat.pow_succ]; exact t1, by rw [Nat.pow_succ]; exact t2⟩
    have pos : 0 < p.2 * f.2 := Nat.mul_pos h.p2 e4
    refine Nat.eq_of_mul_eq_mul_right pos ?_
    calc z.1 * (B * b.toNat) * (p.2 * f.2) = z.1 * (p.2 * f.2) * (B * b.toNat) := by ac_rfl
      _ = z.2 * (p.1 * f.1) * (B * b.toNat) := by rw [q1]
      _ = z.2 * ((p.1 * B) * (f.1 * b.toNat)) := by ac_rfl
      _ = z.2 * ((p.2 * A) * (f.2 * a.toNat)) := by rw [h.x, e1]
      _ = z.2 * (A * a.toNat) * (p.2 * f.2) := by ac_rfl
theorem RI.of : ∀ (l : List Bk.Step), (∀ s ∈ l, s.ok) → RI l.length (rate l) (ov l) (un l) := by
  have go : ∀ (l : List Bk.Step) (i : Nat) (p : Nat × Nat) (A B : Nat), (∀ s ∈ l, s.ok) → RI i p A B → RI (i + l.length) (l.foldl rstep p) (l.foldl ov1 A) (l.foldl un1 B) := by
    intro l
    induction l with
    | nil => intro i p A B _ h; exact h
    | cons s l ih =>
      intro i p A B hs h
      have := ih (i + 1) _ _ _ (fun t ht => hs t (by simp [ht])) (h.step (hs s (by simp)))
      rw [show i + 1 + l.length = i + (s :: l).length by simp; omega] at this
      exact this
  intro l hl
  have := go l 0 (1, 1) 1 1 hl ⟨rfl, rfl, by simp, by simp, by simp, by simp, by simp, by simp⟩
  rw [Nat.zero_add] at this
  exact this
section
variable [HasD G (σ 56) (d_fraction σ)] [HasD G (σ 55) (d_common_divisor σ)]
theorem fraction_ok (hW : 2000 ≤ G.W) (t b : Nat) (ht : 0 < t) (hb : 0 < b) (ht2 : t < 2 ^ 59) (hb2 : b < 2 ^ 59) (m : Sto) : callD G (n + 2) (σ 56) [.int (t : Nat), .int (b : Nat)] m = .ok (.tup [.int ((fr t b).1 : Nat), .int ((fr t b).2 : Nat)]) m := by
  refine po_eq ?_; refine po_callD rfl ?_; simp only [d_fraction, f_fraction]; simp only [List.map_cons, List.map_nil, List.length_cons, List.length_nil, List.cons_append, List.nil_append, List.replicate]
  have g0 : 0 < Nat.gcd t b := Nat.gcd_pos_of_pos_left b ht
  have gl : Nat.gcd t b ≤ t := Nat.gcd_le_left b ht
  have dg : divOk ((Nat.gcd t b : Nat) : Int) = true := divOk_of (by omega) (Int.lt_trans (show ((Nat.gcd t b : Nat) : Int) < 2 ^ 60 by omega) (by decide +kernel))
  have ab : (if (t : Int) < 0 then -(t : Int) else t) = t := by rw [if_neg (by omega)]
  refine po_seq ?_
  simp [den, ab, common_divisor_ok (n := n) hW t b ht ht2 hb2]
  refine po_seq ?_
  simp [den, dg]
  exact ⟨edivN _ _, edivN _ _⟩
end
section
variable [HasD G (σ 57) (d_times σ)] [HasD G (σ 56) (d_fraction σ)] [HasD G (σ 55) (d_common_divisor σ)]
theorem times_ok (hW : 2000 ≤ G.W) (a b c d : Nat) (ha : 0 < a) (hb : 0 < b) (hc : 0 < c) (hd : 0 < d) (h1 : a * c < 2 ^ 59) (h2 : b * d < 2 ^ 59) (m : Sto) : callD G (n + 3) (σ 57) [.tup [.int (a : Nat), .int (b : Nat)], .tup [.int (c : Nat), .int (d : Nat)]] m = .ok (.tup [.int ((fr (a * c) (b * d)).1 : Nat), .int ((fr (a * c) (b * d)).2 : Nat)]) m := by
  refine po_eq ?_; refine po_callD rfl ?_; simp only [d_times, f_times]; simp only [List.map_cons, List.map_nil, List.length_cons, List.length_nil, List.cons_append, List.nil_append, List.replicate]
  have c1 : c ≤ a * c := Nat.le_mul_of_pos_left c ha
  have d1 : d ≤ b * d := Nat.le_mul_of_pos_left d hb
  have m1 : mulOk (a : Int) (c : Int) = true := mulOk_r (by omega) (by omega)
  have m2 : mulOk (b : Int) (d : Int) = true := mulOk_r (by omega) (by omega)
  refine po_seq ?_
  simp [den, m1, m2, -Int.natCast_mul]
  have f := fraction_ok (n := n) (σ := σ) hW (a * c) (b * d) (Nat.mul_pos ha hc) (Nat.mul_pos hb hd) h1 h2 m
  rw [← mulN, ← mulN] at f
  simp [f]
end
section
variable [HasD G (σ 58) (d_rate_of σ)] [HasD G (σ 56) (d_fraction σ)] [HasD G (σ 57) (d_times σ)] [HasD G (σ 55) (d_common_divisor σ)]
theorem rate_of_ok (hW : 2000 ≤ G.W) (l : List Bk.Step) (hl : l.length ≤ 6) (ok : ∀ s ∈ l, s.ok) (m : Sto) : callD G (n + 4) (σ 58) [rowD l] m = .ok (.tup [.int ((rate l).1 : Nat), .int ((rate l).2 : Nat)]) m := by
  refine po_eq ?_; refine po_callD rfl ?_; simp only [d_rate_of, f_rate_of]; simp only [List.map_cons, List.map_nil, List.length_cons, List.length_nil, List.cons_append, List.nil_append, List.replicate]
  refine po_seq ?_
  simp [den]
  refine po_seq ?_
  simp [den]
  refine forL_po (n := (dsteps l).length) (fun i env m' => m' = m ∧ ∃ x, env = [some (rowD l), some (.tup [.int ((rate (l.take i)).1 : Nat), .int ((rate (l.take i)).2 : Nat)]), x]) rfl ⟨rfl, _, rfl⟩ ?_ ?_
  · rintro i env m' d hi hd ⟨rfl, x, rfl⟩
    unfold dsteps at hd hi
    rw [List.length_map] at hi
    rw [List.getElem?_map] at hd
    obtain ⟨s, hs, rfl⟩ := Option.map_eq_some_iff.mp hd
    have hm : s ∈ l := List.mem_of_getElem? hs
    have oks := ok s hm
    have ri := RI.of (l.take i) fun t ht => ok t (List.mem_of_mem_take ht)
    have tk : rate (l.take (i + 1)) = rstep (rate (l.take i)) s := by
      rw [List.take_add_one, hs]
      simp [rate]
    have li : (l.take i).length = i := by rw [List.length_take]; omega
    rw [li] at ri
    have p5 : 200 ^ i ≤ 200 ^ 5 := Nat.pow_le_pow_right (by omega) (by omega)
    have b1 : (rate (l.take i)).1 ≤ 200 ^ 5 := Nat.le_trans ri.l1 (Nat.le_trans ri.b1 p5)
    have b2 : (rate (l.take i)).2 ≤ 200 ^ 5 := Nat.le_trans ri.l2 (Nat.le_trans ri.b2 p5)
    have q1 := ri.p1
    have q2 := ri.p2
    simp
    rw [tk]
    generalize rate (l.take i) = p at *
    cases s with
    | plus c =>
      refine po_seq ?_
      simp [den, Step.d, eqS, ofS_inj, rstep]
    | times a b w u =>
      obtain ⟨h1, h2, h3, h4, h5, h6⟩ := oks
      have e := fr_ok (t := a.toNat) (b := b.toNat) (by omega) (by omega)
      have fo : ∀ m, callD G (n + 3) (σ 56) [.int a, .int b] m = .ok (.tup [.int ((fr a.toNat b.toNat).1 : Nat), .int ((fr a.toNat b.toNat).2 : Nat)]) m := fun m => by
        have := fraction_ok (n := n + 1) (σ := σ) hW a.toNat b.toNat (by omega) (by omega) (by omega) (by omega) m
        rw [show ((a.toNat : Nat) : Int) = a by omega, show ((b.toNat : Nat) : Int) = b by omega] at this
        exact this
      refine po_seq ?_
      simp [den, Step.d, eqS]
      refine po_seq ?_
      have k1 : p.1 * (fr a.toNat b.toNat).1 ≤ 200 ^ 5 * 200 := Nat.mul_le_mul b1 (by omega)
      have k2 : p.2 * (fr a.toNat b.toNat).2 ≤ 200 ^ 5 * 200 := Nat.mul_le_mul b2 (by omega)
      simp [den, fo, times_ok (n := n) (σ := σ) hW p.1 p.2 (fr a.toNat b.toNat).1 (fr a.toNat b.toNat).2 q1 q2 e.2.2.1 e.2.2.2.1 (by omega) (by omega), rstep]
  · rintro env m' ⟨rfl, x, rfl⟩
    refine po_seq ?_; simp [den]
    rw [List.take_of_length_le (by simp [dsteps])]
    exact ⟨rfl, rfl⟩
end
def rateD (l : List Bk.Step) : D := .tup (dints [((rate l).1 : Int), ((rate l).2 : Int)])
def rowAll (B : Book) (k : Knd) : List Bk.Step := k.steps ++ (B.groups.getD k.grp [] ++ B.whole)
theorem rowAll_ok {B : Book} (h : B.Ok) {k : Knd} (hk : k ∈ B.kinds) : (rowAll B k).length ≤ 6 ∧ ∀ s ∈ rowAll B k, s.ok := by
  have a := h.kr k hk
  have b := h.wr
  have hg := h.kg k hk
  have c : rowOk (B.groups.getD k.grp []) := by
    simp only [List.getD, List.getElem?_eq_getElem hg, Option.getD_some]
    exact h.gr _ (List.getElem_mem _)
  refine ⟨?_, ?_⟩
  · unfold rowAll
    rw [List.length_append, List.length_append]
    have := a.1
    have := b.1
    have := c.1
    omega
  · intro s hs
    unfold rowAll at hs
    rcases List.mem_append.mp hs with h | hs
    · exact a.2 s h
    · rcases List.mem_append.mp hs with h | hs
      · exact c.2 s h
      · exact b.2 s hs
theorem dsteps_app (a b : List Bk.Step) : dsteps (a ++ b) = dsteps a ++ dsteps b := by unfold dsteps; rw [List.map_append]
theorem at_grp {B : Book} (h : B.Ok) {k : Knd} (hk : k ∈ B.kinds) : atI (B.groups.map rowD) (k.grp : Nat) = some (rowD (B.groups.getD k.grp [])) := by
  have hg := h.kg k hk
  unfold atI
  rw [ixN_of (by omega) (by rw [List.length_map]; omega)]
  show (B.groups.map rowD)[((k.grp : Nat) : Int).toNat]? = _
  rw [Int.toNat_natCast, List.getElem?_map, List.getElem?_eq_getElem hg]
  simp only [List.getD, List.getElem?_eq_getElem hg, Option.getD_some]
  rfl
section
variable [HasD G (σ 59) (d_Book_rate σ)] [HasM G "Book" "kind_at" (σ 37)] [HasF G "Book" "heaps"] [HasF G "Book" "last"] [HasD G (σ 58) (d_rate_of σ)] [HasD G (σ 37) (d_Book_kind_at σ)]
  [HasF G "Book" "sorts"] [HasD G (σ 56) (d_fraction σ)] [HasD G (σ 57) (d_times σ)] [HasD G (σ 55) (d_common_divisor σ)]
theorem Book_rate_ok (hW : 2000 ≤ G.W) (B : Book) (h : B.Ok) (x : Str) (k : Knd) (hk : B.kind x = some k) (p : Nat) (m : Sto) (hp : m[p]? = some (bookOb B)) : callD G (n + 5) (σ 59) [.ref p, .str x] m = .ok (rateD (rowAll B k)) m := by
  refine po_eq ?_; refine po_callD rfl ?_; simp only [d_Book_rate, f_Book_rate]; simp only [List.map_cons, List.map_nil, List.length_cons, List.length_nil, List.cons_append, List.nil_append, List.replicate]
  have hm := kind_mem hk
  have pm : preMe (phi G (n + 4)) "kind_at" (.ref p) m = .ok (σ 37) m := pre_me hp rfl
  have ra := rowAll_ok h hm.1
  have l1 := (h.kr k hm.1).1
  refine po_seq ?_; simp [den, pm, Book_kind_at_ok B h x k hk p m hp]
  have ro := rate_of_ok (n := n) (σ := σ) hW (rowAll B k) ra.1 ra.2 m
  have e : (rowD (rowAll B k)) = .tup (dsteps k.steps ++ (dsteps (B.groups.getD k.grp []) ++ dsteps B.whole)) := by show D.tup (dsteps (k.steps ++ (B.groups.getD k.grp [] ++ B.whole))) = _; rw [dsteps_app, dsteps_app]
  rw [e] at ro
  have ll : (dsteps k.steps).length + ((dsteps (B.groups.getD k.grp [])).length + (dsteps B.whole).length) ≤ LIM := by
    have := ra.1
    unfold rowAll at this
    simp only [List.length_append] at this
    simp only [dsteps, List.length_map]
    unfold LIM; omega
  refine po_seq ?_
  simp [den, Knd.d, bHeaps hp, bLast hp, at_grp h hm.1]
  rw [← List.getD_eq_getElem?_getD]
  refine ⟨ll, ?_⟩
  rw [ro, v_ok]
  exact ⟨rfl, rfl⟩
end
section
variable [HasD G (σ 60) (d_L_common σ)]
theorem L_common_ok (x y : Nat) (hx : 0 < x) (hx2 : x < 2 ^ 59) (hy2 : y < 2 ^ 59) (m : Sto) : callD G (n + 1) (σ 60) [.int (x : Nat), .int (y : Nat)] m = .ok (.int (Nat.gcd x y : Nat)) m := by
  refine po_eq ?_; refine po_callD rfl ?_; simp only [d_L_common, f_L_common]; simp only [List.map_cons, List.map_nil, List.length_cons, List.length_nil, List.cons_append, List.nil_append, List.replicate]
  refine po_seq ?_
  simp [den]
  refine po_seq ?_
  simp [den]
  refine ⟨rfl, ?_⟩
  refine forL_po (n := (rangeL 0 400).length) (fun i env m' => m' = m ∧ ∃ (a b k : Nat) (x4 : Option D), env = [some (.int (x : Nat)), some (.int (y : Nat)), some (.int (a : Nat)), some (.int (b : Nat)), x4] ∧ Eu (Nat.gcd x y) k a b ∧ k ≤ 120 - i) rfl ⟨rfl, x, y, 120, _, rfl, Eu.start hx hx2 hy2, by omega⟩ ?_ ?_
  · rintro i env m' d hi hd ⟨rfl, a, b, k, x4, rfl, he, hk⟩
    simp
    refine po_seq ?_
    simp [den]
    split
    · rename_i hb
      subst hb
      refine po_seq ?_
      simp [den]
      refine po_seq ?_
      simp [den]
      have := he.1
      simp at this
      rw [this]
    · rename_i hb
      obtain ⟨k1, he2⟩ := he.step (by omega)
      have dk : divOk (b : Int) = true := divOk_of (by omega) (he.lt (by omega))
      refine po_seq ?_
      simp [den, dk]
      exact ⟨by omega, b, a % b, ⟨rfl, emodN a b⟩, k - 1, he2, by omega⟩
  · rintro env m' ⟨rfl, a, b, k, x4, rfl, he, hk⟩
    have l4 : (rangeL 0 400).length = 400 := by rw [rangeL_len]; rfl
    rw [l4] at hk
    have : b = 0 := by
      rcases Nat.eq_zero_or_pos b with e | e
      · exact e
      · have := (he.step e).1; omega
    subst this
    refine po_seq ?_
    simp [den]
    have := he.1
    simp at this
    rw [this]
end
section
variable [HasD G (σ 61) (d_L_rated σ)] [HasD G (σ 60) (d_L_common σ)]
theorem L_rated_ok (l : List Bk.Step) (hl : l.length ≤ 6) (ok : ∀ s ∈ l, s.ok) (m : Sto) : callD G (n + 2) (σ 61) [rateD l, rowD l] m = .ok (.bl true) m := by
  refine po_eq ?_; refine po_callD rfl ?_; simp only [d_L_rated, f_L_rated]; simp only [List.map_cons, List.map_nil, List.length_cons, List.length_nil, List.cons_append, List.nil_append, List.replicate]
  have ri := RI.of l ok
  have p6 : 200 ^ l.length ≤ 200 ^ 6 := Nat.pow_le_pow_right (by omega) hl
  refine po_seq ?_
  simp [den]
  refine po_seq ?_
  simp [den]
  refine forL_po (n := (dsteps l).length) (fun i env m' => m' = m ∧ ∃ x4 x5, env = [some (rateD l), some (rowD l), some (.int (ov (l.take i) : Nat)), some (.int (un (l.take i) : Nat)), x4, x5]) rfl ⟨rfl, _, _, rfl⟩ ?_ ?_
  · rintro i env m' d hi hd ⟨rfl, x4, x5, rfl⟩
    unfold dsteps at hd hi
    rw [List.getElem?_map] at hd
    obtain ⟨s, hs, rfl⟩ := Option.map_eq_some_iff.mp hd
    have hm : s ∈ l := List.mem_of_getElem? hs
    have oks := ok s hm
    have t1 : ov (l.take (i + 1)) = ov1 (ov (l.take i)) s := by rw [List.take_add_one, hs]; simp [ov]
    have t2 : un (l.take (i + 1)) = un1 (un (l.take i)) s := by rw [List.take_add_one, hs]; simp [un]
    simp
    rw [t1, t2]
    generalize ov (l.take i) = A
    generalize un (l.take i) = B
    cases s with
    | plus c =>
      refine po_seq ?_
      simp [den, Step.d, eqS, ofS_inj, ov1, un1]
    | times a b w u =>
      obtain ⟨h1, h2, h3, h4, h5, h6⟩ := oks
      refine po_seq ?_
      simp [den, Step.d, eqS]
      refine po_seq ?_
      simp [den, mulOk_r (i := (A : Int)) (j := a) (by omega) (by omega), mulOk_r (i := (B : Int)) (j := b) (by omega) (by omega), ov1, un1]
      rw [show max a 0 = a by omega, show max b 0 = b by omega]
      exact ⟨rfl, rfl⟩
  · rintro env m' ⟨rfl, x4, x5, rfl⟩
    rw [List.take_of_length_le (by simp [dsteps])]
    refine po_seq ?_
    simp [den, rateD]
    refine po_seq ?_
    simp [den]
    have q1 := ri.p1
    have q2 := ri.p2
    have l1 := ri.l1
    have l2 := ri.l2
    have b1 := ri.b1
    have b2 := ri.b2
    refine eq_po (lcL_of (e := D.int) (f := fun _ => .bl false) (l := [((rate l).1 : Int), ((rate l).2 : Int)]) (fun x hx => po_eq ?_) (show 2 ≤ LIM by decide)) ?_
    · have : 1 ≤ x := by
        simp only [List.mem_cons, List.not_mem_nil, or_false] at hx
        omega
      simp [lcTurn, ifT, wipeE]
      omega
    · have an : ∀ P m, callB P .any [.lst [.bl false, .bl false]] m = .ok (.bl false) m := fun P m => rfl
      simp [an]
      have c1 := L_common_ok (G := G) (n := n) (σ := σ) (rate l).1 (rate l).2 q1 (by omega) (by omega) m'
      have a0 : atI (dints [((rate l).1 : Int), ((rate l).2 : Int)]) 0 = some (.int ((rate l).1 : Int)) := rfl
      have a1 : atI (dints [((rate l).1 : Int), ((rate l).2 : Int)]) 1 = some (.int ((rate l).2 : Int)) := rfl
      refine po_seq ?_
      have x0 := ri.x
      have x1 : ((rate l).1 : Int) * ((un l : Nat) : Int) = ((rate l).2 : Int) * ((ov l : Nat) : Int) := by rw [mulN, mulN, x0]
      simp [den, a0, a1, mulOk_r (i := ((rate l).1 : Int)) (j := ((un l : Nat) : Int)) (by omega) (by omega), mulOk_r (i := ((rate l).2 : Int)) (j := ((ov l : Nat) : Int)) (by omega) (by omega), c1, x1, ri.g]
end
end Tx

/-! # PdL: periods, plain -/
namespace Bk
open PySem LC
/-- of what a product must be a multiple -/
def wd (b : Int) (w : Way) (u : Int) : Nat := b.toNat * u.toNat * (if w = .neven then 2 else 1)
def turnsOf (a : Int) (r : Nat) (w : Nat) : Nat := w / Nat.gcd a.toNat w / Nat.gcd r (w / Nat.gcd a.toNat w)
def pstep (p : Nat × Nat) : Step → Nat × Nat
  | .plus _ => p
  | .times a b w u => (p.1 * turnsOf a p.2 (wd b w u), p.2 * turnsOf a p.2 (wd b w u) * a.toNat / b.toNat)
def perS (l : List Step) (p : Nat × Nat) : Nat × Nat := l.foldl pstep p
def per (l : List Step) : Nat := (perS l (1, 1)).1
/-- a number goes through steps -/
def goN : List Step → Nat → Bool
  | [], _ => true
  | .plus _ :: l, x => goN l x
  | .times a b w u :: l, x => if x * a.toNat % wd b w u = 0 then goN l (x * a.toNat / b.toNat) else false
theorem dvd_mul_iff {w a r k : Nat} (hw : 0 < w) (ha : 0 < a) (hr : 0 < r) : w ∣ r * k * a ↔ w / Nat.gcd a w / Nat.gcd r (w / Nat.gcd a w) ∣ k := by
  have g0 : 0 < Nat.gcd a w := Nat.gcd_pos_of_pos_left w ha
  have key : ∀ {w a k : Nat}, 0 < a → (w ∣ a * k ↔ w / Nat.gcd a w ∣ k) := fun {w a k} ha => by
    have g0 : 0 < Nat.gcd a w := Nat.gcd_pos_of_pos_left w ha
    obtain ⟨c, hc⟩ := Nat.gcd_dvd_right a w
    obtain ⟨d, hd⟩ := Nat.gcd_dvd_left a w
    have cop : Nat.Coprime c d := by
      have := Nat.coprime_div_gcd_div_gcd g0
      have e1 : a / Nat.gcd a w = d := Nat.div_eq_of_eq_mul_right g0 hd
      have e2 : w / Nat.gcd a w = c := Nat.div_eq_of_eq_mul_right g0 hc
      rw [e1, e2] at this
      exact this.symm
    have e2 : w / Nat.gcd a w = c := Nat.div_eq_of_eq_mul_right g0 hc
    rw [e2]
    generalize Nat.gcd a w = g at *
    subst hc
    subst hd
    constructor
    · intro h
      rw [Nat.mul_assoc] at h
      have := Nat.dvd_of_mul_dvd_mul_left g0 h
      exact cop.dvd_of_dvd_mul_left this
    · rintro ⟨j, rfl⟩
      exact ⟨d * j, by ac_rfl⟩
  rw [show r * k * a = a * (r * k) by ac_rfl, key ha, key hr]
theorem pstep_pos {a b : Int} {w : Way} {u : Int} (h : (Step.times a b w u).ok) {p : Nat × Nat} (h1 : 0 < p.1) (h2 : 0 < p.2) :
    0 < turnsOf a p.2 (wd b w u) ∧ b.toNat ∣ p.2 * turnsOf a p.2 (wd b w u) * a.toNat ∧ 0 < p.2 * turnsOf a p.2 (wd b w u) * a.toNat / b.toNat := by
  obtain ⟨a1, a2, b1, b2, u1, u2⟩ := h
  have hw : 0 < wd b w u := Nat.mul_pos (Nat.mul_pos (by omega) (by omega)) (by split <;> omega)
  have ha : 0 < a.toNat := by omega
  have t0 : 0 < turnsOf a p.2 (wd b w u) := by
    unfold turnsOf
    have g1 := Nat.gcd_dvd_right a.toNat (wd b w u)
    have z1 : 0 < wd b w u / Nat.gcd a.toNat (wd b w u) := Nat.div_pos (Nat.le_of_dvd hw g1) (Nat.gcd_pos_of_pos_left _ ha)
    exact Nat.div_pos (Nat.le_of_dvd z1 (Nat.gcd_dvd_right _ _)) (Nat.gcd_pos_of_pos_left _ h2)
  have d : b.toNat ∣ p.2 * turnsOf a p.2 (wd b w u) * a.toNat := by
    have := (dvd_mul_iff (w := wd b w u) (a := a.toNat) (r := p.2) (k := turnsOf a p.2 (wd b w u)) hw ha h2).mpr (Nat.dvd_refl _)
    refine Nat.dvd_trans ?_ this
    unfold wd
    exact ⟨u.toNat * (if w = .neven then 2 else 1), by ac_rfl⟩
  exact ⟨t0, d, Nat.div_pos (Nat.le_of_dvd (Nat.mul_pos (Nat.mul_pos h2 t0) ha) d) (by omega)⟩
theorem perS_dvd : ∀ (l : List Step) (p : Nat × Nat), p.1 ∣ (perS l p).1
  | [], p => Nat.dvd_refl _
  | .plus _ :: l, p => perS_dvd l p
  | .times a b w u :: l, p => Nat.dvd_trans ⟨_, rfl⟩ (perS_dvd l (pstep p (.times a b w u)))
theorem goN_iff : ∀ (l : List Step) (p : Nat × Nat) (k : Nat), (∀ s ∈ l, s.ok) → 0 < p.1 → 0 < p.2 → (goN l (p.2 * k) = true ↔ (perS l p).1 ∣ p.1 * k)
  | [], p, k, _, _, _ => by simpa [goN, perS] using Nat.dvd_mul_right p.1 k
  | .plus c :: l, p, k, h, h1, h2 => goN_iff l p k (fun s hs => h s (by simp [hs])) h1 h2
  | .times a b w u :: l, p, k, h, h1, h2 => by
    have hs := h (.times a b w u) (by simp)
    obtain ⟨t0, bd, r0⟩ := pstep_pos hs h1 h2
    obtain ⟨a1, a2, b1, b2, u1, u2⟩ := hs
    have hw : 0 < wd b w u := Nat.mul_pos (Nat.mul_pos (by omega) (by omega)) (by split <;> omega)
    have di := dvd_mul_iff (w := wd b w u) (a := a.toNat) (r := p.2) (k := k) hw (by omega) h2
    show (if p.2 * k * a.toNat % wd b w u = 0 then goN l (p.2 * k * a.toNat / b.toNat) else false) = true ↔ (perS l (pstep p (.times a b w u))).1 ∣ p.1 * k
    by_cases hd : wd b w u ∣ p.2 * k * a.toNat
    · rw [if_pos (Nat.mod_eq_zero_of_dvd hd)]
      obtain ⟨j, hj⟩ := di.mp hd
      have ih := goN_iff l (pstep p (.times a b w u)) j (fun s hs => h s (by simp [hs])) (Nat.mul_pos h1 t0) r0
      have e1 : p.2 * k * a.toNat / b.toNat = p.2 * turnsOf a p.2 (wd b w u) * a.toNat / b.toNat * j := by
        have e : p.2 * k * a.toNat = p.2 * turnsOf a p.2 (wd b w u) * a.toNat * j := by
          rw [hj]; unfold turnsOf; ac_rfl
        rw [e, Nat.mul_comm _ j, Nat.mul_div_assoc _ bd, Nat.mul_comm]
      have e2 : p.1 * k = p.1 * turnsOf a p.2 (wd b w u) * j := by rw [hj]; unfold turnsOf; ac_rfl
      rw [e1, e2]
      exact ih
    · rw [if_neg fun z => hd (Nat.dvd_of_mod_eq_zero z)]
      constructor
      · intro z; cases z
      · intro z
        exfalso
        apply hd
        apply di.mpr
        have := Nat.dvd_trans (perS_dvd l (pstep p (.times a b w u))) z
        exact Nat.dvd_of_mul_dvd_mul_left h1 this
theorem goN_per {l : List Step} (h : ∀ s ∈ l, s.ok) (x : Nat) : goN l x = true ↔ per l ∣ x := by
  have := goN_iff l (1, 1) x h (by decide) (by decide)
  simpa [per] using this
/-! ### bounds -/
theorem pstep_bd {s : Step} (hs : s.ok) {p : Nat × Nat} (h1 : 0 < p.1) (h2 : 0 < p.2) : 0 < (pstep p s).1 ∧ 0 < (pstep p s).2 ∧ (pstep p s).1 ≤ p.1 * 24000 ∧ (pstep p s).2 ≤ p.2 * 4800000 := by
  cases s with
  | plus c => exact ⟨h1, h2, by show p.1 ≤ _; omega, by show p.2 ≤ _; omega⟩
  | times a b w u =>
    obtain ⟨t0, bd, r0⟩ := pstep_pos hs h1 h2
    obtain ⟨a1, a2, b1, b2, u1, u2⟩ := hs
    have hw : wd b w u ≤ 24000 := by
      unfold wd
      have : b.toNat * u.toNat ≤ 200 * 60 := Nat.mul_le_mul (by omega) (by omega)
      have : b.toNat * u.toNat * (if w = .neven then 2 else 1) ≤ 200 * 60 * 2 := Nat.mul_le_mul this (by split <;> omega)
      exact this
    have ht : turnsOf a p.2 (wd b w u) ≤ 24000 := Nat.le_trans (Nat.div_le_self _ _) (Nat.le_trans (Nat.div_le_self _ _) hw)
    refine ⟨Nat.mul_pos h1 t0, r0, Nat.mul_le_mul_left _ ht, ?_⟩
    refine Nat.le_trans (Nat.div_le_self _ _) ?_
    have : p.2 * turnsOf a p.2 (wd b w u) * a.toNat ≤ p.2 * 24000 * 200 := Nat.mul_le_mul (Nat.mul_le_mul_left _ ht) (by omega)
    omega
structure PB (i : Nat) (p : Nat × Nat) : Prop where
  p1 : 0 < p.1
  p2 : 0 < p.2
  b1 : p.1 ≤ 24000 ^ i
  b2 : p.2 ≤ 4800000 ^ i
theorem PB.step {i : Nat} {p : Nat × Nat} (h : PB i p) {s : Step} (hs : s.ok) : PB (i + 1) (pstep p s) := by
  obtain ⟨a, b, c, d⟩ := pstep_bd hs h.p1 h.p2
  refine ⟨a, b, Nat.le_trans c ?_, Nat.le_trans d ?_⟩
  · rw [Nat.pow_succ]; exact Nat.mul_le_mul_right _ h.b1
  · rw [Nat.pow_succ]; exact Nat.mul_le_mul_right _ h.b2
theorem PB.of : ∀ (l : List Step), (∀ s ∈ l, s.ok) → PB l.length (perS l (1, 1)) := by
  have go : ∀ (l : List Step) (i : Nat) (p : Nat × Nat), (∀ s ∈ l, s.ok) → PB i p → PB (i + l.length) (perS l p) := by
    intro l
    induction l with
    | nil => intro i p _ h; exact h
    | cons s l ih =>
      intro i p hs h
      have := ih (i + 1) _ (fun t ht => hs t (by simp [ht])) (h.step (hs s (by simp)))
      rw [show i + 1 + l.length = i + (s :: l).length by simp; omega] at this
      exact this
  intro l hl
  have := go l 0 (1, 1) hl ⟨by decide, by decide, by simp, by simp⟩
  rw [Nat.zero_add] at this
  exact this
/-! ### the period's primes are small -/
def Prm (q : Nat) : Prop := 1 < q ∧ ∀ d, d ∣ q → d = 1 ∨ d = q
theorem Prm.mul {q x y : Nat} (h : Prm q) (d : q ∣ x * y) : q ∣ x ∨ q ∣ y := by
  rcases h.2 _ (Nat.gcd_dvd_left q x) with e | e
  · exact .inr ((show Nat.Coprime q x from e).dvd_of_dvd_mul_left d)
  · exact .inl (by rw [← e]; exact Nat.gcd_dvd_right q x)
theorem prm_of : ∀ (n : Nat), 1 < n → ∃ q, Prm q ∧ q ∣ n := by
  intro n
  induction n using Nat.strongRecOn with
  | _ n ih =>
    intro h
    by_cases z : ∃ d, d ∣ n ∧ d ≠ 1 ∧ d ≠ n
    · obtain ⟨d, d1, d2, d3⟩ := z
      have := Nat.le_of_dvd (by omega) d1
      have : d ≠ 0 := fun e => by subst e; have := Nat.eq_zero_of_zero_dvd d1; omega
      obtain ⟨q, q1, q2⟩ := ih d (by omega) (by omega)
      exact ⟨q, q1, Nat.dvd_trans q2 d1⟩
    · refine ⟨n, ⟨h, fun d hd => ?_⟩, Nat.dvd_refl _⟩
      by_cases e : d = 1
      · exact .inl e
      · by_cases e2 : d = n
        · exact .inr e2
        · exact absurd ⟨d, hd, e, e2⟩ z
theorem perS_prm {q : Nat} (hq : Prm q) : ∀ (l : List Step) (p : Nat × Nat), (∀ s ∈ l, s.ok) → q ∣ (perS l p).1 → q ∣ p.1 ∨ q ≤ 200
  | [], p, _, h => .inl h
  | .plus c :: l, p, hs, h => perS_prm hq l p (fun s hx => hs s (by simp [hx])) h
  | .times a b w u :: l, p, hs, h => by
    rcases perS_prm hq l (pstep p (.times a b w u)) (fun s hx => hs s (by simp [hx])) h with h | h
    · obtain ⟨a1, a2, b1, b2, u1, u2⟩ := hs (.times a b w u) (by simp)
      rcases hq.mul (show q ∣ p.1 * turnsOf a p.2 (wd b w u) from h) with h | h
      · exact .inl h
      · right
        have d1 : turnsOf a p.2 (wd b w u) ∣ wd b w u := Nat.dvd_trans (Nat.div_dvd_of_dvd (Nat.gcd_dvd_right _ _)) (Nat.div_dvd_of_dvd (Nat.gcd_dvd_right _ _))
        rcases hq.mul (show q ∣ b.toNat * u.toNat * (if w = .neven then 2 else 1) from Nat.dvd_trans h d1) with h | h
        · rcases hq.mul h with h | h
          · have := Nat.le_of_dvd (by omega) h; omega
          · have := Nat.le_of_dvd (by omega) h; omega
        · have := Nat.le_of_dvd (by split <;> omega) h
          split at this <;> omega
    · exact .inr h
theorem per_prm {q : Nat} (hq : Prm q) {l : List Step} (h : ∀ s ∈ l, s.ok) (d : q ∣ per l) : q ≤ 200 := by
  rcases perS_prm hq l (1, 1) h d with z | z
  · have := Nat.le_of_dvd (by decide) z; have := hq.1; omega
  · exact z
/-- the primes below 200, as the law finds them -/
def sieve : List Nat → List Nat → List Nat
  | [], f => f
  | k :: ks, f => sieve ks (if f.all (fun p => k % p != 0) then f ++ [k] else f)
def primes : List Nat := sieve ((List.range 198).map (· + 2)) []
theorem primes_len : primes.length ≤ 60 := by decide +kernel
theorem primes_bd : ∀ p ∈ primes, 2 ≤ p ∧ p < 200 := by decide +kernel
theorem primes_all : ∀ q, 2 ≤ q → q ≤ 200 → ∃ p ∈ primes, p ∣ q := by
  have : ∀ q, q ∈ (List.range 201) → 2 ≤ q → ∃ p ∈ primes, p ∣ q := by decide +kernel
  intro q h1 h2
  exact this q (List.mem_range.mpr (by omega)) h1
end Bk

/-! # PdV: periods, walked -/
namespace Tx
open PySem LC Bk
variable {G : Prog} {σ : Nat → Nat} {n : Nat}
theorem Eu.start2 {x y : Nat} (hx : 0 < x) (hx2 : x < 2 ^ 400) (hy2 : y < 2 ^ 400) : Eu (Nat.gcd x y) 802 x y := by
  refine ⟨rfl, hx, .inr ⟨by omega, ?_⟩⟩
  have : x * y ≤ 2 ^ 400 * 2 ^ 400 := Nat.mul_le_mul (by omega) (by omega)
  exact Nat.lt_of_le_of_lt this (by decide)
theorem Eu.lt2 {g k x y : Nat} (h : Eu g k x y) (hk : k ≤ 802) : ((y : Nat) : Int) < 2 ^ 8000 := by
  obtain ⟨_, hx, h⟩ := h
  have a : x * y < 2 ^ 802 := by
    rcases h with ⟨_, h⟩ | ⟨_, h⟩
    · exact Nat.lt_of_lt_of_le h (Nat.pow_le_pow_right (by omega) hk)
    · exact Nat.lt_of_lt_of_le h (Nat.pow_le_pow_right (by omega) (by omega))
  have b : y ≤ x * y := Nat.le_mul_of_pos_left y hx
  have c : ((y : Nat) : Int) < 2 ^ 802 := by have : y < 2 ^ 802 := by omega
                                             omega
  exact Int.lt_trans c (by decide +kernel)
section
variable [HasD G (σ 55) (d_common_divisor σ)]
theorem common_div2_ok (hW : 2000 ≤ G.W) (x y : Nat) (hx : 0 < x) (hx2 : x < 2 ^ 400) (hy2 : y < 2 ^ 400) (m : Sto) : callD G (n + 1) (σ 55) [.int (x : Nat), .int (y : Nat)] m = .ok (.int (Nat.gcd x y : Nat)) m := by
  refine po_eq ?_; refine po_callD rfl ?_; simp only [d_common_divisor, f_common_divisor]; simp only [List.map_cons, List.map_nil, List.length_cons, List.length_nil, List.cons_append, List.nil_append, List.replicate]
  refine po_seq ?_
  simp [den]
  refine while_po (fun k env m' => m' = m ∧ ∃ a b : Nat, env = [some (.int (a : Nat)), some (.int (b : Nat))] ∧ Eu (Nat.gcd x y) k a b ∧ k ≤ 802) (k := 802) (by show 802 < G.W; omega) ⟨rfl, x, y, rfl, Eu.start2 hx hx2 hy2, by omega⟩ ?_
  rintro k env m' ⟨rfl, a, b, rfl, he, hk⟩
  simp
  split
  · rename_i hb
    obtain ⟨k1, he2⟩ := he.step (by omega)
    refine po_seq ?_
    have dk : divOk (b : Int) = true := divOk_of (by omega) (he.lt2 hk)
    simp [den, dk]
    exact ⟨by omega, k - 1, by omega, b, a % b, ⟨rfl, emodN a b⟩, he2, by omega⟩
  · rename_i hb
    have : b = 0 := by omega
    subst this
    refine po_seq ?_
    simp [den]
    have := he.1
    simp at this
    rw [this]
end
theorem wd_eq (b : Int) (w : Way) (u : Int) (hb : 1 ≤ b) (hu : 1 ≤ u) : b * u * (if w = .neven then 2 else 1) = ((wd b w u : Nat) : Int) := by
  unfold wd
  push_cast
  rw [show ((b.toNat : Nat) : Int) = b by omega, show ((u.toNat : Nat) : Int) = u by omega]
  split <;> rfl
theorem way_even (w : Way) : (w.s = ("near even" : Str)) = (w = .neven) := by cases w <;> simp [Way.s, ofS_inj]
theorem wd_pos {a b : Int} {w : Way} {u : Int} (h : (Bk.Step.times a b w u).ok) : 0 < wd b w u ∧ wd b w u ≤ 24000 := by
  obtain ⟨a1, a2, b1, b2, u1, u2⟩ := h
  refine ⟨Nat.mul_pos (Nat.mul_pos (by omega) (by omega)) (by split <;> omega), ?_⟩
  unfold wd
  have : b.toNat * u.toNat ≤ 200 * 60 := Nat.mul_le_mul (by omega) (by omega)
  exact Nat.mul_le_mul this (show (if w = .neven then 2 else 1) ≤ 2 by split <;> omega)
theorem per_take {l : List Bk.Step} {i : Nat} {s : Bk.Step} (hs : l[i]? = some s) : perS (l.take (i + 1)) (1, 1) = pstep (perS (l.take i) (1, 1)) s := by
  rw [List.take_add_one, hs]
  simp [perS]
theorem pow6 {i : Nat} (h : i ≤ 6) : (24000 : Nat) ^ i ≤ 24000 ^ 6 ∧ (4800000 : Nat) ^ i ≤ 4800000 ^ 6 := ⟨Nat.pow_le_pow_right (by omega) h, Nat.pow_le_pow_right (by omega) h⟩
section
variable [HasD G (σ 62) (d_period_of σ)] [HasD G (σ 55) (d_common_divisor σ)]
theorem period_of_ok (hW : 2000 ≤ G.W) (l : List Bk.Step) (hl : l.length ≤ 6) (ok : ∀ s ∈ l, s.ok) (m : Sto) : callD G (n + 2) (σ 62) [rowD l] m = .ok (.int ((per l : Nat) : Int)) m := by
  refine po_eq ?_; refine po_callD rfl ?_; simp only [d_period_of, f_period_of]; simp only [List.map_cons, List.map_nil, List.length_cons, List.length_nil, List.cons_append, List.nil_append, List.replicate]
  refine po_seq ?_
  simp [den]
  refine po_seq ?_
  simp [den]
  refine forL_po (n := (dsteps l).length) (fun i env m' => m' = m ∧ ∃ x3 x4 x5 x6, env = [some (rowD l), some (.int (((perS (l.take i) (1, 1)).1 : Nat) : Int)), some (.int (((perS (l.take i) (1, 1)).2 : Nat) : Int)), x3, x4, x5, x6]) rfl ⟨rfl, _, _, _, _, rfl⟩ ?_ ?_
  · rintro i env m' d hi hd ⟨rfl, x3, x4, x5, x6, rfl⟩
    unfold dsteps at hd hi
    rw [List.length_map] at hi
    rw [List.getElem?_map] at hd
    obtain ⟨s, hs, rfl⟩ := Option.map_eq_some_iff.mp hd
    have hm : s ∈ l := List.mem_of_getElem? hs
    have oks := ok s hm
    have pb := PB.of (l.take i) fun t ht => ok t (List.mem_of_mem_take ht)
    have li : (l.take i).length = i := by rw [List.length_take]; omega
    rw [li] at pb
    have pw := pow6 (show i ≤ 6 by omega)
    have b1 : (perS (l.take i) (1, 1)).1 ≤ 24000 ^ 6 := Nat.le_trans pb.b1 pw.1
    have b2 : (perS (l.take i) (1, 1)).2 ≤ 4800000 ^ 6 := Nat.le_trans pb.b2 pw.2
    have q1 := pb.p1
    have q2 := pb.p2
    simp
    rw [per_take hs]
    generalize perS (l.take i) (1, 1) = p at *
    cases s with
    | plus c =>
      refine po_seq ?_
      simp [den, Step.d, eqS, ofS_inj, pstep]
    | times a b w u =>
      obtain ⟨t0, bd, r0⟩ := pstep_pos oks q1 q2
      obtain ⟨wp, wl⟩ := wd_pos oks
      obtain ⟨h1, h2, h3, h4, h5, h6⟩ := oks
      have hb : 0 < b * u ∧ b * u ≤ 200 * 60 := ⟨Int.mul_pos (by omega) (by omega), Int.mul_le_mul h4 h6 (by omega) (by omega)⟩
      have we := wd_eq b w u h3 h5
      refine po_seq ?_
      simp [den, Step.d, eqS]
      refine po_seq ?_
      simp [den, eqS, way_ok, way_even, mulOk_r (i := b) (j := u) (by omega) (by omega)]
      have cd1 : ∀ m, callD G (n + 1) (σ 55) [.int a, .int ((wd b w u : Nat) : Int)] m = .ok (.int ((Nat.gcd a.toNat (wd b w u) : Nat) : Int)) m := fun m => by
        have := common_div2_ok (n := n) (σ := σ) hW a.toNat (wd b w u) (by omega) (Nat.lt_of_le_of_lt (show a.toNat ≤ 200 by omega) (by decide)) (Nat.lt_of_le_of_lt wl (by decide)) m
        rw [show ((a.toNat : Nat) : Int) = a by omega] at this
        exact this
      have g0 : 0 < Nat.gcd a.toNat (wd b w u) := Nat.gcd_pos_of_pos_right _ wp
      have gl : Nat.gcd a.toNat (wd b w u) ≤ wd b w u := Nat.gcd_le_right _ wp
      have own0 : 0 < wd b w u / Nat.gcd a.toNat (wd b w u) := Nat.div_pos gl g0
      have ownl : wd b w u / Nat.gcd a.toNat (wd b w u) ≤ 24000 := Nat.le_trans (Nat.div_le_self _ _) wl
      have cd2 : ∀ m, callD G (n + 1) (σ 55) [.int ((p.2 : Nat) : Int), .int ((wd b w u / Nat.gcd a.toNat (wd b w u) : Nat) : Int)] m = .ok (.int ((Nat.gcd p.2 (wd b w u / Nat.gcd a.toNat (wd b w u)) : Nat) : Int)) m := fun m =>
        common_div2_ok (n := n) (σ := σ) hW p.2 _ q2 (Nat.lt_of_le_of_lt b2 (by decide)) (Nat.lt_of_le_of_lt ownl (by decide)) m
      have g20 : 0 < Nat.gcd p.2 (wd b w u / Nat.gcd a.toNat (wd b w u)) := Nat.gcd_pos_of_pos_right _ own0
      have g2l : Nat.gcd p.2 (wd b w u / Nat.gcd a.toNat (wd b w u)) ≤ 24000 := Nat.le_trans (Nat.gcd_le_right _ own0) ownl
      have big1 : ∀ z : Nat, z ≤ 24000 → ((z : Nat) : Int) < 2 ^ 8000 := fun z hz => Int.lt_of_le_of_lt (show ((z : Nat) : Int) ≤ 24000 by omega) (by decide +kernel)
      have dk1 : divOk ((Nat.gcd a.toNat (wd b w u) : Nat) : Int) = true := divOk_of (by omega) (big1 _ (by omega))
      have dk2 : divOk ((Nat.gcd p.2 (wd b w u / Nat.gcd a.toNat (wd b w u)) : Nat) : Int) = true := divOk_of (by omega) (big1 _ g2l)
      have dk3 : divOk b = true := divOk_of (by omega) (Int.lt_of_le_of_lt h4 (by decide +kernel))
      have tl : turnsOf a p.2 (wd b w u) ≤ 24000 := Nat.le_trans (Nat.div_le_self _ _) ownl
      have tl' : -(2 ^ 64) < ((turnsOf a p.2 (wd b w u) : Nat) : Int) ∧ ((turnsOf a p.2 (wd b w u) : Nat) : Int) < 2 ^ 64 := by omega
      have rest : Po ((den (phi G (n + 1)) (f_period_of_2 σ)).s [some (rowD l), some (.int (p.1 : Nat)), some (.int (p.2 : Nat)), some (D.tup [D.str "times", D.int a, D.int b, D.str w.s, D.int u]), some (.int ((wd b w u : Nat) : Int)), x5, x6] m')
          (fun fl m1 => match fl with | .nx r => m1 = m' ∧ ∃ x3 x4 x5 x6, r = [some (rowD l), some (.int (((pstep p (.times a b w u)).1 : Nat) : Int)), some (.int (((pstep p (.times a b w u)).2 : Nat) : Int)), x3, x4, x5, x6] | _ => False) := by
        refine po_seq ?_
        simp [den, cd1, dk1, -Int.natCast_ediv]
        rw [edivN]
        refine po_seq ?_
        simp [den, cd2, dk2, -Int.natCast_ediv]
        rw [edivN]
        refine po_seq ?_
        have tt : wd b w u / Nat.gcd a.toNat (wd b w u) / Nat.gcd p.2 (wd b w u / Nat.gcd a.toNat (wd b w u)) = turnsOf a p.2 (wd b w u) := rfl
        rw [tt]
        simp [den, mulOk_r (j := ((turnsOf a p.2 (wd b w u) : Nat) : Int)) tl'.1 tl'.2, mulOk_r (j := a) (by omega) (by omega), dk3, -Int.natCast_mul, -Int.natCast_ediv]
        refine ⟨mulN _ _, ?_⟩
        rw [mulN, show a = ((a.toNat : Nat) : Int) by omega, mulN, show b = ((b.toNat : Nat) : Int) by omega, edivN]
        simp [pstep]
      by_cases he : w = .neven
      · subst he
        simp
        refine ⟨mulOk_l (by omega) (by omega), ?_⟩
        rw [show b * u * 2 = ((wd b .neven u : Nat) : Int) by simpa using we]
        refine rest.mono ?_
        intro fl m1 q
        cases fl with
        | nx r => simpa using q
        | _ => exact q.elim
      · simp [he]
        refine ⟨mulOk_l (by omega) (by omega), ?_⟩
        rw [show b * u = ((wd b w u : Nat) : Int) by simpa [he] using we]
        refine rest.mono ?_
        intro fl m1 q
        cases fl with
        | nx r => simpa using q
        | _ => exact q.elim
  · rintro env m' ⟨rfl, x3, x4, x5, x6, rfl⟩
    refine po_seq ?_; simp [den]
    rw [List.take_of_length_le (by simp [dsteps])]
    rfl
end
section
variable [HasD G (σ 63) (d_Book_period σ)] [HasM G "Book" "kind_at" (σ 37)] [HasF G "Book" "heaps"] [HasF G "Book" "last"] [HasD G (σ 62) (d_period_of σ)] [HasD G (σ 37) (d_Book_kind_at σ)]
  [HasF G "Book" "sorts"] [HasD G (σ 55) (d_common_divisor σ)]
theorem Book_period_ok (hW : 2000 ≤ G.W) (B : Book) (h : B.Ok) (x : Str) (k : Knd) (hk : B.kind x = some k) (p : Nat) (m : Sto) (hp : m[p]? = some (bookOb B)) : callD G (n + 3) (σ 63) [.ref p, .str x] m = .ok (.int ((per (rowAll B k) : Nat) : Int)) m := by
  refine po_eq ?_; refine po_callD rfl ?_; simp only [d_Book_period, f_Book_period]; simp only [List.map_cons, List.map_nil, List.length_cons, List.length_nil, List.cons_append, List.nil_append, List.replicate]
  have hm := kind_mem hk
  have pm : preMe (phi G (n + 2)) "kind_at" (.ref p) m = .ok (σ 37) m := pre_me hp rfl
  have ra := rowAll_ok h hm.1
  have l1 := (h.kr k hm.1).1
  refine po_seq ?_; simp [den, pm, Book_kind_at_ok B h x k hk p m hp]
  have ro := period_of_ok (n := n) (σ := σ) hW (rowAll B k) ra.1 ra.2 m
  have e : (rowD (rowAll B k)) = .tup (dsteps k.steps ++ (dsteps (B.groups.getD k.grp []) ++ dsteps B.whole)) := by show D.tup (dsteps (k.steps ++ (B.groups.getD k.grp [] ++ B.whole))) = _; rw [dsteps_app, dsteps_app]
  rw [e] at ro
  have ll : (dsteps k.steps).length + ((dsteps (B.groups.getD k.grp [])).length + (dsteps B.whole).length) ≤ LIM := by
    have := ra.1
    unfold rowAll at this
    simp only [List.length_append] at this
    simp only [dsteps, List.length_map]
    unfold LIM; omega
  refine po_seq ?_
  simp [den, Knd.d, bHeaps hp, bLast hp, at_grp h hm.1]
  rw [← List.getD_eq_getElem?_getD]
  refine ⟨ll, ?_⟩
  rw [ro, v_ok]
  exact ⟨rfl, rfl⟩
end
def Book.pers (B : Book) : List Int := B.groups.map fun g => ((per (g ++ B.whole) : Nat) : Int)
theorem grpAll_ok {B : Book} (h : B.Ok) {g : List Bk.Step} (hg : g ∈ B.groups) : (g ++ B.whole).length ≤ 6 ∧ ∀ s ∈ g ++ B.whole, s.ok := by
  have a := h.gr g hg
  have b := h.wr
  refine ⟨by rw [List.length_append]; have := a.1; have := b.1; omega, fun s hs => ?_⟩
  rcases List.mem_append.mp hs with h | h
  · exact a.2 s h
  · exact b.2 s h
section
variable [HasD G (σ 64) (d_Book_periods σ)] [HasF G "Book" "last"] [HasF G "Book" "heaps"] [HasD G (σ 62) (d_period_of σ)] [HasD G (σ 55) (d_common_divisor σ)]
theorem Book_periods_ok (hW : 2000 ≤ G.W) (B : Book) (h : B.Ok) (p : Nat) (m : Sto) (hp : m[p]? = some (bookOb B)) : callD G (n + 3) (σ 64) [.ref p] m = .ok (.tup (dints (Tx.Book.pers B))) m := by
  refine po_eq ?_; refine po_callD rfl ?_; simp only [d_Book_periods, f_Book_periods]; simp only [List.map_cons, List.map_nil, List.length_cons, List.length_nil, List.cons_append, List.nil_append, List.replicate]
  have g3 := h.g3
  refine po_seq ?_
  simp [den, bHeaps hp]
  refine eq_po (lcL_of (e := rowD) (f := fun g => .int ((per (g ++ B.whole) : Nat) : Int)) (fun g hg => po_eq ?_) (by unfold LIM; omega)) ?_
  · have ga := grpAll_ok h hg
    have ro := period_of_ok (n := n) (σ := σ) hW (g ++ B.whole) ga.1 ga.2 m
    have e : (rowD (g ++ B.whole)) = .tup (dsteps g ++ dsteps B.whole) := by show D.tup (dsteps (g ++ B.whole)) = _; rw [dsteps_app]
    rw [e] at ro
    have ll : (dsteps g).length + (dsteps B.whole).length ≤ LIM := by
      have := ga.1
      simp only [List.length_append] at this
      simp only [dsteps, List.length_map]
      unfold LIM; omega
    simp [lcTurn, ifT, wipeE, bLast hp]
    exact ⟨ll, by rw [ro]; simp⟩
  · simp [Tx.Book.pers, dints]
end
section
variable [HasD G (σ 65) (d_L_goes σ)]
theorem L_goes_ok (l : List Bk.Step) (ok : ∀ s ∈ l, s.ok) (x : Nat) (m : Sto) : callD G (n + 1) (σ 65) [rowD l, .int ((x : Nat) : Int)] m = .ok (.bl (goN l x)) m := by
  refine po_eq ?_; refine po_callD rfl ?_; simp only [d_L_goes, f_L_goes]; simp only [List.map_cons, List.map_nil, List.length_cons, List.length_nil, List.cons_append, List.nil_append, List.replicate]
  refine po_seq ?_
  simp [den]
  refine po_seq ?_
  simp [den]
  refine forL_po (n := (dsteps l).length) (fun i env m' => m' = m ∧ ∃ (y : Nat) (x3 x4 : Option D), env = [some (rowD l), some (.int (x : Nat)), some (.int (y : Nat)), x3, x4] ∧ goN (l.drop i) y = goN l x) rfl ⟨rfl, x, _, _, rfl, rfl⟩ ?_ ?_
  · rintro i env m' d hi hd ⟨rfl, y, x3, x4, rfl, hg⟩
    unfold dsteps at hd hi
    rw [List.length_map] at hi
    rw [List.getElem?_map] at hd
    obtain ⟨s, hs, rfl⟩ := Option.map_eq_some_iff.mp hd
    have hm : s ∈ l := List.mem_of_getElem? hs
    have oks := ok s hm
    have dr : l.drop i = s :: l.drop (i + 1) := by
      rw [List.drop_eq_getElem_cons hi]
      have := List.getElem?_eq_getElem hi
      rw [hs] at this
      rw [Option.some.inj this]
    rw [dr] at hg
    simp
    cases s with
    | plus c =>
      refine po_seq ?_
      simp [den, Step.d, eqS, ofS_inj]
      exact ⟨y, rfl, hg⟩
    | times a b w u =>
      obtain ⟨wp, wl⟩ := wd_pos oks
      obtain ⟨h1, h2, h3, h4, h5, h6⟩ := oks
      have hb : 0 < b * u ∧ b * u ≤ 200 * 60 := ⟨Int.mul_pos (by omega) (by omega), Int.mul_le_mul h4 h6 (by omega) (by omega)⟩
      have we := wd_eq b w u h3 h5
      have rest : Po ((den (phi G n) (f_L_goes_2 σ)).s [some (rowD l), some (.int (x : Nat)), some (.int (y : Nat)), some (D.tup [D.str "times", D.int a, D.int b, D.str w.s, D.int u]), some (.int ((wd b w u : Nat) : Int))] m')
          (fun fl m1 => match fl with | .nx r => m1 = m' ∧ ∃ (y : Nat) (x3 x4 : Option D), r = [some (rowD l), some (.int (x : Nat)), some (.int (y : Nat)), x3, x4] ∧ goN (l.drop (i + 1)) y = goN l x | .rt v => m1 = m' ∧ v = .bl false ∧ goN l x = false | _ => False) := by
        have ea : a = ((a.toNat : Nat) : Int) := by omega
        have eb : b = ((b.toNat : Nat) : Int) := by omega
        have dk : divOk b = true := divOk_of (by omega) (Int.lt_of_le_of_lt h4 (by decide +kernel))
        have em : (y : Int) * a = ((y * a.toNat : Nat) : Int) := by rw [← mulN, ← ea]
        have hg' : (if y * a.toNat % wd b w u = 0 then goN (l.drop (i + 1)) (y * a.toNat / b.toNat) else false) = goN l x := hg
        refine po_seq ?_
        simp [den, mulOk_r (i := (y : Int)) (j := a) (by omega) (by omega), wp]
        rw [em]
        by_cases hz : y * a.toNat % wd b w u = 0
        · have hz' : ((y * a.toNat : Nat) : Int) % ((wd b w u : Nat) : Int) = 0 := by rw [emodN, hz]; rfl
          rw [if_pos hz] at hg'
          rw [if_pos (by simpa using hz')]
          refine po_seq ?_
          simp [den, mulOk_r (i := (y : Int)) (j := a) (by omega) (by omega), dk]
          refine ⟨y * a.toNat / b.toNat, ?_, hg'⟩
          rw [em]
          conv => lhs; rw [eb]
          exact edivN _ _
        · have hz' : ¬ ((y * a.toNat : Nat) : Int) % ((wd b w u : Nat) : Int) = 0 := by rw [emodN]; omega
          rw [if_neg hz] at hg'
          rw [if_neg (by simpa using hz')]
          refine po_seq ?_
          simp [den]
          exact hg'.symm
      refine po_seq ?_
      simp [den, Step.d, eqS]
      refine po_seq ?_
      simp [den, eqS, way_ok, way_even, mulOk_r (i := b) (j := u) (by omega) (by omega)]
      have fin : ∀ F, (∀ r m1, (m1 = m' ∧ ∃ (y : Nat) (x3 x4 : Option D), r = [some (rowD l), some (.int (x : Nat)), some (.int (y : Nat)), x3, x4] ∧ goN (l.drop (i + 1)) y = goN l x) → Po (LC.ret (LC.Flow.nx r) m1) F) → (goN l x = false → F (.rt (.bl false)) m') → ∀ fl m1, (match fl with | .nx r => m1 = m' ∧ ∃ (y : Nat) (x3 x4 : Option D), r = [some (rowD l), some (.int (x : Nat)), some (.int (y : Nat)), x3, x4] ∧ goN (l.drop (i + 1)) y = goN l x | .rt v => m1 = m' ∧ v = .bl false ∧ goN l x = false | _ => False) →
          sq (fun r => LC.ret (LC.Flow.nx r)) F fl m1 := by
        intro F h1 h2 fl m1 q
        cases fl with
        | nx r => exact h1 r m1 q
        | rt v => obtain ⟨rfl, rfl, q⟩ := q; exact h2 q
        | bk r => exact q.elim
        | ct r => exact q.elim
      by_cases he : w = .neven
      · subst he
        simp
        refine ⟨mulOk_l (by omega) (by omega), ?_⟩
        rw [show b * u * 2 = ((wd b .neven u : Nat) : Int) by simpa using we]
        refine rest.mono (fin _ ?_ ?_)
        · rintro r m1 ⟨rfl, y, x3, x4, rfl, q⟩
          simp
          exact ⟨y, rfl, q⟩
        · intro q
          simp [q]
      · simp [he]
        refine ⟨mulOk_l (by omega) (by omega), ?_⟩
        rw [show b * u = ((wd b w u : Nat) : Int) by simpa [he] using we]
        refine rest.mono (fin _ ?_ ?_)
        · rintro r m1 ⟨rfl, y, x3, x4, rfl, q⟩
          simp
          exact ⟨y, rfl, q⟩
        · intro q
          simp [q]
  · rintro env m' ⟨rfl, y, x3, x4, rfl, hg⟩
    rw [List.drop_of_length_le (by simp [dsteps])] at hg
    refine po_seq ?_
    simp [den]
    exact hg.symm ▸ rfl
end
theorem all_ne {P : Phi} {m : Sto} {xs : List Nat} {k : Nat} : callB P .all [.lst (xs.map fun p => D.bl (k % p != 0))] m = .ok (.bl (xs.all fun p => k % p != 0)) m := v_allF
theorem sieve_app (a b f : List Nat) : sieve (a ++ b) f = sieve b (sieve a f) := by
  induction a generalizing f with
  | nil => rfl
  | cons k a ih => exact ih _
theorem sieve_len (a : List Nat) : ∀ f, (sieve a f).length ≤ f.length + a.length := by
  induction a with
  | nil => intro f; simp [sieve]
  | cons k a ih =>
    intro f
    have h := ih (if f.all (fun p => k % p != 0) then f ++ [k] else f)
    have e : (if f.all (fun p => k % p != 0) then f ++ [k] else f).length ≤ f.length + 1 := by split <;> simp
    show (sieve a (if f.all (fun p => k % p != 0) then f ++ [k] else f)).length ≤ f.length + (a.length + 1)
    omega
theorem sieve_pos (a : List Nat) : ∀ f, (∀ p ∈ f, 0 < p) → (∀ k ∈ a, 0 < k) → ∀ p ∈ sieve a f, 0 < p := by
  induction a with
  | nil => intro f h _; exact h
  | cons k a ih =>
    intro f h1 h2
    refine ih _ (fun p hp => ?_) fun q hq => h2 q (by simp [hq])
    split at hp
    · rcases List.mem_append.mp hp with h | h
      · exact h1 p h
      · rw [List.mem_singleton.mp h]; exact h2 k (by simp)
    · exact h1 p hp
def nints (l : List Nat) : List D := l.map fun k => .int ((k : Nat) : Int)
section
variable [HasD G (σ 66) (d_L_primes σ)]
theorem L_primes_ok (hW : 2000 ≤ G.W) (m : Sto) : Po (callD G (n + 1) (σ 66) [] m) fun v m' => v = .ref m.length ∧ m' = m ++ [.lst (nints primes)] := by
  refine po_callD rfl ?_; simp only [d_L_primes, f_L_primes]; simp only [List.map_cons, List.map_nil, List.length_cons, List.length_nil, List.cons_append, List.nil_append, List.replicate]
  refine po_seq ?_
  simp [den]
  refine po_seq ?_
  simp [den]
  refine ⟨⟨rfl, rfl⟩, ?_⟩
  have rg : rangeL 2 200 = ((List.range 198).map (· + 2)).map fun k => D.int ((k : Nat) : Int) := by
    unfold rangeL
    rw [List.map_map]
    refine List.map_congr_left fun k _ => ?_
    show D.int (2 + (k : Int)) = D.int (((k + 2 : Nat)) : Int)
    congr 1; omega
  rw [rg]
  generalize hks : (List.range 198).map (· + 2) = ks
  have ksp : ∀ k ∈ ks, 0 < k := by subst hks; intro k hk; obtain ⟨j, _, rfl⟩ := List.mem_map.mp hk; omega
  have ksl : ks.length = 198 := by subst hks; simp
  have pr : primes = sieve ks [] := by subst hks; rfl
  refine forL_po (n := (ks.map fun k => D.int ((k : Nat) : Int)).length) (fun i env m' => m' = m ++ [.lst (nints (sieve (ks.take i) []))] ∧ ∃ x1 x2, env = [some (.ref m.length), x1, x2]) rfl ⟨rfl, _, _, rfl⟩ ?_ ?_
  · rintro i env m' d hi hd ⟨rfl, x1, x2, rfl⟩
    rw [List.getElem?_map] at hd
    obtain ⟨k, hk, rfl⟩ := Option.map_eq_some_iff.mp hd
    have tk : sieve (ks.take (i + 1)) [] = (if (sieve (ks.take i) []).all (fun p => k % p != 0) then sieve (ks.take i) [] ++ [k] else sieve (ks.take i) []) := by
      rw [List.take_add_one, hk]
      simp only [Option.toList_some]
      rw [sieve_app]
      rfl
    have fl : (sieve (ks.take i) []).length ≤ 198 := by
      have := sieve_len (ks.take i) []
      simp at this
      omega
    have fp := sieve_pos (ks.take i) [] (by simp) fun k hk => ksp k (List.mem_of_mem_take hk)
    rw [tk]
    generalize sieve (ks.take i) [] = f at *
    have hq : (m ++ [Ob.lst (nints f)])[m.length]? = some (.lst (nints f)) := by simp
    simp
    refine po_seq ?_
    simp [den, srcRef hq]
    refine lcV_po (q := m.length) (xs := nints f) (fun j acc m' => m' = m ++ [Ob.lst (nints f)] ∧ acc = (f.take j).map fun p => D.bl (k % p != 0)) (by show (nints f).length < G.W; simp [nints]; omega) (by simp [nints]; unfold LIM; omega) (by rintro j acc m' ⟨rfl, _⟩; exact hq) ⟨rfl, rfl⟩ ?_ ?_
    · rintro j acc m' d hj hd hl ⟨rfl, rfl⟩
      unfold nints at hd
      rw [List.getElem?_map] at hd
      obtain ⟨q, hq2, rfl⟩ := Option.map_eq_some_iff.mp hd
      have q0 := fp q (List.mem_of_getElem? hq2)
      simp [lcTurn, ifT, wipeE, q0]
      rw [List.take_add_one, List.getElem?_map, hq2]
      simp
      by_cases z : k % q = 0
      · have : (k : Int) % (q : Int) = 0 := by rw [emodN, z]; rfl
        simp [z, this]
      · have : ¬ (k : Int) % (q : Int) = 0 := by rw [emodN]; omega
        simp [z, this]
    · rintro acc m' ⟨rfl, rfl⟩
      rw [List.take_of_length_le (by simp [nints]), all_ne]
      simp
      split
      · rename_i h
        have hl : m.length < (m ++ [Ob.lst (nints f)]).length := by simp
        refine po_seq ?_
        simp [den, preL_ref hq]
        refine eq_po (append_ref hq (by simp [nints]; unfold LIM; omega)) ?_
        simp
        simp [nints]
      · simp
  · rintro env m' ⟨rfl, x1, x2, rfl⟩
    rw [List.take_of_length_le (by simp)]
    refine po_seq ?_
    simp [den, pr]
end
/-- what is left of a number when a divisor is taken out as often as it goes -/
def strip (p : Nat) : Nat → Nat → Nat
  | 0, r => r
  | k + 1, r => if r % p = 0 then strip p k (r / p) else r
theorem strip_dvd (p : Nat) : ∀ (k r : Nat), strip p k r ∣ r
  | 0, r => Nat.dvd_refl _
  | k + 1, r => by
    unfold strip
    split
    · rename_i h
      exact Nat.dvd_trans (strip_dvd p k (r / p)) (Nat.div_dvd_of_dvd (Nat.dvd_of_mod_eq_zero h))
    · exact Nat.dvd_refl _
theorem strip_free {p : Nat} (hp : 2 ≤ p) : ∀ (k r : Nat), 0 < r → r < 2 ^ k → ¬ p ∣ strip p k r
  | 0, r, h, h2 => by simp at h2; omega
  | k + 1, r, h, h2 => by
    unfold strip
    split
    · rename_i hz
      have hd := Nat.dvd_of_mod_eq_zero hz
      have := Nat.div_pos (Nat.le_of_dvd h hd) (by omega)
      refine strip_free hp k (r / p) this ?_
      have : r / p ≤ r / 2 := Nat.div_le_div_left hp (by omega)
      rw [Nat.pow_succ] at h2
      omega
    · rename_i hz
      intro z; exact hz (Nat.mod_eq_zero_of_dvd z)
theorem strip_fix {p k r : Nat} (h : r % p ≠ 0) : strip p k r = r := by
  cases k with
  | zero => rfl
  | succ k => unfold strip; rw [if_neg h]
theorem strips_dvd : ∀ (ps : List Nat) (r : Nat), ps.foldl (fun r p => strip p 200 r) r ∣ r
  | [], r => Nat.dvd_refl _
  | p :: ps, r => Nat.dvd_trans (strips_dvd ps (strip p 200 r)) (strip_dvd p 200 r)
theorem strips_free {q : Nat} : ∀ (ps : List Nat) (r : Nat), (∀ p ∈ ps, 2 ≤ p) → 0 < r → r < 2 ^ 200 → q ∈ ps → ¬ q ∣ ps.foldl (fun r p => strip p 200 r) r
  | p :: ps, r, hp, h0, h1, hq => by
    have hs : 0 < strip p 200 r := Nat.pos_of_dvd_of_pos (strip_dvd p 200 r) h0
    have hl : strip p 200 r < 2 ^ 200 := Nat.lt_of_le_of_lt (Nat.le_of_dvd h0 (strip_dvd p 200 r)) h1
    rcases List.mem_cons.mp hq with e | hq
    · subst e
      intro z
      exact strip_free (hp q (by simp)) 200 r h0 h1 (Nat.dvd_trans z (strips_dvd ps _))
    · exact strips_free ps _ (fun x hx => hp x (by simp [hx])) hs hl hq
theorem strips_one {l : List Bk.Step} (ok : ∀ s ∈ l, s.ok) (h1 : per l < 2 ^ 200) (h0 : 0 < per l) : primes.foldl (fun r p => strip p 200 r) (per l) = 1 := by
  have d := strips_dvd primes (per l)
  have fr : ∀ q ∈ primes, ¬ q ∣ primes.foldl (fun r p => strip p 200 r) (per l) := fun q hq => strips_free primes (per l) (fun p hp => (primes_bd p hp).1) h0 h1 hq
  generalize primes.foldl (fun r p => strip p 200 r) (per l) = z at *
  have z0 : 0 < z := Nat.pos_of_dvd_of_pos d h0
  rcases Nat.lt_or_ge 1 z with h | h
  · obtain ⟨q, hq, hd⟩ := prm_of z h
    have := per_prm hq ok (Nat.dvd_trans hd d)
    obtain ⟨p, hp, pd⟩ := primes_all q hq.1 this
    exact absurd (Nat.dvd_trans pd hd) (fr p hp)
  · omega
section
variable [HasD G (σ 67) (d_L_is_period σ)] [HasD G (σ 65) (d_L_goes σ)]
theorem L_is_period_ok (hW : 2000 ≤ G.W) (l : List Bk.Step) (hl : l.length ≤ 6) (ok : ∀ s ∈ l, s.ok) (q : Nat) (m : Sto) (hq : m[q]? = some (.lst (nints primes))) : callD G (n + 2) (σ 67) [.int ((per l : Nat) : Int), rowD l, .ref q] m = .ok (.bl true) m := by
  refine po_eq ?_; refine po_callD rfl ?_; simp only [d_L_is_period, f_L_is_period]; simp only [List.map_cons, List.map_nil, List.length_cons, List.length_nil, List.cons_append, List.nil_append, List.replicate]
  have pb := PB.of l ok
  have pw := pow6 hl
  have p1 : 0 < per l := pb.p1
  have p2 : per l < 2 ^ 200 := Nat.lt_of_le_of_lt (Nat.le_trans pb.b1 pw.1) (by decide)
  have g1 : goN l (per l) = true := (goN_per ok _).mpr (Nat.dvd_refl _)
  have pl := primes_len
  refine po_seq ?_
  have pn : ¬ ((per l : Nat) : Int) < 1 := by omega
  simp [den, L_goes_ok l ok, g1, pn]
  refine po_seq ?_
  simp [den]
  refine po_seq ?_
  simp [den, srcRef hq]
  refine forV_po (q := q) (xs := nints primes) (fun i env m' => m' = m ∧ ∃ x4 x5, env = [some (.int ((per l : Nat) : Int)), some (rowD l), some (.ref q), some (.int (((primes.take i).foldl (fun r p => strip p 200 r) (per l) : Nat) : Int)), x4, x5]) (by show (nints primes).length < G.W; simp [nints]; omega) (by rintro i r m' ⟨rfl, _⟩; exact hq) ⟨rfl, _, _, rfl⟩ ?_ ?_
  · rintro i env m' d hi hd ⟨rfl, x4, x5, rfl⟩
    unfold nints at hd
    rw [List.getElem?_map] at hd
    obtain ⟨p, hp, rfl⟩ := Option.map_eq_some_iff.mp hd
    have pm := primes_bd p (List.mem_of_getElem? hp)
    have tk : (primes.take (i + 1)).foldl (fun r p => strip p 200 r) (per l) = strip p 200 ((primes.take i).foldl (fun r p => strip p 200 r) (per l)) := by
      rw [List.take_add_one, hp]; simp
    rw [tk]
    have rd := strips_dvd (primes.take i) (per l)
    generalize (primes.take i).foldl (fun r p => strip p 200 r) (per l) = r at *
    have dk : divOk (p : Int) = true := divOk_of (by omega) (Int.lt_of_le_of_lt (show (p : Int) ≤ 200 by omega) (by decide +kernel))
    simp
    refine po_seq ?_
    have gd : r % p = 0 → goN l (per l / p) = false := fun h => by
      have hd : p ∣ per l := Nat.dvd_trans (Nat.dvd_of_mod_eq_zero h) rd
      cases e : goN l (per l / p) with
      | false => rfl
      | true =>
        have z := (goN_per ok _).mp e
        have z1 : 0 < per l / p := Nat.div_pos (Nat.le_of_dvd p1 hd) (by omega)
        have z2 := Nat.le_of_dvd z1 z
        have z3 : per l / p < per l := Nat.div_lt_self p1 (by omega)
        omega
    have go2 : ∀ m, callD G (n + 1) (σ 65) [rowD l, .int (((per l : Nat) : Int) / (p : Int))] m = .ok (.bl (goN l (per l / p))) m := fun m => by
      rw [edivN]; exact L_goes_ok l ok _ m
    have inner : ∀ (F : LC.Flow → Sto → Prop) (x5 : Option D), (∀ x5, F (.nx [some (.int ((per l : Nat) : Int)), some (rowD l), some (.ref q), some (.int ((strip p 200 r : Nat) : Int)), some (.int (p : Int)), x5]) m') →
        Po ((den (phi G (n + 1)) (f_L_is_period_5 σ)).s [some (.int ((per l : Nat) : Int)), some (rowD l), some (.ref q), some (.int (r : Nat)), some (.int (p : Int)), x5] m') F := by
      intro F x5 hF
      refine po_seq ?_
      simp [den]
      refine ⟨rfl, ?_⟩
      have rl : (rangeL 0 200).length = 200 := by rw [rangeL_len]; rfl
      refine forL_po (n := (rangeL 0 200).length) (fun i env m2 => m2 = m' ∧ ∃ (r' : Nat) (x5 : Option D), env = [some (.int ((per l : Nat) : Int)), some (rowD l), some (.ref q), some (.int (r' : Nat)), some (.int (p : Int)), x5] ∧ strip p (200 - i) r' = strip p 200 r) rfl ⟨rfl, r, _, rfl, rfl⟩ ?_ ?_
      · rintro i env m2 d hi hd ⟨rfl, r', x5, rfl, hr⟩
        rw [rl] at hi
        simp
        refine po_seq ?_
        simp [den]
        refine ⟨by omega, ?_⟩
        obtain ⟨k, hk⟩ : ∃ k, 200 - i = k + 1 := ⟨199 - i, by omega⟩
        have hk2 : 200 - (i + 1) = k := by omega
        rw [hk] at hr
        by_cases z : r' % p = 0
        · have z' : (r' : Int) % (p : Int) = 0 := by rw [emodN, z]; rfl
          rw [show strip p (k + 1) r' = if r' % p = 0 then strip p k (r' / p) else r' from rfl, if_pos z] at hr
          simp [z']
          refine po_seq ?_
          simp [den, dk]
          exact ⟨r' / p, edivN _ _, by rw [show 199 - i = k by omega]; exact hr⟩
        · have z' : ¬ (r' : Int) % (p : Int) = 0 := by rw [emodN]; omega
          simp [z']
          refine po_seq ?_
          simp [den]
          rw [strip_fix z] at hr
          rw [hr]
          exact hF _
      · rintro env m2 ⟨rfl, r', x5, rfl, hr⟩
        rw [rl] at hr
        have hr : r' = strip p 200 r := hr
        rw [hr]
        simp
        exact hF _
    simp [den, dk, go2]
    refine ⟨by omega, ?_⟩
    by_cases z : r % p = 0
    · have z' : (r : Int) % (p : Int) = 0 := by rw [emodN, z]; rfl
      simp [z', gd z]
      refine inner _ _ fun x5 => ?_
      simp
    · have z' : ¬ (r : Int) % (p : Int) = 0 := by rw [emodN]; omega
      simp [z']
      refine inner _ _ fun x5 => ?_
      simp
  · rintro env m' ⟨rfl, x4, x5, rfl⟩
    rw [List.take_of_length_le (by simp [nints]), strips_one ok p2 p1]
    refine po_seq ?_
    simp [den]
end
theorem ne_intsT {xs ys : List Int} {m : Sto} : opCmp .NotEq (.tup (dints xs)) (.tup (dints ys)) m = .ok (.bl (!decide (xs = ys))) m := by
  rw [ne_of (a := .tuple (xs.map .int)) (b := .tuple (ys.map .int)) (by simp [top, pys_ints]) (by simp [top, pys_ints]) (fit_intsT xs) (fit_intsT ys)]
  simp only [PyData.eqv, eqvAll_ints]
theorem at_grpN {B : Book} {j : Nat} {g : List Bk.Step} (h : B.groups[j]? = some g) : atI (B.groups.map rowD) (j : Nat) = some (rowD g) := by
  have hl := (List.getElem?_eq_some_iff.mp h).1
  unfold atI
  rw [ixN_of (by omega) (by rw [List.length_map]; omega)]
  show (B.groups.map rowD)[((j : Nat) : Int).toNat]? = _
  rw [Int.toNat_natCast, List.getElem?_map, h]
  rfl
theorem at_pers {B : Book} {j : Nat} {g : List Bk.Step} (h : B.groups[j]? = some g) : atI (dints (Tx.Book.pers B)) (j : Nat) = some (.int ((per (g ++ B.whole) : Nat) : Int)) := by
  have hl := (List.getElem?_eq_some_iff.mp h).1
  have e : (Tx.Book.pers B)[j]? = some ((per (g ++ B.whole) : Nat) : Int) := by unfold Tx.Book.pers; rw [List.getElem?_map, h]; rfl
  have hl2 := (List.getElem?_eq_some_iff.mp e).1
  rw [atI_d (by omega) (by omega), Int.toNat_natCast, List.getD, e]
  rfl
theorem lcL_with {α : Type} {turn : D → M (Option D)} {f : α → D} {m : Sto} : ∀ {ds : List D} {as : List α} {acc : List D}, ds.length = as.length → (∀ (i : Nat) (d : D) (a : α), ds[i]? = some d → as[i]? = some a → turn d m = .ok (some (f a)) m) → acc.length + ds.length ≤ LIM → lcL turn ds acc m = .ok (acc ++ as.map f) m
  | [], [], acc, _, _, _ => by simp [lcL, LC.ret]
  | d :: ds, a :: as, acc, hl, h, hz => by
    unfold lcL
    rw [h 0 d a rfl rfl]
    simp at hz hl
    simp only
    rw [if_pos (by simp; omega), lcL_with (ds := ds) (as := as) (by omega) (fun i d a h1 h2 => h (i + 1) d a h1 h2) (by simp; omega)]
    simp
theorem eq_int {x y : Int} {m : Sto} : opCmp .Eq (.int x) (.int y) m = .ok (.bl (decide (x = y))) m := by
  have := eq_of (m := m) (x := .int x) (y := .int y) (a := .int x) (b := .int y) rfl rfl rfl rfl
  rw [this]
  congr 2
end Tx

/-! # BlV: drawn bills -/
namespace Tx
open PySem LC Bk
variable {G : Prog} {σ : Nat → Nat} {n : Nat}
section
variable [HasD G (σ 46) (d_L_worth σ)] [HasD G (σ 22) (d_L_take σ)]
theorem L_worth_ok (p : Nat) (m : Sto) (hp : Purse p m) : Po (callD G (n + 2) (σ 46) [.ref p] m) fun v m' => ∃ z : Int, v = .int z ∧ 0 ≤ z ∧ z ≤ 10 ^ 30 ∧ Drawn p m m' := by
  refine po_callD rfl ?_; simp only [d_L_worth, f_L_worth]; simp only [List.map_cons, List.map_nil, List.length_cons, List.length_nil, List.cons_append, List.nil_append, List.replicate]
  refine po_seq ?_
  simp [den]
  refine (L_take_ok (σ := σ) p 8 (by omega) (by omega) m hp).mono ?_
  rintro _ m1 ⟨t, rfl, t0, t1, hd1⟩
  try simp
  refine po_seq ?_
  simp [den]
  split
  · refine po_seq ?_
    simp [den]
    obtain ⟨d, e, hm⟩ := pick_of (xs := [D.int 1000000000, D.int 1000000000000000000000000000000]) (t := t - 6) (by omega) (by simp; omega)
    have : ∃ z : Int, d = .int z ∧ 10 ^ 9 ≤ z ∧ z ≤ 10 ^ 30 := by
      simp only [List.mem_cons, List.not_mem_nil, or_false] at hm
      rcases hm with rfl | rfl <;> exact ⟨_, rfl, by omega, by omega⟩
    obtain ⟨z, rfl, z0, z1⟩ := this
    simp [e]
    refine (L_take_ok (σ := σ) p 100003 (by omega) (by omega) m1 hd1.pu).mono ?_
    rintro _ m2 ⟨k, rfl, k0, k1, hd2⟩
    try simp
    exact ⟨by omega, by omega, hd1.trans hd2⟩
  · refine po_seq ?_
    simp [den]
    obtain ⟨d, e, hm⟩ := pick_of (xs := [D.int 2, D.int 11, D.int 11, D.int 101, D.int 101, D.int 1001]) (t := t) (by omega) (by simp; omega)
    have : ∃ z : Int, d = .int z ∧ 1 ≤ z ∧ z ≤ 1001 := by
      simp only [List.mem_cons, List.not_mem_nil, or_false] at hm
      rcases hm with rfl | rfl | rfl | rfl | rfl | rfl <;> exact ⟨_, rfl, by omega, by omega⟩
    obtain ⟨z, rfl, z0, z1⟩ := this
    simp [e]
    refine (L_take_ok (σ := σ) p z (by omega) (by omega) m1 hd1.pu).mono ?_
    rintro _ m2 ⟨k, rfl, k0, k1, hd2⟩
    try simp
    exact ⟨by omega, by omega, hd1.trans hd2⟩
end
/-- a bill of kinds with these names, drawn -/
def Tab (ws : List Str) (b : List Line) : Prop := ∀ l ∈ b, l.name ∈ ws ∧ 0 ≤ l.amt ∧ l.amt ≤ 10 ^ 30
section
variable [HasD G (σ 47) (d_L_tab σ)] [HasD G (σ 22) (d_L_take σ)] [HasD G (σ 46) (d_L_worth σ)]
theorem L_tab_ok (p : Nat) (ws : List Str) (most : Int) (hws : 1 ≤ ws.length ∧ ws.length ≤ 100) (hmost : 0 ≤ most ∧ most ≤ 100) (m : Sto) (hp : Purse p m) :
    Po (callD G (n + 3) (σ 47) [.ref p, .lst (ws.map .str), .int most] m) fun v m' => ∃ b : List Line, v = billD b ∧ Tab ws b ∧ b.length ≤ most.toNat ∧ Drawn p m m' := by
  refine po_callD rfl ?_; simp only [d_L_tab, f_L_tab]; simp only [List.map_cons, List.map_nil, List.length_cons, List.length_nil, List.cons_append, List.nil_append, List.replicate]
  have hpl : p < m.length := hp.lt
  refine po_seq ?_
  simp [den]
  refine po_seq ?_
  simp [den]
  refine (L_take_ok (G := G) (σ := σ) (n := n + 1) p (most + 1) (by omega) (by omega) (m ++ [.lst []]) (Drawn.new hp _).pu).mono ?_
  rintro _ m1 ⟨t, rfl, t0, t1, hd1⟩
  have hq1 : m1[m.length]? = some (.lst []) := by rw [hd1.off _ (by simp) (by omega)]; simp
  have hd1 := (Drawn.new hp [.lst []]).trans hd1
  try simp
  refine ⟨small62I (by omega) (by omega), ?_⟩
  refine forL_po (n := (rangeL 0 t).length) (fun i env m' => ∃ (b : List Line) (x4 : Option D), env = [some (.ref p), some (.lst (ws.map .str)), some (.int most), some (.ref m.length), x4] ∧ m'[m.length]? = some (.lst (b.map Line.d)) ∧ Tab ws b ∧ b.length = i ∧ Drawn p m m') rfl ⟨[], _, rfl, hq1, by intro l hl; simp at hl, rfl, hd1⟩ ?_ ?_
  · rintro i env m2 d hi hd ⟨b, x4, rfl, hq, ht, hl, hw⟩
    rw [rangeL_len] at hi
    simp
    refine po_seq ?_
    simp [den, preL_ref hq]
    refine (L_take_ok (σ := σ) p ws.length (by omega) (by omega) m2 hw.pu).mono ?_
    rintro _ m3 ⟨k, rfl, k0, k1, hd3⟩
    obtain ⟨d, e, hm⟩ := pick_of (xs := ws.map D.str) (t := k) k0 (by simpa using k1)
    obtain ⟨w, hw', rfl⟩ := List.mem_map.mp hm
    simp [e]
    refine (L_worth_ok (σ := σ) p m3 hd3.pu).mono ?_
    rintro _ m4 ⟨z, rfl, z0, z1, hd4⟩
    have hq4 : m4[m.length]? = some (.lst (b.map Line.d)) := by
      rw [hd4.off _ (by have := (List.getElem?_eq_some_iff.mp hq).1; have := hd3.len; omega) (by omega), hd3.off _ (List.getElem?_eq_some_iff.mp hq).1 (by omega)]; exact hq
    try simp
    refine eq_po (append_ref hq4 (by rw [List.length_map]; unfold LIM; omega)) ?_
    try simp
    refine ⟨b ++ [⟨w, z⟩], ?_, ?_, by simp; omega, drawn_set ((hw.trans hd3).trans hd4) (Nat.le_refl _) (by omega)⟩
    · rw [at_set hq4]; simp [Line.d]
    · intro l hl
      rcases List.mem_append.mp hl with h | h
      · exact ht l h
      · rw [List.mem_singleton.mp h]; exact ⟨hw', z0, z1⟩
  · rintro env m2 ⟨b, x4, rfl, hq, ht, hl, hw⟩
    simp
    refine po_seq ?_
    simp [den, tyTup_ref hq]
    refine ⟨b, rfl, ht, by rw [hl, rangeL_len]; omega, hw⟩
end
/-- the only kind of a name -/
theorem only_kind {B : Book} (h : B.Ok) {i j : Nat} {k k' : Knd} (hi : B.kinds[i]? = some k) (hj : B.kinds[j]? = some k') (e : k.name = k'.name) : i = j := by
  have hil := (List.getElem?_eq_some_iff.mp hi).1
  have hjl := (List.getElem?_eq_some_iff.mp hj).1
  have nd := h.nd
  have a : (B.kinds.map (·.name))[i]? = some k.name := by rw [List.getElem?_map, hi]; rfl
  have b : (B.kinds.map (·.name))[j]? = some k.name := by rw [List.getElem?_map, hj, e]; rfl
  exact (List.getElem?_inj (by simpa using hil) nd).mp (a.trans b.symm)
theorem parts0 (B : Book) : atI [D.tup (B.kinds.map Knd.d), .tup (B.groups.map rowD), rowD B.whole] 0 = some (.tup (B.kinds.map Knd.d)) := rfl
theorem parts1 (B : Book) : atI [D.tup (B.kinds.map Knd.d), .tup (B.groups.map rowD), rowD B.whole] 1 = some (.tup (B.groups.map rowD)) := rfl
theorem parts2 (B : Book) : atI [D.tup (B.kinds.map Knd.d), .tup (B.groups.map rowD), rowD B.whole] 2 = some (rowD B.whole) := rfl
section
variable [HasD G (σ 48) (d_L_heaped σ)] [HasD G (σ 44) (d_L_led σ)] [HasD G (σ 43) (d_L_whole_part σ)]
theorem L_heaped_ok (B : Book) (h : B.Ok) (b : List Line) (hb : BillOk B b) (m : Sto) :
    Po (callD G (n + 3) (σ 48) [partsD B, billD b] m) fun v m' => v = .ref m.length ∧ m' = m ++ [.lst (dints (B.sums b))] := by
  refine po_callD rfl ?_; simp only [d_L_heaped, f_L_heaped]; simp only [List.map_cons, List.map_nil, List.length_cons, List.length_nil, List.cons_append, List.nil_append, List.replicate]
  have k4 := h.k4
  have g3 := h.g3
  refine po_seq ?_
  simp [den, partsD, parts1, repM (k := B.groups.length) (show B.groups.length ≤ 1000 by omega)]
  have s0 : List.replicate B.groups.length (D.int 0) = dints ((List.range B.groups.length).map (B.sum [])) := by
    simp [dints, Book.sum, List.map_const', Function.comp_def]
  rw [s0]
  refine po_seq ?_
  simp [den]
  refine forL_po (n := (b.map Line.d).length) (fun i env m' => m' = m ++ [.lst (dints ((List.range B.groups.length).map (B.sum (b.take i))))] ∧ ∃ x y z, env = [some (partsD B), some (billD b), some (.ref m.length), x, y, z]) rfl ⟨rfl, _, _, _, rfl⟩ ?_ ?_
  · rintro i env m' d hi hd ⟨rfl, x, y, z, rfl⟩
    rw [List.getElem?_map] at hd
    obtain ⟨l, hlb, rfl⟩ := Option.map_eq_some_iff.mp hd
    have hm : l ∈ b := List.mem_of_getElem? hlb
    obtain ⟨k, hk, hkn⟩ := hb.nm l hm
    have kk : B.kind l.name = some k := by rw [← hkn]; exact kind_of h hk
    have hg := h.kg k hk
    obtain ⟨j0, hj0⟩ := List.getElem?_of_mem hk
    have lt : ∀ g, B.lineTo g l = if k.grp = g then Bk.led k.steps l.amt else 0 := fun g => by unfold Book.lineTo; rw [kk]
    simp [Line.d]
    refine po_seq ?_
    simp [den, partsD, parts0]
    refine forL_po (n := (B.kinds.map Knd.d).length) (fun j env m' => m' = m ++ [.lst (dints ((List.range B.groups.length).map fun g => B.sum (b.take i) g + if j0 < j then B.lineTo g l else 0))] ∧ ∃ z, env = [some (partsD B), some (billD b), some (.ref m.length), some (.str l.name), some (.int l.amt), z]) rfl ⟨by simp, _, rfl⟩ ?_ ?_
    · rintro j env m' d hj hd ⟨rfl, z, rfl⟩
      rw [List.getElem?_map] at hd
      obtain ⟨q, hq, rfl⟩ := Option.map_eq_some_iff.mp hd
      have hqm : q ∈ B.kinds := List.mem_of_getElem? hq
      have e1 : okS q.name := NameOk_okS (h.nm q hqm)
      have e2 : okS l.name := by rw [← hkn]; exact NameOk_okS (h.nm k hk)
      simp
      refine po_seq ?_
      simp [den, Knd.d, eqS e1 e2]
      by_cases hn : q.name = l.name
      · have hj0e : j0 = j := only_kind h hj0 hq (by rw [hkn, hn])
        subst hj0e
        have : k = q := by rw [hj0] at hq; cases hq; rfl
        subst this
        simp [hn]
        refine po_seq ?_
        generalize hS : (List.range B.groups.length).map (fun g => B.sum (b.take i) g + if j0 < j0 then B.lineTo g l else 0) = S
        have hSl : S.length = B.groups.length := by rw [← hS]; simp
        have hq1 : (m ++ [Ob.lst (dints S)])[m.length]? = some (.lst (dints S)) := by simp
        have a0 : atI (dints S) (k.grp : Nat) = some (.int (S.getD k.grp 0)) := by
          have := atI_d (xs := S) (i := (k.grp : Nat)) (by omega) (by omega)
          rw [this, Int.toNat_natCast]
        have ix0 : ∀ v, opSet (.ref m.length) (.int (k.grp : Nat)) v (m ++ [Ob.lst (dints S)]) = .ok () ((m ++ [Ob.lst (dints S)]).set m.length (.lst ((dints S).set k.grp v))) := fun v => setN_ref hq1 (by simp [dints]; omega)
        simp at hS
        simp [hS]
        simp [den, Knd.d, ix_ref hq1, a0, L_led_ok (G := G) (σ := σ) (n := n) k.steps (h.kr k hk).2]
        rw [← List.getD_eq_getElem?_getD]
        refine eq_po (ix0 _) ?_
        simp
        have e1 : (dints S).set k.grp (D.int (S.getD k.grp 0 + Bk.led k.steps l.amt)) = dints (S.set k.grp (S.getD k.grp 0 + Bk.led k.steps l.amt)) := by simp [dints, List.map_set]
        have e2 : S.set k.grp (S.getD k.grp 0 + Bk.led k.steps l.amt) = (List.range B.groups.length).map fun g => B.sum (b.take i) g + B.lineTo g l := by
          refine List.ext_getElem (by simp [hSl]) fun j h1 h2 => ?_
          rw [List.length_set] at h1
          rw [List.getElem_set, List.getElem_map, List.getElem_range]
          have sj : ∀ j (hj : j < S.length), S[j] = B.sum (b.take i) j := fun j hj => by subst hS; simp
          rw [lt]
          split
          · rename_i e
            subst e
            have : k.grp < S.length := by omega
            simp only [List.getD, List.getElem?_eq_getElem this, Option.getD_some]
            rw [sj _ this]
          · rw [sj j h1]; omega
        simp only [← List.getD_eq_getElem?_getD]
        rw [e1, e2]
      · have hne : j0 ≠ j := by
          intro e; subst e; rw [hj0] at hq; cases hq; exact hn hkn
        simp [hn]
        have : (j0 < j + 1) = (j0 < j) := by simp only [eq_iff_iff]; omega
        simp only [this]
    · rintro env m' ⟨rfl, z, rfl⟩
      have hlt : j0 < (B.kinds.map Knd.d).length := by rw [List.length_map]; exact (List.getElem?_eq_some_iff.mp hj0).1
      have tk : (fun g => B.sum (b.take i) g + if j0 < (B.kinds.map Knd.d).length then B.lineTo g l else 0) = B.sum (b.take (i + 1)) := by
        funext g
        rw [if_pos hlt, List.take_add_one, hlb]
        simp only [Option.toList_some]
        rw [sum_snoc]
      rw [tk]
      simp
      rfl
  · rintro env m' ⟨rfl, x, y, z, rfl⟩
    refine po_seq ?_
    simp only [List.length_map, List.take_length]
    simp [den]
    rfl
end
end Tx

/-! # BmV: what a bill brings, told by the law's own reckoning -/
namespace Tx
open PySem LC Bk
variable {G : Prog} {σ : Nat → Nat} {n : Nat}
theorem lenRef {P : Phi} {p : Nat} {m : Sto} {xs : List D} (hp : m[p]? = some (.lst xs)) : callB P .len [.ref p] m = .ok (.int xs.length) m := by
  have e : top m (.ref p) = .lst xs := by show topR (.ref p) m[p]? = _; rw [hp]; rfl
  show bLen [.ref p] m = _
  unfold bLen
  simp only [e]
  unfold seqOf
  rw [e]
theorem line_bd {B : Book} (h : B.Ok) {l : Line} (h0 : 0 ≤ l.amt ∧ l.amt ≤ 10 ^ 30) (g : Nat) : -(10 ^ 39) ≤ B.lineTo g l ∧ B.lineTo g l ≤ 10 ^ 39 := by
  unfold Book.lineTo
  cases e : B.kind l.name with
  | none => simp
  | some k =>
    have hk := kind_mem e
    have := led_bd (h.kr k hk.1) (v := l.amt) (V := 10 ^ 30) (by omega)
    simp only
    split <;> omega
theorem sum_bd2 {B : Book} (h : B.Ok) {b : List Line} (hl : b.length ≤ 100) (hb : ∀ l ∈ b, 0 ≤ l.amt ∧ l.amt ≤ 10 ^ 30) (g : Nat) : -(10 ^ 41) ≤ B.sum b g ∧ B.sum b g ≤ 10 ^ 41 := by
  have := sum_bd (l := b.map (B.lineTo g)) (V := 10 ^ 39) (N := 100) (by simpa using hl) (by omega) fun x hx => by
    obtain ⟨l, hl, rfl⟩ := List.mem_map.mp hx
    exact line_bd h (hb l hl) g
  unfold Book.sum
  omega
theorem ask_bd {B : Book} (h : B.Ok) {b : List Line} (hl : b.length ≤ 100) (hb : ∀ l ∈ b, 0 ≤ l.amt ∧ l.amt ≤ 10 ^ 30) : -(10 ^ 62) ≤ B.ask b ∧ B.ask b ≤ 10 ^ 62 := by
  have g3 := h.g3
  have a := sum_bd (l := (B.groups.zip (B.sums b)).map fun p => Bk.led p.1 p.2) (V := 10 ^ 50) (N := 3) (by simp [Book.sums]; omega) (by omega) fun x hx => by
    obtain ⟨⟨g, s⟩, hp, rfl⟩ := List.mem_map.mp hx
    have hm := List.of_mem_zip hp
    obtain ⟨j, _, rfl⟩ := List.mem_map.mp hm.2
    have s1 := sum_bd2 h hl hb j
    have := led_bd (h.gr g hm.1) (v := B.sum b j) (V := 10 ^ 41) (by omega)
    show -(10 ^ 50) ≤ Bk.led g (B.sum b j) ∧ Bk.led g (B.sum b j) ≤ 10 ^ 50
    omega
  have := led_bd h.wr (v := ((B.groups.zip (B.sums b)).map fun p => Bk.led p.1 p.2).sum) (V := 3 * 10 ^ 50) (by omega)
  unfold Book.ask Book.askS
  omega
section
variable [HasD G (σ 49) (d_L_due σ)] [HasD G (σ 48) (d_L_heaped σ)] [HasD G (σ 44) (d_L_led σ)] [HasD G (σ 43) (d_L_whole_part σ)]
theorem L_due_ok (B : Book) (h : B.Ok) (b : List Line) (hb : BillOk B b) (m : Sto) :
    Po (callD G (n + 4) (σ 49) [partsD B, billD b] m) fun v m' => v = .int (B.ask b) ∧ ∃ o, m' = m ++ [o] := by
  refine po_callD rfl ?_; simp only [d_L_due, f_L_due]; simp only [List.map_cons, List.map_nil, List.length_cons, List.length_nil, List.cons_append, List.nil_append, List.replicate]
  have g3 := h.g3
  refine po_seq ?_
  simp [den]
  refine (L_heaped_ok (G := G) (σ := σ) (n := n) B h b hb m).mono ?_
  rintro _ m1 ⟨rfl, rfl⟩
  have hq : (m ++ [Ob.lst (dints (B.sums b))])[m.length]? = some (.lst (dints (B.sums b))) := by simp
  have sl : (B.sums b).length = B.groups.length := by simp [Book.sums]
  generalize hm1 : m ++ [Ob.lst (dints (B.sums b))] = m1 at hq ⊢
  try simp
  refine po_seq ?_
  simp [den, partsD, parts1, parts2, lenRef hq]
  simp only [dints_len]
  refine ⟨small62I (by omega) (by omega), ?_⟩
  have hr : rangeL 0 ((B.sums b).length : Int) = (List.range B.groups.length).map fun k => D.int ((k : Nat) : Int) := by
    unfold rangeL; simp [sl]
  rw [hr]
  refine eq_po (lcL_of (e := fun k : Nat => .int ((k : Nat) : Int)) (f := fun k => .int (Bk.led (B.groups.getD k []) ((B.sums b).getD k 0))) (fun k hk => po_eq ?_) (by simp; unfold LIM; omega)) ?_
  · have hk := List.mem_range.mp hk
    have a1 : atI (B.groups.map rowD) ((k : Nat) : Int) = some (rowD (B.groups.getD k [])) := by
      unfold atI
      rw [ixN_of (by omega) (by rw [List.length_map]; omega)]
      show (B.groups.map rowD)[((k : Nat) : Int).toNat]? = _
      rw [Int.toNat_natCast, List.getElem?_map, List.getElem?_eq_getElem hk]
      simp only [List.getD, List.getElem?_eq_getElem hk, Option.getD_some]
      rfl
    have a2 : atI (dints (B.sums b)) ((k : Nat) : Int) = some (.int ((B.sums b).getD k 0)) := by
      have := atI_d (xs := B.sums b) (i := (k : Nat)) (by omega) (by omega)
      rw [this, Int.toNat_natCast]
    have gk : ∀ s ∈ B.groups.getD k [], s.ok := by
      simp only [List.getD, List.getElem?_eq_getElem hk, Option.getD_some]
      exact (h.gr _ (List.getElem_mem _)).2
    simp only [List.getD_eq_getElem?_getD] at a1 a2 gk ⊢
    simp [lcTurn, ifT, wipeE, den, a1, ix_ref hq, a2, L_led_ok (G := G) (σ := σ) (n := n + 1) _ gk]
  · have e3 : ((List.range B.groups.length).map fun k => D.int (Bk.led (B.groups.getD k []) ((B.sums b).getD k 0))) = dints ((B.groups.zip (B.sums b)).map fun p => Bk.led p.1 p.2) := by
      unfold dints
      refine List.ext_getElem (by simp [sl]) fun j h1 h2 => ?_
      have hj : j < B.groups.length := by simpa using h1
      have hj2 : j < (B.sums b).length := by omega
      simp [hj, hj2, List.getD, List.getElem?_eq_getElem]
    rw [e3, bSum_ints]
    simp [L_led_ok (G := G) (σ := σ) (n := n + 1) B.whole h.wr.2]
    exact ⟨rfl, _, hm1.symm⟩
end
/-- what the bill brings, as data -/
def dueP (B : Book) (b : List Line) : PyData := .list [.int (B.ask b), .tuple ((B.sums b).map .int)]
theorem dueP_ok {B : Book} (h : B.Ok) {b : List Line} (hl : b.length ≤ 100) (hb : ∀ l ∈ b, 0 ≤ l.amt ∧ l.amt ≤ 10 ^ 30) : tel (dueP B b) = true ∧ (dueP B b).depth ≤ 64 ∧ wt (dueP B b) ≤ LIM ∧ rs (dueP B b) = true := by
  have a := ask_bd h hl hb
  have s : ∀ x ∈ B.sums b, big x := fun x hx => by
    obtain ⟨g, _, rfl⟩ := List.mem_map.mp hx
    have := sum_bd2 h hl hb g
    unfold big
    omega
  have sl : (B.sums b).length ≤ 3 := by simp [Book.sums]; exact h.g3
  have bg : big (B.ask b) := by unfold big; omega
  refine ⟨?_, ?_, ?_, ?_⟩
  · simp only [dueP, tel, tels, Bool.and_true, Bool.and_eq_true]
    exact ⟨by have := tel_big bg; simpa [tel] using this, tels_ints s⟩
  · simp only [dueP, PyData.depth, PyData.depthAll]
    have := depths_ints (B.sums b)
    omega
  · simp only [dueP, wt, wts, wts_ints]
    unfold LIM
    omega
  · simp only [dueP, rs, rss, rss_ints, Bool.and_self]
theorem due_py (B : Book) (b : List Line) (m : Sto) : (top m (.lst [.int (B.ask b), .tup (dints (B.sums b))])).py = some (dueP B b) := by
  have e : D.py (.tup (dints (B.sums b))) = some (.tuple ((B.sums b).map .int)) := by simp [D.py, pys_ints]
  have : D.pys [.int (B.ask b), .tup (dints (B.sums b))] = some [.int (B.ask b), .tuple ((B.sums b).map .int)] := pys_cons rfl (pys_cons e rfl)
  simp [top, this, dueP]
section
variable [HasD G (σ 50) (d_L_same σ)] [HasM G "Book" "ask" (σ 40)] [HasM G "Book" "sums" (σ 39)] [HasD G (σ 49) (d_L_due σ)] [HasD G (σ 48) (d_L_heaped σ)] [HasD G (σ 40) (d_Book_ask σ)]
  [HasM G "Book" "ask_of_sums" (σ 41)] [HasD G (σ 39) (d_Book_sums σ)] [HasM G "Book" "kind_at" (σ 37)] [HasF G "Book" "heaps"] [HasP G "Book" "names" (σ 18)] [HasD G (σ 44) (d_L_led σ)]
  [HasD G (σ 41) (d_Book_ask_of_sums σ)] [HasF G "Book" "last"] [HasD G (σ 36) (d_check_bill σ)] [HasD G (σ 34) (d_led σ)] [HasD G (σ 37) (d_Book_kind_at σ)] [HasF G "Book" "sorts"]
  [HasD G (σ 18) (d_Book_names σ)] [HasD G (σ 43) (d_L_whole_part σ)] [HasD G (σ 35) (d_is_line σ)] [HasD G (σ 33) (d_rounded σ)] [HasD G (σ 4) (d_is_between σ)] [HasD G (σ 3) (d_is_integer σ)]
theorem L_same_ok (B : Book) (h : B.Ok) (b : List Line) (hb : BillOk B b) (hl : b.length ≤ 100) (ha : ∀ l ∈ b, l.amt ≤ 10 ^ 30) (q : Nat) (m : Sto) (hq : m[q]? = some (bookOb B)) :
    Po (callD G (n + 7) (σ 50) [.ref q, partsD B, billD b] m) fun v m' => v = .bl true ∧ Kept m m' := by
  refine po_callD rfl ?_; simp only [d_L_same, f_L_same]; simp only [List.map_cons, List.map_nil, List.length_cons, List.length_nil, List.cons_append, List.nil_append, List.replicate]
  obtain ⟨d1, d2, d3, d4⟩ := dueP_ok h hl fun l hlb => ⟨hb.am l hlb, ha l hlb⟩
  have rp : ∀ (P : Phi) (m : Sto), callB P .repr [.lst [.int (B.ask b), .tup (dints (B.sums b))]] m = .ok (.str (dueP B b).shown) m := fun P m => repr_ok (due_py B b m) d1 d2 d3
  have ok := okS_shown (dueP B b) d4
  have pa : ∀ m : Sto, m[q]? = some (bookOb B) → preMe (phi G (n + 6)) "ask" (.ref q) m = .ok (σ 40) m := fun m h => pre_me h rfl
  have ps : ∀ m : Sto, m[q]? = some (bookOb B) → preMe (phi G (n + 6)) "sums" (.ref q) m = .ok (σ 39) m := fun m h => pre_me h rfl
  refine po_seq ?_
  simp [den]
  refine (L_due_ok (G := G) (σ := σ) (n := n + 2) B h b hb m).mono ?_
  rintro _ m1 ⟨rfl, o1, rfl⟩
  have K1 : Kept m (m ++ [o1]) := Kept.new
  generalize m ++ [o1] = m1 at K1 ⊢
  try simp
  refine (L_heaped_ok (G := G) (σ := σ) (n := n + 3) B h b hb m1).mono ?_
  rintro _ m2 ⟨rfl, rfl⟩
  have hh : (m1 ++ [Ob.lst (dints (B.sums b))])[m1.length]? = some (.lst (dints (B.sums b))) := by simp
  have K2 : Kept m (m1 ++ [Ob.lst (dints (B.sums b))]) := K1.trans Kept.new
  generalize m1 ++ [Ob.lst (dints (B.sums b))] = m2 at K2 hh ⊢
  simp [tyTup_ref hh, rp]
  refine po_seq ?_
  simp [den, pa m2 (K2.at hq)]
  refine (Book_ask_ok (G := G) (σ := σ) (n := n) B h b hb q m2 (K2.at hq)).mono ?_
  rintro _ m3 ⟨rfl, o3, rfl⟩
  have K3 : Kept m (m2 ++ [o3]) := K2.trans Kept.new
  generalize m2 ++ [o3] = m3 at K3 ⊢
  simp [ps m3 (K3.at hq)]
  refine (Book_sums_ok (G := G) (σ := σ) (n := n + 1) B h b hb q m3 (K3.at hq)).mono ?_
  rintro _ m4 ⟨rfl, o4, rfl⟩
  have K4 : Kept m (m3 ++ [o4]) := K3.trans Kept.new
  generalize m3 ++ [o4] = m4 at K4 ⊢
  simp [rp, neS ok ok]
  refine po_seq ?_
  simp [den, pa m4 (K4.at hq), permK, pick]
  refine (Book_ask_ok (G := G) (σ := σ) (n := n) B h b hb q m4 (K4.at hq)).mono ?_
  rintro _ m5 ⟨rfl, o5, rfl⟩
  have K5 : Kept m (m4 ++ [o5]) := K4.trans Kept.new
  generalize m4 ++ [o5] = m5 at K5 ⊢
  simp [ps m5 (K5.at hq), permK, pick]
  refine (Book_sums_ok (G := G) (σ := σ) (n := n + 1) B h b hb q m5 (K5.at hq)).mono ?_
  rintro _ m6 ⟨rfl, o6, rfl⟩
  have K6 : Kept m (m5 ++ [o6]) := K5.trans Kept.new
  generalize m5 ++ [o6] = m6 at K6 ⊢
  simp [rp, eqS ok ok]
  exact K6
end
end Tx

/-! # TxL: texts of books differ where books differ -/
namespace Bk
open PySem LC
def cp (s : Str) : List Nat := s.cps.toList
theorem cp_app (a b : Str) : cp (a ++ b) = cp a ++ cp b := by
  show (a.cps ++ b.cps).toList = _
  simp [cp]
theorem cp_inj {a b : Str} (h : cp a = cp b) : a = b := by
  cases a with | mk x => cases b with | mk y =>
    have : x.toList = y.toList := h
    have : x = y := by rw [← Array.toArray_toList (xs := x), this, Array.toArray_toList]
    rw [this]
theorem istr_inj {i j : Int} (h : istr i = istr j) : i = j := by
  unfold istr at h
  rw [ofS_inj] at h
  exact Int.repr_inj.mp h
/-- the part ahead of a sign that stands in neither -/
theorem cut_eq {c : Nat} : ∀ {a a' r r' : List Nat}, c ∉ a → c ∉ a' → a ++ c :: r = a' ++ c :: r' → a = a' ∧ r = r'
  | [], [], r, r', _, _, h => by
    simp at h
    exact ⟨rfl, h⟩
  | [], y :: a', r, r', _, h', h => by
    simp at h
    exact absurd (by rw [h.1]; simp) h'
  | x :: a, [], r, r', ha, _, h => by
    simp at h
    exact absurd (by rw [h.1]; simp) ha
  | x :: a, y :: a', r, r', ha, h', h => by
    simp only [List.cons_append, List.cons.injEq] at h
    simp only [List.mem_cons, not_or] at ha h'
    obtain ⟨e1, e2⟩ := cut_eq ha.2 h'.2 h.2
    exact ⟨by rw [h.1, e1], e2⟩
/-- the same with a tail that is none or begins with the sign -/
theorem cut_tail {c : Nat} {a a' t t' : List Nat} (ha : c ∉ a) (ha' : c ∉ a') (ht : t = [] ∨ ∃ r, t = c :: r) (ht' : t' = [] ∨ ∃ r, t' = c :: r) (h : a ++ t = a' ++ t') : a = a' ∧ t = t' := by
  rcases ht with rfl | ⟨r, rfl⟩ <;> rcases ht' with rfl | ⟨r', rfl⟩
  · simpa using h
  · rw [List.append_nil] at h
    exact absurd (by rw [h]; simp) ha
  · rw [List.append_nil] at h
    exact absurd (by rw [← h]; simp) ha'
  · obtain ⟨e1, e2⟩ := cut_eq ha ha' h
    exact ⟨e1, by rw [e2]⟩
/-- what stands between signs -/
def jn (sep : List Nat) : List (List Nat) → List Nat
  | [] => []
  | [x] => x
  | x :: y :: l => x ++ sep ++ jn sep (y :: l)
theorem cp_join (s : Str) : ∀ l : List Str, cp (Str.join s l) = jn (cp s) (l.map cp)
  | [] => rfl
  | [x] => rfl
  | x :: y :: l => by
    show cp (x ++ s ++ Str.join s (y :: l)) = _
    rw [cp_app, cp_app, cp_join s (y :: l)]
    rfl
theorem jn_inj {c : Nat} {sep : List Nat} : ∀ {l l' : List (List Nat)}, l ≠ [] → l' ≠ [] → (∀ x ∈ l, c ∉ x) → (∀ x ∈ l', c ∉ x) → jn (c :: sep) l = jn (c :: sep) l' → l = l'
  | [], _, h, _, _, _, _ => absurd rfl h
  | _, [], _, h, _, _, _ => absurd rfl h
  | [x], [y], _, _, _, _, e => by rw [show x = y from e]
  | [x], y :: z :: l', _, _, hx, _, e => by
    have e : x = y ++ (c :: sep) ++ jn (c :: sep) (z :: l') := e
    exact absurd (by rw [e]; simp) (hx x (by simp))
  | x :: z :: l, [y], _, _, _, hy, e => by
    have e : x ++ (c :: sep) ++ jn (c :: sep) (z :: l) = y := e
    exact absurd (by rw [← e]; simp) (hy y (by simp))
  | x :: z :: l, y :: w :: l', _, _, hx, hy, e => by
    have e : x ++ (c :: sep) ++ jn (c :: sep) (z :: l) = y ++ (c :: sep) ++ jn (c :: sep) (w :: l') := e
    rw [List.append_assoc, List.append_assoc, List.cons_append, List.cons_append] at e
    obtain ⟨e1, e2⟩ := cut_eq (hx x (by simp)) (hy y (by simp)) e
    have e3 := List.append_cancel_left e2
    have := jn_inj (l := z :: l) (l' := w :: l') (by simp) (by simp) (fun q hq => hx q (by simp at hq ⊢; exact .inr hq)) (fun q hq => hy q (by simp at hq ⊢; exact .inr hq)) e3
    rw [e1, this]
theorem istr_cs (i : Int) : ∀ c ∈ cp (istr i), c = 45 ∨ (48 ≤ c ∧ c ≤ 57) := by
  have nat : ∀ (n : Nat) (c : Char), c ∈ (Nat.repr n).toList → 48 ≤ c.toNat ∧ c.toNat ≤ 57 := fun n c hc => by
    have e : (Nat.repr n).toList = Nat.toDigits 10 n := by simp [Nat.repr]
    rw [e] at hc
    have d := Nat.isDigit_of_mem_toDigits (by omega) (by omega) hc
    simp only [Char.isDigit, Bool.and_eq_true, decide_eq_true_eq] at d
    exact ⟨d.1, d.2⟩
  have e : cp (istr i) = (toString i).toList.map Char.toNat := by
    unfold cp istr
    rw [Str.ofString_eq_toList]
  intro c hc
  rw [e] at hc
  obtain ⟨ch, hm, rfl⟩ := List.mem_map.mp hc
  cases i with
  | ofNat n => exact .inr (nat n ch hm)
  | negSucc n =>
    have hm : ch ∈ ("-" ++ Nat.repr (n + 1)).toList := hm
    rw [String.toList_append] at hm
    rcases List.mem_append.mp hm with h | h
    · have : ch = '-' := by simpa using h
      subst this
      exact .inl rfl
    · exact .inr (nat _ ch h)
theorem istr_free {i : Int} {c : Nat} (h : c ≠ 45) (h2 : c < 48 ∨ 57 < c) : c ∉ cp (istr i) := fun hm => by
  rcases istr_cs i c hm with e | e <;> omega
/-! ### steps -/
theorem cpS (s : String) : cp (Str.ofString s) = s.toList.map Char.toNat := by unfold cp; rw [Str.ofString_eq_toList]
theorem Step.t_inj {s s' : Step} (h : s.t = s'.t) (ok : s.ok) (ok' : s'.ok) : s = s' := by
  have h := congrArg cp h
  cases s with
  | plus c =>
    cases s' with
    | plus c' =>
      simp only [Step.t, cp_app] at h
      have := List.append_cancel_left h
      rw [istr_inj (cp_inj this)]
    | times a b w u =>
      simp only [Step.t, cp_app, cpS] at h
      simp at h
  | times a b w u =>
    cases s' with
    | plus c' =>
      simp only [Step.t, cp_app, cpS] at h
      simp at h
    | times a' b' w' u' =>
      simp only [Step.t, cp_app, List.append_assoc] at h
      have h := List.append_cancel_left h
      have s1 : cp (Str.ofString "/") = [47] := by decide +kernel
      have s2 : cp (Str.ofString " ") = [32] := by decide +kernel
      rw [s1, s2] at h
      obtain ⟨e1, g1⟩ := cut_eq (c := 47) (istr_free (by omega) (by omega)) (istr_free (by omega) (by omega)) h
      obtain ⟨e2, g2⟩ := cut_eq (c := 32) (istr_free (by omega) (by omega)) (istr_free (by omega) (by omega)) g1
      clear h g1
      have ea := istr_inj (cp_inj e1)
      have eb := istr_inj (cp_inj e2)
      subst ea eb
      have ew : w = w' := by
        cases w <;> cases w' <;> first | rfl | (simp [Way.s, cpS] at g2)
      subst ew
      have g3 := List.append_cancel_left g2
      have g4 := List.append_cancel_left g3
      have g5 := List.append_cancel_left g4
      rw [istr_inj (cp_inj g5)]

theorem way_free {c : Nat} (h : c = 44 ∨ c = 10 ∨ c = 58) (w : Way) : c ∉ cp w.s := by
  have : ∀ w : Way, 44 ∉ cp w.s ∧ 10 ∉ cp w.s ∧ 58 ∉ cp w.s := fun w => by cases w <;> (refine ⟨?_, ?_, ?_⟩ <;> decide +kernel)
  obtain ⟨a, b, d⟩ := this w
  rcases h with rfl | rfl | rfl <;> assumption
theorem stepT_free {c : Nat} (h : c = 44 ∨ c = 10 ∨ c = 58) (s : Step) : c ∉ cp s.t := by
  have i : ∀ i : Int, c ∉ cp (istr i) := fun i => istr_free (by omega) (by omega)
  have w := way_free h
  have l1 : c ∉ cp (Str.ofString "plus ") := by rcases h with rfl | rfl | rfl <;> decide +kernel
  have l2 : c ∉ cp (Str.ofString "times ") := by rcases h with rfl | rfl | rfl <;> decide +kernel
  have l3 : c ∉ cp (Str.ofString "/") := by rcases h with rfl | rfl | rfl <;> decide +kernel
  have l4 : c ∉ cp (Str.ofString " ") := by rcases h with rfl | rfl | rfl <;> decide +kernel
  have l5 : c ∉ cp (Str.ofString " to ") := by rcases h with rfl | rfl | rfl <;> decide +kernel
  cases s with
  | plus k => simp [Step.t, cp_app, i, l1]
  | times a b w' u => simp [Step.t, cp_app, i, w, l2, l3, l4, l5]
theorem jn_free {c : Nat} {sep : List Nat} (hs : c ∉ sep) : ∀ {l : List (List Nat)}, (∀ x ∈ l, c ∉ x) → c ∉ jn sep l
  | [], _ => by simp [jn]
  | [x], h => h x (by simp)
  | x :: y :: l, h => by
    show c ∉ x ++ sep ++ jn sep (y :: l)
    have := jn_free hs (l := y :: l) fun q hq => h q (by simp at hq ⊢; exact .inr hq)
    simp only [List.mem_append, not_or]
    exact ⟨⟨h x (by simp), hs⟩, this⟩
theorem cp_comma : cp (Str.ofString ", ") = [44, 32] := by decide +kernel
theorem cp_colon : cp (Str.ofString ": ") = [58, 32] := by decide +kernel
theorem cp_nl : cp (Str.ofString "\n") = [10] := by decide +kernel
theorem stepsT_cp (l : List Step) : cp (stepsT l) = if l = [] then [] else 58 :: 32 :: jn [44, 32] (l.map fun s => cp s.t) := by
  unfold stepsT
  by_cases h : l = []
  · rw [if_pos h, if_pos h]; decide +kernel
  · rw [if_neg h, if_neg h, cp_app, cp_join, cp_comma, cp_colon, List.map_map]
    rfl
theorem stepsT_tail (l : List Step) : cp (stepsT l) = [] ∨ ∃ r, cp (stepsT l) = 58 :: r := by
  rw [stepsT_cp]
  split
  · exact .inl rfl
  · exact .inr ⟨_, rfl⟩
theorem stepsT_nl (l : List Step) : 10 ∉ cp (stepsT l) := by
  rw [stepsT_cp]
  split
  · simp
  · have := jn_free (c := 10) (sep := [44, 32]) (by decide) (l := l.map fun s => cp s.t) fun x hx => by
      obtain ⟨s, hs, rfl⟩ := List.mem_map.mp hx
      exact stepT_free (.inr (.inl rfl)) s
    simp [this]
theorem map_inj_on {α β : Type} {f : α → β} {P : α → Prop} (hf : ∀ x y, P x → P y → f x = f y → x = y) : ∀ {l l' : List α}, (∀ x ∈ l, P x) → (∀ x ∈ l', P x) → l.map f = l'.map f → l = l'
  | [], [], _, _, _ => rfl
  | [], _ :: _, _, _, h => by simp at h
  | _ :: _, [], _, _, h => by simp at h
  | x :: l, y :: l', h1, h2, h => by
    simp only [List.map_cons, List.cons.injEq] at h
    rw [hf x y (h1 x (by simp)) (h2 y (by simp)) h.1, map_inj_on hf (fun q hq => h1 q (by simp [hq])) (fun q hq => h2 q (by simp [hq])) h.2]
theorem stepsT_inj {l l' : List Step} (ok : ∀ s ∈ l, s.ok) (ok' : ∀ s ∈ l', s.ok) (h : cp (stepsT l) = cp (stepsT l')) : l = l' := by
  rw [stepsT_cp, stepsT_cp] at h
  by_cases e : l = [] <;> by_cases e' : l' = []
  · rw [e, e']
  · rw [if_pos e, if_neg e'] at h; cases h
  · rw [if_neg e, if_pos e'] at h; cases h
  · rw [if_neg e, if_neg e'] at h
    simp only [List.cons.injEq, true_and] at h
    have := jn_inj (c := 44) (sep := [32]) (by simpa using e) (by simpa using e') (fun x hx => by
      obtain ⟨s, hs, rfl⟩ := List.mem_map.mp hx
      exact stepT_free (.inl rfl) s) (fun x hx => by
      obtain ⟨s, hs, rfl⟩ := List.mem_map.mp hx
      exact stepT_free (.inl rfl) s) h
    exact map_inj_on (P := fun s => s.ok) (fun x y hx hy e => Step.t_inj (cp_inj e) hx hy) ok ok' this
theorem name_free {s : Str} (h : NameOk s) {c : Nat} (hc : c = 32 ∨ c = 10 ∨ c = 58) : c ∉ cp s := fun hm => by
  rcases h.all c hm with e | e
  · unfold letter at e; omega
  · unfold digit at e; omega

theorem cp_kind : cp (Str.ofString "kind ") = [107, 105, 110, 100, 32] := by decide +kernel
theorem cp_mid : cp (Str.ofString " group ") = [32, 103, 114, 111, 117, 112, 32] := by decide +kernel
theorem cp_group : cp (Str.ofString "group ") = [103, 114, 111, 117, 112, 32] := by decide +kernel
theorem cp_whole : cp (Str.ofString "whole") = [119, 104, 111, 108, 101] := by decide +kernel
theorem kindT_cp (k : Knd) : cp (kindT k) = 107 :: 105 :: 110 :: 100 :: 32 :: (cp k.name ++ 32 :: 103 :: 114 :: 111 :: 117 :: 112 :: 32 :: (cp (istr (k.grp : Nat)) ++ cp (stepsT k.steps))) := by
  unfold kindT
  rw [cp_app, cp_app, cp_app, cp_app, cp_kind, cp_mid]
  simp
theorem grpT_cp (i : Nat) (l : List Step) : cp (grpT i l) = 103 :: 114 :: 111 :: 117 :: 112 :: 32 :: (cp (istr (i : Nat)) ++ cp (stepsT l)) := by
  unfold grpT
  rw [cp_app, cp_app, cp_group]
  simp
theorem wholeT_cp (l : List Step) : cp (("whole" : Str) ++ stepsT l) = 119 :: 104 :: 111 :: 108 :: 101 :: cp (stepsT l) := by
  rw [cp_app, cp_whole]
  rfl
theorem num_tail {i i' : Nat} {l l' : List Step} (ok : ∀ s ∈ l, s.ok) (ok' : ∀ s ∈ l', s.ok) (h : cp (istr (i : Nat)) ++ cp (stepsT l) = cp (istr (i' : Nat)) ++ cp (stepsT l')) : i = i' ∧ l = l' := by
  obtain ⟨e1, e2⟩ := cut_tail (c := 58) (istr_free (by omega) (by omega)) (istr_free (by omega) (by omega)) (stepsT_tail l) (stepsT_tail l') h
  have := istr_inj (cp_inj e1)
  exact ⟨by omega, stepsT_inj ok ok' e2⟩
def KndOk (k : Knd) : Prop := NameOk k.name ∧ ∀ s ∈ k.steps, s.ok
theorem kindT_inj {k k' : Knd} (ok : KndOk k) (ok' : KndOk k') (h : cp (kindT k) = cp (kindT k')) : k = k' := by
  rw [kindT_cp, kindT_cp] at h
  simp only [List.cons.injEq, true_and] at h
  obtain ⟨e1, e2⟩ := cut_eq (c := 32) (name_free ok.1 (.inl rfl)) (name_free ok'.1 (.inl rfl)) h
  simp only [List.cons.injEq, true_and] at e2
  obtain ⟨e3, e4⟩ := num_tail ok.2 ok'.2 e2
  have := cp_inj e1
  cases k
  cases k'
  simp only at this e3 e4
  subst this e3 e4
  rfl
theorem istr_nl (i : Int) : 10 ∉ cp (istr i) := istr_free (by omega) (by omega)
theorem kindT_nl {k : Knd} (ok : KndOk k) : 10 ∉ cp (kindT k) := by
  rw [kindT_cp]
  simp [name_free ok.1 (.inr (.inl rfl)), istr_nl, stepsT_nl]
theorem grpT_nl (i : Nat) (l : List Step) : 10 ∉ cp (grpT i l) := by
  rw [grpT_cp]
  simp [istr_nl, stepsT_nl]
theorem wholeT_nl (l : List Step) : 10 ∉ cp (("whole" : Str) ++ stepsT l) := by
  rw [wholeT_cp]
  simp [stepsT_nl]
/-- a book's rows, by signs -/
def rowsL (B : Book) : List (List Nat) := (B.kinds.map fun k => cp (kindT k)) ++ ((((List.range B.groups.length).zip B.groups).map fun p => cp (grpT p.1 p.2)) ++ [cp (("whole" : Str) ++ stepsT B.whole)])
theorem text_cp (B : Book) : cp B.text = jn [10] (rowsL B) := by
  unfold Book.text
  rw [cp_join, cp_nl]
  congr 1
  simp [rowsL, List.map_append, List.map_map, Function.comp_def]
def hd (c : Nat) (x : List Nat) : Bool := x.head? == some c
theorem filt3 {c : Nat} {K Gs : List (List Nat)} {W : List Nat} :
    ((K ++ (Gs ++ [W])).filter (hd c)) = K.filter (hd c) ++ (Gs.filter (hd c) ++ [W].filter (hd c)) := by rw [List.filter_append, List.filter_append]
theorem all_f {c : Nat} {K : List (List Nat)} (h : ∀ x ∈ K, hd c x = true) : K.filter (hd c) = K := List.filter_eq_self.mpr h
theorem none_f {c : Nat} {K : List (List Nat)} (h : ∀ x ∈ K, hd c x = false) : K.filter (hd c) = [] := List.filter_eq_nil_iff.mpr fun x hx => by rw [h x hx]; simp
theorem text_inj {B B' : Book} (h : B.Ok) (h' : B'.Ok) (e : B.text = B'.text) : B.kinds = B'.kinds ∧ B.groups = B'.groups ∧ B.whole = B'.whole := by
  have ko : ∀ {B : Book}, B.Ok → ∀ k ∈ B.kinds, KndOk k := fun h k hk => ⟨h.nm k hk, (h.kr k hk).2⟩
  have free : ∀ {B : Book}, B.Ok → ∀ x ∈ rowsL B, 10 ∉ x := fun {B} h x hx => by
    unfold rowsL at hx
    rcases List.mem_append.mp hx with hx | hx
    · obtain ⟨k, hk, rfl⟩ := List.mem_map.mp hx
      exact kindT_nl (ko h k hk)
    · rcases List.mem_append.mp hx with hx | hx
      · obtain ⟨q, hq, rfl⟩ := List.mem_map.mp hx
        exact grpT_nl _ _
      · rw [List.mem_singleton.mp hx]; exact wholeT_nl _
  have e := congrArg cp e
  rw [text_cp, text_cp] at e
  have ne : ∀ B : Book, rowsL B ≠ [] := fun B => by simp [rowsL]
  have e := jn_inj (c := 10) (sep := []) (ne B) (ne B') (free h) (free h') e
  have tk : ∀ (B : Book) (c : Nat), (∀ x ∈ B.kinds.map fun k => cp (kindT k), hd c x = decide (c = 107)) := fun B c x hx => by
    obtain ⟨k, hk, rfl⟩ := List.mem_map.mp hx
    rw [kindT_cp]
    show (107 == c) = _
    by_cases q : c = 107
    · subst q; rfl
    · rw [decide_eq_false q]; exact beq_eq_false_iff_ne.mpr (Ne.symm q)
  have tg : ∀ (B : Book) (c : Nat), (∀ x ∈ ((List.range B.groups.length).zip B.groups).map fun p => cp (grpT p.1 p.2), hd c x = decide (c = 103)) := fun B c x hx => by
    obtain ⟨k, hk, rfl⟩ := List.mem_map.mp hx
    rw [grpT_cp]
    show (103 == c) = _
    by_cases q : c = 103
    · subst q; rfl
    · rw [decide_eq_false q]; exact beq_eq_false_iff_ne.mpr (Ne.symm q)
  have tw : ∀ (B : Book) (c : Nat), (∀ x ∈ [cp (("whole" : Str) ++ stepsT B.whole)], hd c x = decide (c = 119)) := fun B c x hx => by
    rw [List.mem_singleton.mp hx, wholeT_cp]
    show (119 == c) = _
    by_cases q : c = 119
    · subst q; rfl
    · rw [decide_eq_false q]; exact beq_eq_false_iff_ne.mpr (Ne.symm q)
  have f := fun c => congrArg (fun l => l.filter (hd c)) e
  simp only [rowsL, filt3] at f
  have f1 := f 107
  have f2 := f 103
  have f3 := f 119
  rw [all_f (tk B 107), none_f (tg B 107), none_f (tw B 107), all_f (tk B' 107), none_f (tg B' 107), none_f (tw B' 107), List.append_nil, List.append_nil] at f1
  rw [none_f (tk B 103), all_f (tg B 103), none_f (tw B 103), none_f (tk B' 103), all_f (tg B' 103), none_f (tw B' 103), List.append_nil, List.append_nil] at f2
  rw [none_f (tk B 119), none_f (tg B 119), all_f (tw B 119), none_f (tk B' 119), none_f (tg B' 119), all_f (tw B' 119)] at f3
  simp only [List.nil_append, List.append_nil] at f1 f2 f3
  refine ⟨map_inj_on (P := KndOk) (fun x y hx hy e => kindT_inj hx hy e) (ko h) (ko h') f1, ?_, ?_⟩
  · have go : ∀ {B : Book}, B.Ok → ∀ p ∈ (List.range B.groups.length).zip B.groups, ∀ s ∈ p.2, s.ok := fun h p hp => (h.gr p.2 (List.of_mem_zip hp).2).2
    have z := map_inj_on (P := fun p : Nat × List Step => ∀ s ∈ p.2, s.ok) (fun x y hx hy e => by
      rw [grpT_cp, grpT_cp] at e
      simp only [List.cons.injEq, true_and] at e
      obtain ⟨e1, e2⟩ := num_tail hx hy e
      exact Prod.ext e1 e2) (go h) (go h') f2
    have m : ∀ l : List (List Step), ((List.range l.length).zip l).map Prod.snd = l := fun l => by
      rw [List.map_snd_zip]
      simp
    rw [← m B.groups, z, m]
  · have f3 := List.cons.inj f3 |>.1
    rw [wholeT_cp, wholeT_cp] at f3
    simp only [List.cons.injEq, true_and] at f3
    exact stepsT_inj h.wr.2 h'.wr.2 f3
end Bk

/-! # K02L: books as data, their texts as the law writes them -/
namespace Tx
open PySem LC Bk
variable {G : Prog} {σ : Nat → Nat} {n : Nat}
/-! ### a book as data -/
def rowP (l : List Bk.Step) : PyData := .tuple (l.map Step.p)
def kndP (k : Knd) : PyData := .tuple [.str k.name, .int (k.grp : Nat), rowP k.steps]
def bookP (B : Book) : PyData := .list [.tuple (B.kinds.map kndP), .tuple (B.groups.map rowP), rowP B.whole]
theorem row_py (l : List Bk.Step) : D.py (rowD l) = some (rowP l) := by simp [D.py, steps_py, rowP]
theorem knd_py (k : Knd) : D.py k.d = some (kndP k) := by
  have : D.pys [.str k.name, .int (k.grp : Nat), rowD k.steps] = some [.str k.name, .int (k.grp : Nat), rowP k.steps] := pys_cons rfl (pys_cons rfl (pys_cons (row_py _) rfl))
  simp [Knd.d, D.py, this, kndP]
theorem knds_pys : ∀ l : List Knd, D.pys (l.map Knd.d) = some (l.map kndP)
  | [] => rfl
  | k :: l => pys_cons (knd_py k) (knds_pys l)
theorem rows_pys : ∀ l : List (List Bk.Step), D.pys (l.map rowD) = some (l.map rowP)
  | [] => rfl
  | k :: l => pys_cons (row_py k) (rows_pys l)
theorem book_py (B : Book) (m : Sto) : (top m (.lst [.tup (B.kinds.map Knd.d), .tup (B.groups.map rowD), rowD B.whole])).py = some (bookP B) := by
  have e1 : D.py (.tup (B.kinds.map Knd.d)) = some (.tuple (B.kinds.map kndP)) := by simp [D.py, knds_pys]
  have e2 : D.py (.tup (B.groups.map rowD)) = some (.tuple (B.groups.map rowP)) := by simp [D.py, rows_pys]
  have : D.pys [.tup (B.kinds.map Knd.d), .tup (B.groups.map rowD), rowD B.whole] = some [.tuple (B.kinds.map kndP), .tuple (B.groups.map rowP), rowP B.whole] := pys_cons e1 (pys_cons e2 (pys_cons (row_py _) rfl))
  simp [top, this, bookP]
/-- what repr wants, with a weight -/
structure Fit (a : PyData) (w d : Nat) : Prop where
  t : tel a = true
  w : wt a ≤ w
  d : a.depth ≤ d
  r : rs a = true
theorem tel_ok {s : Str} (h : okS s) : tel (.str s) = true := by
  simp only [tel, List.all_eq_true, decide_eq_true_eq]
  intro c hc
  have := okS_iff.mp h c hc
  omega
theorem step_fitP {s : Bk.Step} (h : s.ok) : Fit (Step.p s) 10000 2 := by
  cases s with
  | plus c =>
    obtain ⟨h1, h2⟩ := h
    have a := tel_big (i := c) (by unfold big; omega)
    have b : tel (.str ("plus" : Str)) = true := tel_ok (okS_of _)
    have l : ("plus" : Str).length = 4 := by decide +kernel
    refine ⟨by simp only [Step.p, tel, tels, Bool.and_true, Bool.and_eq_true]; exact ⟨by simpa only [tel] using b, by simpa only [tel] using a⟩, by simp only [Step.p, wt, wts, l]; omega, by simp [Step.p, PyData.depth, PyData.depthAll], by simp [Step.p, rs, rss]⟩
  | times a b w u =>
    obtain ⟨h1, h2, h3, h4, h5, h6⟩ := h
    have t1 := tel_big (i := a) (by unfold big; omega)
    have t2 := tel_big (i := b) (by unfold big; omega)
    have t3 := tel_big (i := u) (by unfold big; omega)
    have b1 : tel (.str ("times" : Str)) = true := tel_ok (okS_of _)
    have b2 : tel (.str w.s) = true := tel_ok (by cases w <;> exact okS_of _)
    have l : ("times" : Str).length = 5 := by decide +kernel
    have lw := way_len w
    refine ⟨by simp only [Step.p, tel, tels, Bool.and_true, Bool.and_eq_true]; exact ⟨by simpa only [tel] using b1, by simpa only [tel] using t1, by simpa only [tel] using t2, by simpa only [tel] using b2, by simpa only [tel] using t3⟩, by simp only [Step.p, wt, wts, l]; omega, by simp [Step.p, PyData.depth, PyData.depthAll], by simp [Step.p, rs, rss]⟩
/-- a tuple of fitting things -/
theorem fits_tup {α : Type} {f : α → PyData} {w d : Nat} : ∀ {l : List α}, (∀ x ∈ l, Fit (f x) w d) → tels (l.map f) = true ∧ wts (l.map f) ≤ l.length * (w + 2) ∧ PyData.depthAll (l.map f) ≤ d ∧ rss (l.map f) = true
  | [], _ => by simp [tels, wts, PyData.depthAll, rss]
  | x :: l, h => by
    have a := h x (by simp)
    obtain ⟨b1, b2, b3, b4⟩ := fits_tup (l := l) fun y hy => h y (by simp [hy])
    have e : (l.length + 1) * (w + 2) = l.length * (w + 2) + (w + 2) := by rw [Nat.add_mul, Nat.one_mul]
    have := a.w
    have := a.d
    refine ⟨by simp only [List.map_cons, tels, a.t, b1, Bool.and_self], by simp only [List.map_cons, wts, List.length_cons]; omega, by simp only [List.map_cons, PyData.depthAll]; omega, by simp only [List.map_cons, rss, a.r, b4, Bool.and_self]⟩
theorem fit_tup {α : Type} {f : α → PyData} {w d k : Nat} {l : List α} (h : ∀ x ∈ l, Fit (f x) w d) (hl : l.length ≤ k) : Fit (.tuple (l.map f)) (4 + k * (w + 2)) (d + 1) := by
  obtain ⟨b1, b2, b3, b4⟩ := fits_tup h
  have : l.length * (w + 2) ≤ k * (w + 2) := Nat.mul_le_mul_right _ hl
  exact ⟨by simpa only [tel] using b1, by simp only [wt]; omega, by simp only [PyData.depth]; omega, by simpa only [rs] using b4⟩
theorem row_fitP {l : List Bk.Step} (h : rowOk l) : Fit (rowP l) 20008 3 := fit_tup (k := 2) (fun x hx => step_fitP (h.2 x hx)) h.1
theorem knd_fitP {B : Book} (h : B.Ok) {k : Knd} (hk : k ∈ B.kinds) : Fit (kndP k) 30000 4 := by
  have a := row_fitP (h.kr k hk)
  have nm := h.nm k hk
  have l8 := nm.le
  have g3 := h.g3
  have kg := h.kg k hk
  have t1 : tel (.str k.name) = true := tel_ok (NameOk_okS nm)
  have t2 := tel_big (i := (k.grp : Nat)) (by unfold big; omega)
  have t3 := a.t
  have := a.w
  have := a.d
  refine ⟨by simp only [kndP, tel, tels, t3, Bool.and_true, Bool.and_eq_true]; exact ⟨by simpa only [tel] using t1, by simpa only [tel] using t2⟩, by simp only [kndP, wt, wts]; omega, by simp only [kndP, PyData.depth, PyData.depthAll]; omega, by simp only [kndP, rs, rss, a.r, Bool.and_true]; exact NameOk_okS nm⟩
theorem book_fitP {B : Book} (h : B.Ok) : Fit (bookP B) 300000 10 := by
  have a := fit_tup (f := kndP) (k := 4) (fun k hk => knd_fitP h hk) h.k4
  have b := fit_tup (f := rowP) (k := 3) (fun g hg => row_fitP (h.gr g hg)) h.g3
  have c := row_fitP h.wr
  have := a.w
  have := b.w
  have := c.w
  have := a.d
  have := b.d
  have := c.d
  refine ⟨by simp only [bookP, tel, tels, Bool.and_true, Bool.and_eq_true]; exact ⟨by simpa only [tel] using a.t, by simpa only [tel] using b.t, c.t⟩, by simp only [bookP]; unfold wt; simp only [wts]; omega, by simp only [bookP]; unfold PyData.depth; simp only [PyData.depthAll]; omega, by simp only [bookP, rs, rss, Bool.and_true, Bool.and_eq_true]; exact ⟨by simpa only [rs] using a.r, by simpa only [rs] using b.r, c.r⟩⟩
section
variable [HasD G (σ 15) (d_Book_kinds σ)] [HasF G "Book" "sorts"]
theorem Book_kinds_ok (B : Book) (p : Nat) (m : Sto) (hp : m[p]? = some (bookOb B)) : callD G (n + 1) (σ 15) [.ref p] m = .ok (.tup (B.kinds.map Knd.d)) m := by
  refine po_eq ?_; refine po_callD rfl ?_; simp only [d_Book_kinds, f_Book_kinds]; simp only [List.map_cons, List.map_nil, List.length_cons, List.length_nil, List.cons_append, List.nil_append, List.replicate]
  refine po_seq ?_
  simp [den, bSorts hp]
end
section
variable [HasD G (σ 16) (d_Book_groups σ)] [HasF G "Book" "heaps"]
theorem Book_groups_ok (B : Book) (p : Nat) (m : Sto) (hp : m[p]? = some (bookOb B)) : callD G (n + 1) (σ 16) [.ref p] m = .ok (.tup (B.groups.map rowD)) m := by
  refine po_eq ?_; refine po_callD rfl ?_; simp only [d_Book_groups, f_Book_groups]; simp only [List.map_cons, List.map_nil, List.length_cons, List.length_nil, List.cons_append, List.nil_append, List.replicate]
  refine po_seq ?_
  simp [den, bHeaps hp]
end
section
variable [HasD G (σ 17) (d_Book_whole σ)] [HasF G "Book" "last"]
theorem Book_whole_ok (B : Book) (p : Nat) (m : Sto) (hp : m[p]? = some (bookOb B)) : callD G (n + 1) (σ 17) [.ref p] m = .ok (rowD B.whole) m := by
  refine po_eq ?_; refine po_callD rfl ?_; simp only [d_Book_whole, f_Book_whole]; simp only [List.map_cons, List.map_nil, List.length_cons, List.length_nil, List.cons_append, List.nil_append, List.replicate]
  refine po_seq ?_
  simp [den, bLast hp]
end
theorem lcL_filt {turn : D → M (Option D)} {ok : Str → Bool} {m : Sto} {sp : List Str} (h : ∀ x ∈ sp, turn (.str x) m = .ok (if ok x then some (.str x) else none) m) (hz : sp.length ≤ LIM) :
    lcL turn (sp.map D.str) [] m = .ok ((sp.filter ok).map D.str) m := by
  have := lcL_fm (turn := turn) (m := m) (ds := sp.map D.str) (acc := []) (g := fun d => match d with | .str x => if ok x then some (.str x) else none | _ => none) (fun d hd => by
    obtain ⟨x, hx, rfl⟩ := List.mem_map.mp hd
    rw [h x hx]) (by simp; exact hz)
  rw [this]
  congr 1
  clear this h hz
  induction sp with
  | nil => rfl
  | cons x sp ih =>
    simp only [List.nil_append] at ih ⊢
    rw [List.map_cons, List.filterMap_cons, List.filter_cons]
    cases e : ok x with
    | false => simp [e]; simpa using ih
    | true => simp [e]; simpa using ih
theorem pick_fresh {sp ws : List Str} (nd : sp.Nodup) (hl : ws.length < sp.length) : ∃ y, atI ((sp.filter fun x => !decide (x ∈ ws)).map D.str) 0 = some (.str y) ∧ y ∈ sp ∧ y ∉ ws := by
  cases e : sp.filter (fun x => !decide (x ∈ ws)) with
  | nil =>
    have := sub_len (xs := sp) (ws := ws) nd fun x hx => by
      have z := List.filter_eq_nil_iff.mp e x hx
      simpa using z
    omega
  | cons y ys =>
    have : y ∈ sp.filter (fun x => !decide (x ∈ ws)) := by rw [e]; simp
    rw [List.mem_filter] at this
    refine ⟨y, ?_, this.1, by simpa using this.2⟩
    unfold atI
    rw [ixN_of (by omega) (by simp)]
    rfl
theorem strI {mu : Bool} {i : Int} {m : Sto} (h1 : -(10 ^ 40) ≤ i) (h2 : i ≤ 10 ^ 40) : callT mu .str [.int i] m = .ok (.str (istr i)) m := by
  have l : i.natAbs.log2 < 1920 := by
    have h : i.natAbs ≤ 10 ^ 40 := by omega
    have : i.natAbs < 2 ^ 1920 := Nat.lt_of_le_of_lt h (by decide +kernel)
    by_cases z : i.natAbs = 0
    · rw [z]; decide
    · exact (Nat.log2_lt z).mpr this
  show (if decide (i.natAbs.log2 < 1920) = true then _ else _) = _
  rw [decide_eq_true l]
  rfl
theorem addS {mu : Bool} {a b : Str} {m : Sto} (h : a.length + b.length ≤ 1000000) : opBin mu .Add (.str a) (.str b) m = .ok (.str (a ++ b)) m := v_addS (by unfold LIM; omega)
section
variable [HasD G (σ 311) (d_L_step_text σ)]
theorem L_step_text_ok (s : Bk.Step) (hs : s.ok) (m : Sto) : callD G (n + 1) (σ 311) [s.d] m = .ok (.str s.t) m := by
  refine po_eq ?_; refine po_callD rfl ?_; simp only [d_L_step_text, f_L_step_text]; simp only [List.map_cons, List.map_nil, List.length_cons, List.length_nil, List.cons_append, List.nil_append, List.replicate]
  cases s with
  | plus c =>
    obtain ⟨h1, h2⟩ := hs
    have l1 := istr_le (i := c) (by omega) (by omega)
    refine po_seq ?_; simp [den, Step.d, eqS]
    refine po_seq ?_
    simp [den, Step.d, strI (i := c) (by omega) (by omega), Step.t]
    rw [addS (by rw [len_l0]; omega)]
    simp
  | times a b w u =>
    obtain ⟨h1, h2, h3, h4, h5, h6⟩ := hs
    have l1 := istr_le (i := a) (by omega) (by omega)
    have l2 := istr_le (i := b) (by omega) (by omega)
    have l3 := istr_le (i := u) (by omega) (by omega)
    have l4 := way_len w
    refine po_seq ?_; simp [den, Step.d, eqS, ofS_inj]
    refine po_seq ?_
    simp [den, Step.d, strI (i := a) (by omega) (by omega), strI (i := b) (by omega) (by omega), strI (i := u) (by omega) (by omega), Step.t]
    iterate 7 (rw [addS (by simp only [str_len_app, len_l1, len_l2, len_l3, len_l4]; omega)]; simp)
end
section
variable [HasD G (σ 312) (d_L_tail σ)] [HasD G (σ 311) (d_L_step_text σ)]
theorem L_tail_ok (l : List Bk.Step) (hl : rowOk l) (m : Sto) : callD G (n + 2) (σ 312) [rowD l] m = .ok (.str (stepsT l)) m := by
  refine po_eq ?_; refine po_callD rfl ?_; simp only [d_L_tail, f_L_tail]; simp only [List.map_cons, List.map_nil, List.length_cons, List.length_nil, List.cons_append, List.nil_append, List.replicate]
  refine po_seq ?_
  simp [den, eqT0 (steps_py l) (steps_fit l)]
  have h2 := hl.1
  cases e : l with
  | nil => simp [dsteps, stepsT]
  | cons s l' =>
    rw [← e]
    have ne : ¬ dsteps l = [] := by rw [e]; simp [dsteps]
    rw [if_neg ne]
    refine eq_po (lcL_of (e := Step.d) (f := fun s => .str s.t) (fun s hs => po_eq (by simp [lcTurn, ifT, wipeE, L_step_text_ok s (hl.2 s hs)])) (by unfold LIM; omega)) ?_
    have sm := sums_le (l := l.map Step.t) (B := 8000) fun x hx => by
      obtain ⟨s, hs, rfl⟩ := List.mem_map.mp hx
      exact step_len s (hl.2 s hs)
    have jn := join_le (s := ", ") (l := l.map Step.t) (B := 8000) fun x hx => by
      obtain ⟨s, hs, rfl⟩ := List.mem_map.mp hx
      exact step_len s (hl.2 s hs)
    rw [List.length_map] at sm jn
    rw [len_l6] at jn
    have h3 : l.length * 8000 ≤ 2 * 8000 := Nat.mul_le_mul_right _ h2
    have h4 : l.length * (8000 + 2) ≤ 2 * 8002 := Nat.mul_le_mul_right _ h2
    have ej : (l.map fun s => D.str s.t) = (l.map Step.t).map D.str := by simp
    rw [ej]
    refine eq_po (v_join rfl (by rw [List.length_map, len_l6]; unfold LIM; omega)) ?_
    rw [v_addS (by rw [len_l5]; unfold LIM; omega)]
    simp
    unfold stepsT
    rw [if_neg (by rw [e]; simp)]
end
def grpsT (B : Book) : List Str := ((List.range B.groups.length).zip B.groups).map fun p => grpT p.1 p.2
theorem grpsT_len (B : Book) : (grpsT B).length = B.groups.length := by simp [grpsT]
theorem grpsT_get {B : Book} {i : Nat} {l : List Bk.Step} (h : B.groups[i]? = some l) : (grpsT B)[i]? = some (grpT i l) := by
  have hi := (List.getElem?_eq_some_iff.mp h).1
  unfold grpsT
  rw [List.getElem?_map, (List.getElem?_zip_eq_some (z := (i, l))).mpr ⟨List.getElem?_range hi, h⟩]
  rfl
theorem atI_nat {α : Type} {xs : List α} {i : Nat} : atI xs (i : Int) = xs[i]? := by
  unfold atI ixN
  by_cases h : (i : Int) < (xs.length : Int)
  · rw [if_pos (by omega), if_pos h]; rfl
  · rw [if_pos (by omega), if_neg h]
    rw [List.getElem?_eq_none (by omega)]
    rfl
theorem atI_map {α β : Type} {f : α → β} {xs : List α} {i : Nat} {x : α} (h : xs[i]? = some x) : atI (xs.map f) (i : Int) = some (f x) := by rw [atI_nat, List.getElem?_map, h]; rfl
theorem rangeL_at {N i : Nat} {d : D} (h : (rangeL 0 (N : Int))[i]? = some d) : d = .int (i : Nat) ∧ i < N := by
  have hi := (List.getElem?_eq_some_iff.mp h).1
  rw [rangeL_len] at hi
  unfold rangeL at h
  rw [List.getElem?_map, List.getElem?_range (by omega)] at h
  cases h
  exact ⟨by simp, by omega⟩
section
variable [HasD G (σ 313) (d_L_text σ)] [HasD G (σ 312) (d_L_tail σ)] [HasD G (σ 311) (d_L_step_text σ)]
theorem L_text_ok (B : Book) (h : B.Ok) (m : Sto) : Po (callD G (n + 3) (σ 313) [partsD B] m) fun v m' => v = .str B.text ∧ ∃ o, m' = m ++ [o] := by
  refine po_callD rfl ?_; simp only [d_L_text, f_L_text]; simp only [List.map_cons, List.map_nil, List.length_cons, List.length_nil, List.cons_append, List.nil_append, List.replicate]
  have g3 := h.g3
  have k4 := h.k4
  refine po_seq ?_
  simp [den, partsD, parts0]
  refine eq_po (lcL_of (e := Knd.d) (f := fun k => .str (kindT k)) (fun k hk => po_eq ?_) (by unfold LIM; omega)) ?_
  · have hg := h.kg k hk
    have l1 := istr_le (i := (k.grp : Nat)) (by omega) (by omega)
    have l2 := stepsT_len k.steps (h.kr k hk)
    have l3 := name_len (h.nm k hk)
    simp [lcTurn, ifT, wipeE, Knd.d, strI (i := (k.grp : Nat)) (by omega) (by omega), L_tail_ok k.steps (h.kr k hk)]
    iterate 4 (rw [addS (by simp only [str_len_app, len_l9, len_l10]; omega)]; simp)
    try simp [kindT]
  simp [new]
  refine po_seq ?_
  simp [den]
  refine ⟨small62I (by omega) (by omega), ?_⟩
  refine forL_po (n := (rangeL 0 (B.groups.length : Int)).length) (fun i env m' => m' = m ++ [.lst ((B.kinds.map fun k => D.str (kindT k)) ++ ((grpsT B).take i).map D.str)] ∧ ∃ x2, env = [some (partsD B), some (.ref m.length), x2, none]) rfl ⟨by simp, _, rfl⟩ ?_ ?_
  · rintro i env m1 d hi hd ⟨rfl, x2, rfl⟩
    obtain ⟨rfl, hg⟩ := rangeL_at hd
    have eg := List.getElem?_eq_getElem hg
    generalize B.groups[i] = l at eg
    have hm := List.mem_of_getElem? eg
    have l1 := istr_le (i := (i : Nat)) (by omega) (by omega)
    have l2 := stepsT_len l (h.gr l hm)
    have hp : (m ++ [Ob.lst ((B.kinds.map fun k => D.str (kindT k)) ++ ((grpsT B).take i).map D.str)])[m.length]? = some (.lst ((B.kinds.map fun k => D.str (kindT k)) ++ ((grpsT B).take i).map D.str)) := by simp
    have ea := atI_map (f := rowD) eg
    have ll : ((B.kinds.map fun k => D.str (kindT k)) ++ ((grpsT B).take i).map D.str).length ≤ 100 := by
      have := grpsT_len B
      simp; omega
    have tk : (grpsT B).take (i + 1) = (grpsT B).take i ++ [grpT i l] := by
      rw [List.take_succ, grpsT_get eg]; rfl
    generalize hr : (B.kinds.map fun k => D.str (kindT k)) ++ ((grpsT B).take i).map D.str = rows at hp ll ⊢
    simp
    refine po_seq ?_
    simp [den, preL_ref hp, partsD, parts1, ea, strI (i := (i : Nat)) (by omega) (by omega), L_tail_ok l (h.gr l hm)]
    iterate 2 (rw [addS (by simp only [str_len_app, len_l11]; omega)]; simp)
    refine eq_po (append_ref hp (by unfold LIM; omega)) ?_
    simp [← hr]
    rw [← List.map_take, ← List.map_take, tk]
    simp [grpT]
  · rintro env m1 ⟨rfl, x2, rfl⟩
    have tk : (grpsT B).take (rangeL 0 (B.groups.length : Int)).length = grpsT B := by
      rw [List.take_of_length_le]; rw [grpsT_len, rangeL_len]; omega
    rw [tk]
    generalize hr : (B.kinds.map fun k => D.str (kindT k)) ++ (grpsT B).map D.str = rows
    have hp2 : (m ++ [Ob.lst rows])[m.length]? = some (.lst rows) := by simp
    have er : rows = (B.kinds.map kindT ++ grpsT B).map D.str := by rw [← hr]; simp [Function.comp_def]
    have rl : rows.length ≤ 7 := by rw [← hr]; simp [grpsT_len]; omega
    have et : top (m ++ [Ob.lst rows]) (.ref m.length) = .lst rows := by show topR _ (m ++ [Ob.lst rows])[m.length]? = _; rw [hp2]; rfl
    have l2 := stepsT_len B.whole h.wr
    have ej : rows ++ [D.str (Str.ofString "whole" ++ stepsT B.whole)] = (B.kinds.map kindT ++ grpsT B ++ [("whole" : Str) ++ stepsT B.whole]).map D.str := by
      rw [er]; simp
    have ad : ∀ z, opBin false .Add (.ref m.length) (.lst [z]) (m ++ [Ob.lst rows]) = .ok (.lst (rows ++ [z])) (m ++ [Ob.lst rows]) := fun z => by
      show (match top (m ++ [Ob.lst rows]) (.ref m.length), top (m ++ [Ob.lst rows]) (.lst [z]) with
        | .lst a, .lst b => if decide (a.length + b.length ≤ LIM) then (if false then new (.lst (a ++ b)) (m ++ [Ob.lst rows]) else .ok (.lst (a ++ b)) (m ++ [Ob.lst rows])) else .bad
        | _, _ => .bad) = _
      rw [et]
      show (if decide (rows.length + 1 ≤ LIM) = true then _ else _) = _
      rw [if_pos (by simp; unfold LIM; omega)]
      rfl
    try simp
    refine po_seq ?_
    simp [den, partsD, parts2, L_tail_ok B.whole h.wr, v_addS (a := "whole") (b := stepsT B.whole) (by rw [len_l12]; unfold LIM; omega), ad]
    rw [ej]
    refine eq_po (v_join rfl ?_) ?_
    · have sm := sums_le (l := B.kinds.map kindT ++ grpsT B ++ [("whole" : Str) ++ stepsT B.whole]) (B := 20000) fun x hx => by
        rw [List.mem_append, List.mem_append] at hx
        rcases hx with (hx | hx) | hx
        · obtain ⟨k, hk, rfl⟩ := List.mem_map.mp hx
          exact kindT_len k (h.nm k hk) (h.kr k hk) (by have := h.kg k hk; omega)
        · obtain ⟨p, hp, rfl⟩ := List.mem_map.mp hx
          have hp := List.of_mem_zip (show (p.1, p.2) ∈ (List.range B.groups.length).zip B.groups from hp)
          exact grpT_len p.1 p.2 (h.gr _ hp.2) (by have := List.mem_range.mp hp.1; omega)
        · rw [List.mem_singleton.mp hx, str_len_app, len_l12]; omega
      have hl : (B.kinds.map kindT ++ grpsT B ++ [("whole" : Str) ++ stepsT B.whole]).length ≤ 8 := by simp [grpsT_len]; omega
      generalize (B.kinds.map kindT ++ grpsT B ++ [("whole" : Str) ++ stepsT B.whole]) = z at sm hl ⊢
      have : z.length * 20000 ≤ 8 * 20000 := Nat.mul_le_mul_right _ hl
      rw [len_l8]
      unfold LIM; omega
    · simp [Book.text, grpsT]
/-! ### what a book shows -/
end
theorem step_okS {s : Bk.Step} : okS s.t := by
  cases s with
  | plus c => exact okS_app (okS_of _) (okS_of _)
  | times a b w u =>
    have hw : okS w.s := by cases w <;> exact okS_of _
    exact okS_app (okS_app (okS_app (okS_app (okS_app (okS_app (okS_app (okS_of _) (okS_of _)) (okS_of _)) (okS_of _)) (okS_of _)) hw) (okS_of _)) (okS_of _)
theorem stepsT_okS (l : List Bk.Step) : okS (stepsT l) := by
  unfold stepsT
  split
  · exact okS_of _
  · refine okS_app (okS_of _) (okS_join (okS_of _) _ fun x hx => ?_)
    obtain ⟨s, _, rfl⟩ := List.mem_map.mp hx
    exact step_okS
theorem text_okS {B : Book} (h : B.Ok) : okS B.text := by
  refine okS_join (okS_of _) _ fun x hx => ?_
  rw [List.mem_append, List.mem_append] at hx
  rcases hx with (hx | hx) | hx
  · obtain ⟨k, hk, rfl⟩ := List.mem_map.mp hx
    exact okS_app (okS_app (okS_app (okS_app (okS_of _) (NameOk_okS (h.nm k hk))) (okS_of _)) (okS_of _)) (stepsT_okS _)
  · obtain ⟨p, _, rfl⟩ := List.mem_map.mp hx
    exact okS_app (okS_app (okS_of _) (okS_of _)) (stepsT_okS _)
  · rw [List.mem_singleton.mp hx]
    exact okS_app (okS_of _) (stepsT_okS _)
theorem text_len {B : Book} (h : B.Ok) : B.text.length ≤ 200000 := by
  have g3 := h.g3
  have k4 := h.k4
  have jn := join_le (s := "\n") (l := B.kinds.map kindT ++ grpsT B ++ [("whole" : Str) ++ stepsT B.whole]) (B := 20000) fun x hx => by
    rw [List.mem_append, List.mem_append] at hx
    rcases hx with (hx | hx) | hx
    · obtain ⟨k, hk, rfl⟩ := List.mem_map.mp hx
      exact kindT_len k (h.nm k hk) (h.kr k hk) (by have := h.kg k hk; omega)
    · obtain ⟨p, hp, rfl⟩ := List.mem_map.mp hx
      have hp := List.of_mem_zip (show (p.1, p.2) ∈ (List.range B.groups.length).zip B.groups from hp)
      exact grpT_len p.1 p.2 (h.gr _ hp.2) (by have := List.mem_range.mp hp.1; omega)
    · have l2 := stepsT_len B.whole h.wr
      rw [List.mem_singleton.mp hx, str_len_app, len_l12]; omega
  have hl : (B.kinds.map kindT ++ grpsT B ++ [("whole" : Str) ++ stepsT B.whole]).length ≤ 8 := by simp [grpsT_len]; omega
  have : (B.kinds.map kindT ++ grpsT B ++ [("whole" : Str) ++ stepsT B.whole]).length * (20000 + 1) ≤ 8 * 20001 := Nat.mul_le_mul_right _ hl
  rw [len_l8] at jn
  show (Str.join "\n" (B.kinds.map kindT ++ grpsT B ++ [("whole" : Str) ++ stepsT B.whole])).length ≤ _
  omega
def headT (B : Book) : Str := ("Book of " : Str) ++ istr (B.kinds.length : Nat) ++ " kinds, " ++ istr (B.groups.length : Nat) ++ " groups"
theorem head_okS (B : Book) : okS (headT B) := okS_app (okS_app (okS_app (okS_app (okS_of _) (okS_of _)) (okS_of _)) (okS_of _)) (okS_of _)
theorem hl1 : ("Book of " : Str).length = 8 := by decide +kernel
theorem hl2 : (" kinds, " : Str).length = 8 := by decide +kernel
theorem hl3 : (" groups" : Str).length = 7 := by decide +kernel
section
variable [HasD G (σ 21) (d_Book_repr σ)] [HasF G "Book" "sorts"] [HasF G "Book" "heaps"]
theorem Book_repr_ok (B : Book) (h : B.Ok) (p : Nat) (m : Sto) (hp : m[p]? = some (bookOb B)) : callD G (n + 1) (σ 21) [.ref p] m = .ok (.str (headT B)) m := by
  refine po_eq ?_; refine po_callD rfl ?_; simp only [d_Book_repr, f_Book_repr]; simp only [List.map_cons, List.map_nil, List.length_cons, List.length_nil, List.cons_append, List.nil_append, List.replicate]
  have g3 := h.g3
  have k4 := h.k4
  have l1 := istr_le (i := (B.kinds.length : Nat)) (by omega) (by omega)
  have l2 := istr_le (i := (B.groups.length : Nat)) (by omega) (by omega)
  refine po_seq ?_
  simp [den, bSorts hp, bHeaps hp, fmtI (i := (B.kinds.length : Nat)) (by omega) (by omega), fmtI (i := (B.groups.length : Nat)) (by omega) (by omega), str_len_app, headT, hl1, hl2, hl3]
  try (unfold LIM; omega)
end
section
variable [HasD G (σ 20) (d_Book_str σ)] [HasF G "Book" "words"]
theorem Book_str_ok (B : Book) (p : Nat) (m : Sto) (hp : m[p]? = some (bookOb B)) : callD G (n + 1) (σ 20) [.ref p] m = .ok (.str B.text) m := by
  refine po_eq ?_; refine po_callD rfl ?_; simp only [d_Book_str, f_Book_str]; simp only [List.map_cons, List.map_nil, List.length_cons, List.length_nil, List.cons_append, List.nil_append, List.replicate]
  have e : callT false .str [.str B.text] m = .ok (.str B.text) m := rfl
  refine po_seq ?_
  simp [den, bWords hp, e]
end
theorem so_book [i : HasM G "Book" "__str__" k] {B : Book} {p : Nat} {m : Sto} (hp : m[p]? = some (bookOb B)) (hc : callD G n k [.ref p] m = .ok (.str B.text) m) : tSo (phi G n) [.ref p] m = .ok (.str B.text) m := by
  obtain ⟨c', h1, h2⟩ := i.h
  have h1 : (phi G n).cl "Book" = some c' := h1
  show opSo _ (.ref p) m = _
  unfold opSo
  simp only [hp, bookOb, h1, h2]
  show bnd (callD G n k [.ref p]) strB m = _
  unfold bnd
  rw [hc]
  rfl
theorem bo_book [i : HasF G "Book" "__bool__"] [j : HasF G "Book" "__len__"] {B : Book} {p : Nat} {m : Sto} (hp : m[p]? = some (bookOb B)) : tBo (phi G n) [.ref p] m = .ok (.bl true) m := by
  obtain ⟨c, h1, h2⟩ := i.h
  obtain ⟨c', h1', h2'⟩ := j.h
  rw [h1] at h1'
  cases h1'
  have h1 : (phi G n).cl "Book" = some c := h1
  show opBo _ (.ref p) m = _
  unfold opBo
  simp only [hp, bookOb, h1, h2, h2', Bool.and_self, if_true]
theorem repr_bk [i : HasM G "Book" "__repr__" k] {B : Book} {p : Nat} {m : Sto} {z : Str} (hp : m[p]? = some (bookOb B)) (hc : callD G n k [.ref p] m = .ok (.str z) m) : callB (phi G n) .repr [.ref p] m = .ok (.str z) m := by
  obtain ⟨c', h1, h2⟩ := i.h
  have h1 : (phi G n).cl "Book" = some c' := h1
  have e : (top m (.ref p)).py = none := by
    show (topR (.ref p) m[p]?).py = none
    rw [hp]
    rfl
  show bRepr _ (.ref p) m = _
  unfold bRepr
  rw [e]
  simp only [hp, bookOb, h1, h2]
  show bnd (callD G n k [.ref p]) _ m = _
  unfold bnd
  rw [hc]
def namesP (B : Book) : PyData := .tuple ((B.kinds.map (·.name)).map .str)
def shownD (B : Book) : D := .lst [.tup (B.kinds.map Knd.d), .tup (B.groups.map rowD), rowD B.whole, .tup ((B.kinds.map (·.name)).map .str), .str B.text, .str (headT B), .bl true]
def shownP (B : Book) : PyData := .list [.tuple (B.kinds.map kndP), .tuple (B.groups.map rowP), rowP B.whole, namesP B, .str B.text, .str (headT B), .bool true]
theorem shown_py (B : Book) (m : Sto) : (top m (shownD B)).py = some (shownP B) := by
  have e1 : D.py (.tup (B.kinds.map Knd.d)) = some (.tuple (B.kinds.map kndP)) := by simp [D.py, knds_pys]
  have e2 : D.py (.tup (B.groups.map rowD)) = some (.tuple (B.groups.map rowP)) := by simp [D.py, rows_pys]
  have e3 : D.py (.tup ((B.kinds.map (·.name)).map .str)) = some (namesP B) := by simp only [D.py, pys_strs]; rfl
  have : D.pys [.tup (B.kinds.map Knd.d), .tup (B.groups.map rowD), rowD B.whole, .tup ((B.kinds.map (·.name)).map .str), .str B.text, .str (headT B), .bl true] = some [.tuple (B.kinds.map kndP), .tuple (B.groups.map rowP), rowP B.whole, namesP B, .str B.text, .str (headT B), .bool true] :=
    pys_cons e1 (pys_cons e2 (pys_cons (row_py _) (pys_cons e3 (pys_cons rfl (pys_cons rfl (pys_cons rfl rfl))))))
  show D.py (shownD B) = _
  unfold shownD
  rw [D.py, this]
  rfl
theorem head_len {B : Book} (h : B.Ok) : (headT B).length ≤ 10000 := by
  have g3 := h.g3
  have k4 := h.k4
  have l1 := istr_le (i := (B.kinds.length : Nat)) (by omega) (by omega)
  have l2 := istr_le (i := (B.groups.length : Nat)) (by omega) (by omega)
  simp only [headT, str_len_app, hl1, hl2, hl3]
  omega
theorem name_fitP {B : Book} (h : B.Ok) : ∀ s ∈ B.kinds.map (·.name), Fit (.str s) 1000 1 := fun s hs => by
  obtain ⟨k, hk, rfl⟩ := List.mem_map.mp hs
  have nm := h.nm k hk
  have l8 := nm.le
  exact ⟨tel_ok (NameOk_okS nm), by simp only [wt]; omega, by simp [PyData.depth], by simp only [rs]; exact NameOk_okS nm⟩
theorem shown_fitP {B : Book} (h : B.Ok) : Fit (shownP B) 8000000 12 := by
  have a := fit_tup (f := kndP) (k := 4) (fun k hk => knd_fitP h hk) h.k4
  have b := fit_tup (f := rowP) (k := 3) (fun g hg => row_fitP (h.gr g hg)) h.g3
  have c := row_fitP h.wr
  have d := fit_tup (f := PyData.str) (k := 4) (name_fitP h) (by have := h.k4; simp; omega)
  have t1 : tel (.str B.text) = true := tel_ok (text_okS h)
  have t2 : tel (.str (headT B)) = true := tel_ok (head_okS B)
  have tl := text_len h
  have hl := head_len h
  have := a.w
  have := b.w
  have := c.w
  have := d.w
  have := a.d
  have := b.d
  have := c.d
  have := d.d
  have dt : tel (namesP B) = true := d.t
  have dr : rs (namesP B) = true := d.r
  have dw : wt (namesP B) ≤ 4 + 4 * (1000 + 2) := d.w
  have dd : (namesP B).depth ≤ 1 + 1 := d.d
  refine ⟨?_, ?_, ?_, ?_⟩
  · have e1 := a.t
    have e2 := b.t
    have e3 := c.t
    simp only [shownP, tel, tels, Bool.and_true, Bool.and_eq_true] at t1 t2 e1 e2 ⊢
    exact ⟨e1, e2, e3, dt, t1, t2⟩
  · simp only [shownP]; unfold wt; simp only [wts]
    have w1 : wt (.str B.text) ≤ 7000000 := by simp only [wt]; omega
    have w2 : wt (.str (headT B)) ≤ 200000 := by simp only [wt]; omega
    have w3 : wt (.bool true) ≤ 100 := by simp [wt]
    omega
  · simp only [shownP]; unfold PyData.depth; simp only [PyData.depthAll]
    have d1 : (PyData.str B.text).depth = 0 := by simp [PyData.depth]
    have d2 : (PyData.str (headT B)).depth = 0 := by simp [PyData.depth]
    have d3 : (PyData.bool true).depth = 0 := by simp [PyData.depth]
    omega
  · have e1 := a.r
    have e2 := b.r
    have e3 := c.r
    simp only [shownP, rs, rss, Bool.and_true, Bool.and_eq_true] at e1 e2 ⊢
    exact ⟨e1, e2, e3, dr, text_okS h, head_okS B⟩
section
variable [HasD G (σ 29) (d_L_shows σ)] [HasP G "Book" "kinds" (σ 15)] [HasP G "Book" "groups" (σ 16)] [HasP G "Book" "whole" (σ 17)] [HasP G "Book" "names" (σ 18)] [HasD G (σ 15) (d_Book_kinds σ)]
  [HasF G "Book" "sorts"] [HasD G (σ 16) (d_Book_groups σ)] [HasF G "Book" "heaps"] [HasD G (σ 17) (d_Book_whole σ)] [HasF G "Book" "last"] [HasD G (σ 18) (d_Book_names σ)]
  [HasD G (σ 20) (d_Book_str σ)] [HasF G "Book" "words"] [HasD G (σ 21) (d_Book_repr σ)] [HasD G (σ 313) (d_L_text σ)] [HasD G (σ 312) (d_L_tail σ)] [HasD G (σ 311) (d_L_step_text σ)]
  [HasM G "Book" "__repr__" (σ 21)] [HasM G "Book" "__str__" (σ 20)] [HasF G "Book" "__bool__"] [HasF G "Book" "__len__"]
include σ
theorem L_shows_ok (B : Book) (h : B.Ok) (q : Nat) (m : Sto) (hp : m[q]? = some (bookOb B)) : Po (callD G (n + 4) (σ 29) [.ref q, partsD B] m) fun v m' => v = .bl true ∧ Kept m m' := by
  refine po_callD rfl ?_; simp only [d_L_shows, f_L_shows]; simp only [List.map_cons, List.map_nil, List.length_cons, List.length_nil, List.cons_append, List.nil_append, List.replicate]
  have g3 := h.g3
  have k4 := h.k4
  have ka := (at_prop (G := G) (n := n + 3) (f := "kinds") hp).trans (Book_kinds_ok (G := G) (σ := σ) (n := n + 2) B q m hp)
  have ga := (at_prop (G := G) (n := n + 3) (f := "groups") hp).trans (Book_groups_ok (G := G) (σ := σ) (n := n + 2) B q m hp)
  have wa := (at_prop (G := G) (n := n + 3) (f := "whole") hp).trans (Book_whole_ok (G := G) (σ := σ) (n := n + 2) B q m hp)
  have na := at_names (G := G) (σ := σ) (n := n + 2) B q m hp (by omega)
  have so := so_book (G := G) (n := n + 3) hp (Book_str_ok (G := G) (σ := σ) (n := n + 2) B q m hp)
  have re := repr_bk (G := G) (n := n + 3) hp (Book_repr_ok (G := G) (σ := σ) (n := n + 2) B h q m hp)
  have bo := bo_book (G := G) (n := n + 3) hp
  have l1 := istr_le (i := (B.kinds.length : Nat)) (by omega) (by omega)
  have l2 := istr_le (i := (B.groups.length : Nat)) (by omega) (by omega)
  refine po_seq ?_
  simp [den, ka, ga, wa, na, so, re, bo]
  refine po_seq ?_
  simp [den, partsD, parts0]
  refine eq_po (lcL_of (e := Knd.d) (f := fun k => .str k.name) (fun k hk => po_eq (by simp [lcTurn, ifT, wipeE, Knd.d])) (by unfold LIM; omega)) ?_
  try simp
  refine po_seq ?_
  simp [den, parts0, parts1, strI (i := (B.kinds.length : Nat)) (by omega) (by omega), strI (i := (B.groups.length : Nat)) (by omega) (by omega)]
  iterate 4 (rw [addS (by simp only [str_len_app, hl1, hl2, hl3]; omega)]; simp)
  refine po_seq ?_
  have f := shown_fitP h
  have rp : ∀ (P : Phi) (m : Sto), callB P .repr [shownD B] m = .ok (.str (shownP B).shown) m := fun P m => repr_ok (shown_py B m) f.t (by have := f.d; omega) (by have := f.w; unfold LIM; omega)
  have oks := okS_shown (shownP B) f.r
  have rp1 := rp
  simp only [shownD, List.map_map] at rp1
  simp only [shownD, headT, List.map_map, Function.comp_def] at rp
  simp [den, rp1, parts0, parts1, parts2]
  refine (L_text_ok (G := G) (σ := σ) (n := n) B h m).mono ?_
  rintro _ m1 ⟨rfl, o, rfl⟩
  simp [rp, eqS oks oks]
  exact Kept.new
end
end Tx

/-! # SpL: texts cut and put together again -/
namespace Bk
open PySem LC
open PySem.StrLaws PySem.Builtin.Str
theorem split_ne (x y : Str) : Txt.split x y ≠ [] := by
  unfold Txt.split
  split
  · simp
  · split
    · simp
    · intro e
      have := length_partsBetween x (occurrences x y 0 x.length (x.length + 1)) y.length
      rw [e] at this
      simp at this
theorem map_cp_inj {l l' : List Str} (h : l.map cp = l'.map cp) : l = l' := by
  induction l generalizing l' with
  | nil => cases l' with
    | nil => rfl
    | cons y l' => simp at h
  | cons x l ih => cases l' with
    | nil => simp at h
    | cons y l' =>
      simp only [List.map_cons, List.cons.injEq] at h
      rw [cp_inj h.1, ih h.2]
theorem split_one {c : Nat} {l : List Str} (hl : l ≠ []) (h : ∀ x ∈ l, c ∉ cp x) : Txt.split (Str.join ⟨#[c]⟩ l) ⟨#[c]⟩ = l := by
  have e := join_split (Str.join ⟨#[c]⟩ l) ⟨#[c]⟩
  have f := split_free (Str.join ⟨#[c]⟩ l) c
  have ne := split_ne (Str.join ⟨#[c]⟩ l) ⟨#[c]⟩
  generalize Txt.split (Str.join ⟨#[c]⟩ l) ⟨#[c]⟩ = P at e f ne ⊢
  have e2 := congrArg cp e
  rw [cp_join, cp_join] at e2
  refine map_cp_inj (jn_inj (c := c) (sep := []) (by simpa using ne) (by simpa using hl) (fun x hx => ?_) (fun x hx => ?_) e2)
  · obtain ⟨y, hy, rfl⟩ := List.mem_map.mp hx
    exact f y hy
  · obtain ⟨y, hy, rfl⟩ := List.mem_map.mp hx
    exact h y hy
theorem cnt_jn {c : Nat} {sep : List Nat} : ∀ {l : List (List Nat)}, l.length ≤ (jn (c :: sep) l).count c + 1
  | [] => by simp
  | [x] => by simp
  | x :: y :: l => by
    have := cnt_jn (c := c) (sep := sep) (l := y :: l)
    simp only [jn, List.count_append, List.count_cons_self, List.length_cons] at this ⊢
    omega
theorem cnt_free {c : Nat} {l : List Nat} (h : c ∉ l) : l.count c = 0 := List.count_eq_zero.mpr h
section
variable {c d : Nat} {a b : Str}
def two (c d : Nat) : Str := ⟨#[c, d]⟩
theorem cp_two : cp (two c d) = [c, d] := rfl
theorem at_two : subAt (a ++ two c d ++ b) (two c d) a.length = true ∧ a.length + (two c d).length ≤ (a ++ two c d ++ b).length := by
  refine ⟨?_, by simp only [str_len_app]; omega⟩
  rw [subAt_eq]
  have e : (a ++ two c d ++ b).cps.toList = cp a ++ (cp (two c d) ++ cp b) := by
    show cp (a ++ two c d ++ b) = _
    rw [cp_app, cp_app, List.append_assoc]
  have l : a.length = (cp a).length := by
    show a.cps.size = _
    simp [cp]
  rw [e, l, List.drop_left]
  show (List.take 2 ([c, d] ++ cp b) == [c, d]) = true
  simp
theorem split_pair (hd : d ≠ c) (ha : c ∉ cp a) (hb : c ∉ cp b) : Txt.split (a ++ two c d ++ b) (two c d) = [a, b] := by
  have e := join_split (a ++ two c d ++ b) (two c d)
  have ex : cp (a ++ two c d ++ b) = cp a ++ c :: d :: cp b := by
    rw [cp_app, cp_app, cp_two]; simp
  have cx : (cp (a ++ two c d ++ b)).count c = 1 := by
    rw [ex, List.count_append, List.count_cons_self, List.count_cons_of_ne hd, cnt_free ha, cnt_free hb]
  obtain ⟨w1, w2⟩ := at_two (a := a) (b := b) (c := c) (d := d)
  -- at least two parts
  have l2 : 2 ≤ (Txt.split (a ++ two c d ++ b) (two c d)).length := by
    obtain ⟨f, G, hn⟩ := occ_tight (a ++ two c d ++ b) (two c d) (by show 1 ≤ 2; omega)
    unfold Txt.split
    have k1 : (decide ((a ++ two c d ++ b).length < (two c d).length) || decide (strKind (a ++ two c d ++ b) < strKind (two c d))) = false := by
      have := PySem.W.kind_le _ _ w1
      rw [decide_eq_false (by omega), decide_eq_false (by omega)]
      rfl
    rw [if_neg (by rw [k1]; simp)]
    cases eo : occurrences (a ++ two c d ++ b) (two c d) 0 (a ++ two c d ++ b).length ((a ++ two c d ++ b).length + 1) with
    | nil =>
      rw [eo] at G
      have : f = 0 := G
      exact absurd ⟨w2, w1⟩ (hn a.length (by omega))
    | cons i r =>
      rw [if_neg (by simp), length_partsBetween]
      simp
  generalize Txt.split (a ++ two c d ++ b) (two c d) = P at e l2 ⊢
  have e2 := congrArg cp e
  rw [cp_join, cp_two] at e2
  have lu := cnt_jn (c := c) (sep := [d]) (l := P.map cp)
  rw [e2, cx, List.length_map] at lu
  match P, l2, lu, e2 with
  | [u, v], _, _, e2 =>
    have e3 : cp u ++ [c, d] ++ cp v = cp (a ++ two c d ++ b) := e2
    have cn := congrArg (List.count c) e3
    rw [cx, List.count_append, List.count_append, List.count_cons_self, List.count_cons_of_ne hd] at cn
    simp only [List.count_nil] at cn
    have fu : c ∉ cp u := List.count_eq_zero.mp (by omega)
    have fv : c ∉ cp v := List.count_eq_zero.mp (by omega)
    rw [ex] at e3
    have e4 : cp u ++ c :: (d :: cp v) = cp a ++ c :: (d :: cp b) := by simpa using e3
    obtain ⟨q1, q2⟩ := cut_eq fu ha e4
    simp only [List.cons.injEq, true_and] at q2
    rw [cp_inj q1, cp_inj q2]
  | [], h, _, _ => simp at h
  | [_], h, _, _ => simp at h
  | _ :: _ :: _ :: _, _, h, _ => simp at h
theorem split_none (ha : c ∉ cp a) : Txt.split a (two c d) = [a] := by
  have e := join_split a (two c d)
  have ne := split_ne a (two c d)
  generalize Txt.split a (two c d) = P at e ne ⊢
  have e2 := congrArg cp e
  rw [cp_join, cp_two] at e2
  have lu := cnt_jn (c := c) (sep := [d]) (l := P.map cp)
  rw [e2, cnt_free ha, List.length_map] at lu
  match P, ne, lu, e with
  | [u], _, _, e => rw [show u = a from e]
  | [], h, _, _ => exact absurd rfl h
  | _ :: _ :: _, _, h, _ => simp at h
theorem part_pair (hd : d ≠ c) (ha : c ∉ cp a) (hb : c ∉ cp b) : Txt.partition (a ++ two c d ++ b) (two c d) = (a, two c d, b) := by
  have e := partition_sum (a ++ two c d ++ b) (two c d)
  have ex : cp (a ++ two c d ++ b) = cp a ++ c :: d :: cp b := by
    rw [cp_app, cp_app, cp_two]; simp
  have cx : (cp (a ++ two c d ++ b)).count c = 1 := by
    rw [ex, List.count_append, List.count_cons_self, List.count_cons_of_ne hd, cnt_free ha, cnt_free hb]
  obtain ⟨w1, w2⟩ := at_two (a := a) (b := b) (c := c) (d := d)
  have m : (Txt.partition (a ++ two c d ++ b) (two c d)).2.1 = two c d := by
    unfold Txt.partition
    cases eo : occurrences (a ++ two c d ++ b) (two c d) 0 (a ++ two c d ++ b).length 1 with
    | nil =>
      have := (found_iff (a ++ two c d ++ b) (two c d)).mpr ⟨_, w2, w1⟩
      rw [eo] at this
      simp at this
    | cons i r => rfl
  generalize Txt.partition (a ++ two c d ++ b) (two c d) = P at e m ⊢
  obtain ⟨u, s, v⟩ := P
  simp only at e m
  subst m
  have e2 := congrArg cp e
  rw [cp_app, cp_app, cp_two] at e2
  have cn := congrArg (List.count c) e2
  rw [cx, List.count_append, List.count_append, List.count_cons_self, List.count_cons_of_ne hd] at cn
  simp only [List.count_nil] at cn
  have fu : c ∉ cp u := List.count_eq_zero.mp (by omega)
  rw [ex] at e2
  have e4 : cp u ++ c :: (d :: cp v) = cp a ++ c :: (d :: cp b) := by simpa using e2
  obtain ⟨q1, q2⟩ := cut_eq fu ha e4
  simp only [List.cons.injEq, true_and] at q2
  rw [cp_inj q1, cp_inj q2]
theorem part_none (ha : c ∉ cp a) : Txt.partition a (two c d) = (a, Str.empty, Str.empty) := by
  have e := partition_sum a (two c d)
  unfold Txt.partition at e ⊢
  cases eo : occurrences a (two c d) 0 a.length 1 with
  | nil => rfl
  | cons i r =>
    rw [eo] at e
    have e2 := congrArg cp e
    simp only at e2
    rw [cp_app, cp_app, cp_two] at e2
    exact absurd (by rw [← e2]; simp) ha
end
/-! ### numbers read -/
open PySem.NumText in
theorem nat_cp (n : Nat) : cp (istr (n : Nat)) = (Nat.toDigits 10 n).map Char.toNat := PySem.W.KIN.signs_num n
open PySem.NumText in
theorem nat_dig (n : Nat) : ∀ c ∈ cp (istr (n : Nat)), 48 ≤ c ∧ c ≤ 57 := fun c hc => by
  rcases istr_cs (n : Nat) c hc with h | h
  · rw [nat_cp] at hc
    obtain ⟨ch, hm, e⟩ := List.mem_map.mp hc
    have d := Nat.isDigit_of_mem_toDigits (by omega) (by omega) hm
    simp only [Char.isDigit, Bool.and_eq_true, decide_eq_true_eq] at d
    rw [← e]
    exact ⟨d.1, d.2⟩
  · exact h
theorem nat_ne (n : Nat) : cp (istr (n : Nat)) ≠ [] := by
  rw [nat_cp]
  simp [Nat.toDigits_ne_nil]
theorem nat_len {n k : Nat} (hk : 0 < k) (h : n < 10 ^ k) : (cp (istr (n : Nat))).length ≤ k := by
  rw [nat_cp, List.length_map]
  exact (Nat.length_toDigits_le_iff (by omega) hk).mpr h
theorem neg_cp (n : Nat) : cp (istr (-((n + 1 : Nat) : Int))) = 45 :: cp (istr ((n + 1 : Nat) : Int)) := by
  show cp (Str.ofString (toString (Int.negSucc n))) = 45 :: cp (Str.ofString (toString ((n + 1 : Nat) : Int)))
  rw [cpS, cpS]
  show ("-" ++ Nat.repr (n + 1)).toList.map Char.toNat = _
  rw [String.toList_append]
  rfl
theorem read_nat {n : Nat} (h : n < 10 ^ 9) : PySem.intText? (istr (n : Nat)) = some (n : Int) := PySem.W.KIN.num_reads (by omega) (by omega)
open PySem.NumText in
theorem read_neg {n : Nat} (h : n + 1 < 10 ^ 9) : PySem.intText? (istr (-((n + 1 : Nat) : Int))) = some (-((n + 1 : Nat) : Int)) := by
  have l := nat_len (n := n + 1) (k := 9) (by omega) h
  have ln : (istr (-((n + 1 : Nat) : Int))).length ≤ 10 := by
    show (istr (-((n + 1 : Nat) : Int))).cps.size ≤ 10
    have := neg_cp n
    have e : (cp (istr (-((n + 1 : Nat) : Int)))).length = (istr (-((n + 1 : Nat) : Int))).cps.size := by simp [cp]
    rw [← e, this, List.length_cons]
    omega
  rw [intText_neg (neg_cp n) (nat_dig (n + 1)) (nat_ne (n + 1)) (by omega), nat_cp, PySem.W.KIN.val_back]
theorem sp1 : (" " : Str) = ⟨#[32]⟩ := by decide +kernel
theorem sp2 : ("\n" : Str) = ⟨#[10]⟩ := by decide +kernel
theorem sp3 : ("/" : Str) = ⟨#[47]⟩ := by decide +kernel
theorem sp4 : (", " : Str) = two 44 32 := by decide +kernel
theorem sp5 : (": " : Str) = two 58 32 := by decide +kernel
end Bk

/-! # K05L: a book is read from its text -/
namespace Tx
open PySem LC Bk
variable {G : Prog} {σ : Nat → Nat} {n : Nat}
theorem len_cp (s : Str) : s.length = (cp s).length := by show s.cps.size = _; simp [cp]
theorem tyInt {w : Str} {i : Int} {m : Sto} (rd : PySem.intText? w = some i) (wl : w.length ≤ 100) : callT false .int [.str w] m = .ok (.int i) m := by
  show (match PySem.intText? w with | some n => if decide (w.length ≤ 640) = true then Out.ok (D.int n) m else .bad | none => .bad) = _
  rw [rd]
  simp only [decide_eq_true (show w.length ≤ 640 by omega), if_true]
theorem slStr {s : Str} {lo hi : Option Int} {m : Sto} (h : s.length ≤ 1000) : opSl false (.str s) lo hi m = .ok (.str ⟨(cut s.cps.toList lo hi).toArray⟩) m := by
  show (if decide (s.length ≤ LIM) = true then _ else _) = _
  rw [decide_eq_true (by unfold LIM; omega)]
  rfl
theorem okS_dig {b : Str} (h : ∀ c ∈ cp b, 48 ≤ c ∧ c ≤ 57) : okS b := okS_iff.mpr fun c hc => by
  have := h c hc
  omega
theorem okI (i : Int) : okS (istr i) := okS_of _
section
variable [HasD G (σ 335) (d_number_of σ)] [HasG G "DIGITS" (.str "0123456789")]
theorem number_of_ok (i : Int) (h1 : -9999 ≤ i) (h2 : i ≤ 9999) (m : Sto) : callD G (n + 1) (σ 335) [.str (istr i)] m = .ok (.int i) m := by
  refine po_eq ?_; refine po_callD rfl ?_; simp only [d_number_of, f_number_of]; simp only [List.map_cons, List.map_nil, List.length_cons, List.length_nil, List.cons_append, List.nil_append, List.replicate]
  have rest : ∀ (b : Str) (F : D → Sto → Prop), (∀ c ∈ cp b, 48 ≤ c ∧ c ≤ 57) → cp b ≠ [] → (cp b).length ≤ 9 → PySem.intText? (istr i) = some i → (istr i).length ≤ 100 → F (.int i) m → Po ((den (phi G n) (f_number_of_2 σ)).s [some (.str (istr i)), some (.str b), none] m) (fin F) := fun b F hb hn hl rd wl hF => by
    have okb := okS_dig hb
    have nb : ¬ b = Str.ofString "" := fun e => hn (by rw [e]; rfl)
    have lb : b.length ≤ 9 := by rw [len_cp]; exact hl
    refine po_seq ?_
    simp [den, eqS okb (okS_of _), nb, v_lenStr (show b.length ≤ LIM by unfold LIM; omega), show ¬ (9 : Int) < (b.length : Int) by omega]
    refine eq_po (lcL_chars (f := fun c => .bl true) (fun c hc => po_eq ?_) (by have : b.cps.toList.length = b.length := by simp [Str.length]
                                                                                unfold LIM; omega)) ?_
    · have := hb c hc
      simp [lcTurn, ifT, wipeE, in_chr, digits_mem]
      unfold digit
      omega
    · have va := v_allF (P := phi G n) (m := m) (l := b.cps.toList) (f := fun _ => true)
      rw [va]
      simp
      refine po_seq ?_
      simp [den, tyInt rd wl, strI (i := i) (by omega) (by omega), eqS (okI i) (okI i)]
      exact hF
  obtain ⟨k, rfl | rfl⟩ : ∃ k : Nat, i = k ∨ i = -((k + 1 : Nat) : Int) := by
    rcases Int.le_total 0 i with h | h
    · exact ⟨i.toNat, .inl (by omega)⟩
    · by_cases z : i = 0
      · exact ⟨0, .inl (by omega)⟩
      · exact ⟨(-i - 1).toNat, .inr (by omega)⟩
  · have ne := nat_ne k
    have dg := nat_dig k
    have ln := nat_len (n := k) (k := 4) (by omega) (by omega)
    have wl : (istr (k : Nat)).length ≤ 4 := by rw [len_cp]; exact ln
    obtain ⟨d, ds, ed⟩ : ∃ d ds, cp (istr (k : Nat)) = d :: ds := by
      cases e : cp (istr (k : Nat)) with
      | nil => exact absurd e ne
      | cons d ds => exact ⟨d, ds, rfl⟩
    have d48 := dg d (by rw [ed]; simp)
    have c1 : cut (istr (k : Nat)).cps.toList none (some 1) = [d] := by
      rw [show (1 : Int) = ((1 : Nat) : Int) from rfl, cut_take]
      show (cp (istr (k : Nat))).take 1 = _
      rw [ed]; rfl
    have nm : ¬ ((⟨[d].toArray⟩ : Str) = Str.ofString "-") := fun e => by
      have := congrArg cp e
      have e2 : cp (Str.ofString "-") = [45] := by decide +kernel
      rw [e2] at this
      have : d = 45 := by simpa [cp] using this
      omega
    refine po_seq ?_
    simp [den, slStr (s := istr (k : Nat)) (by omega), c1]
    rw [eqS (okS_dig fun c hc => by
      have : c = d := by simpa [cp] using hc
      omega) (okS_of _)]
    simp [nm]
    exact rest _ _ dg ne (by omega) (read_nat (by omega)) (by omega) ⟨rfl, rfl⟩
  · have okw := okI (-((k + 1 : Nat) : Int))
    have okb := okI ((k + 1 : Nat) : Int)
    have ne := nat_ne (k + 1)
    have dg := nat_dig (k + 1)
    have ln := nat_len (n := k + 1) (k := 4) (by omega) (by omega)
    have nc := neg_cp k
    have wl : (istr (-((k + 1 : Nat) : Int))).length ≤ 5 := by rw [len_cp, nc, List.length_cons]; omega
    have c1 : (⟨(cut (istr (-((k + 1 : Nat) : Int))).cps.toList none (some 1)).toArray⟩ : Str) = Str.ofString "-" := by
      apply cp_inj
      have e2 : cp (Str.ofString "-") = [45] := by decide +kernel
      rw [e2, show (1 : Int) = ((1 : Nat) : Int) from rfl, cut_take]
      show ((cp (istr (-((k + 1 : Nat) : Int)))).take 1).toArray.toList = _
      rw [nc]; rfl
    have c2 : (⟨(cut (istr (-((k + 1 : Nat) : Int))).cps.toList (some 1) none).toArray⟩ : Str) = istr ((k + 1 : Nat) : Int) := by
      apply cp_inj
      rw [show (1 : Int) = ((1 : Nat) : Int) from rfl, cut_from]
      show ((cp (istr (-((k + 1 : Nat) : Int)))).drop 1).toArray.toList = _
      rw [nc]; rfl
    have rest2 := rest (istr ((k + 1 : Nat) : Int))
    generalize hw : istr (-((k + 1 : Nat) : Int)) = w at *
    refine po_seq ?_
    simp only [den]
    simp [slStr (s := w) (by omega), c1, c2, eqS (okS_of _) (okS_of _)]
    refine rest2 _ dg ne (by omega) ?_ (by omega) ⟨rfl, rfl⟩
    rw [← hw]; exact read_neg (by omega)
/-! ### steps -/
end
theorem str_assoc (a b c : Str) : (a ++ b) ++ c = a ++ (b ++ c) := by apply cp_inj; simp [cp_app]
theorem opSplit_eq {a b : Str} {m : Sto} (h1 : b.length ≠ 0) (h2 : a.length ≤ 1000000) : opSplit (.str a) (.str b) m = .ok (.lst ((Txt.split a b).map .str)) m := by
  show (if decide (b.length ≠ 0 ∧ a.length + 2 ≤ LIM) = true then _ else _) = _
  rw [decide_eq_true ⟨h1, by unfold LIM; omega⟩]
  rfl
theorem opPart_eq {a b : Str} {m : Sto} (h1 : b.length ≠ 0) (h2 : a.length ≤ 1000000) : opPart (.str a) (.str b) m = .ok (.tup [.str (Txt.partition a b).1, .str (Txt.partition a b).2.1, .str (Txt.partition a b).2.2]) m := by
  show (if decide (b.length ≠ 0 ∧ a.length ≤ LIM) = true then _ else _) = _
  rw [decide_eq_true ⟨h1, by unfold LIM; omega⟩]
  rfl
theorem len_sp : (" " : Str).length ≠ 0 := by decide +kernel
theorem len_nl : ("\n" : Str).length ≠ 0 := by decide +kernel
theorem len_sl : ("/" : Str).length ≠ 0 := by decide +kernel
theorem len_cm : (", " : Str).length ≠ 0 := by decide +kernel
theorem len_cl : (": " : Str).length ≠ 0 := by decide +kernel
theorem split_sp {l : List Str} (hl : l ≠ []) (h : ∀ x ∈ l, 32 ∉ cp x) : Txt.split (Str.join " " l) " " = l := by rw [sp1]; exact split_one hl h
theorem istr_sp (i : Int) : 32 ∉ cp (istr i) := istr_free (by omega) (by omega)
theorem istr_sl (i : Int) : 47 ∉ cp (istr i) := istr_free (by omega) (by omega)
def wayW : Way → List Str
  | .down => [Str.ofString "down"]
  | .up => [Str.ofString "up"]
  | .ndown => [Str.ofString "near", Str.ofString "down"]
  | .nup => [Str.ofString "near", Str.ofString "up"]
  | .neven => [Str.ofString "near", Str.ofString "even"]
def stepW : Bk.Step → List Str
  | .plus c => [Str.ofString "plus", istr c]
  | .times a b w u => Str.ofString "times" :: (istr a ++ Str.ofString "/" ++ istr b) :: (wayW w ++ [Str.ofString "to", istr u])
theorem j2 (s x y : Str) (l : List Str) : Str.join s (x :: y :: l) = x ++ s ++ Str.join s (y :: l) := rfl
theorem j1 (s x : Str) : Str.join s [x] = x := rfl
theorem step_join (s : Bk.Step) : s.t = Str.join " " (stepW s) := by
  have e0 : cp (Str.ofString "plus ") = cp (Str.ofString "plus") ++ cp (Str.ofString " ") := by decide +kernel
  have e1 : cp (Str.ofString "times ") = cp (Str.ofString "times") ++ cp (Str.ofString " ") := by decide +kernel
  have e2 : cp (Str.ofString " to ") = cp (Str.ofString " ") ++ (cp (Str.ofString "to") ++ cp (Str.ofString " ")) := by decide +kernel
  have e3 : cp (Str.ofString "near down") = cp (Str.ofString "near") ++ (cp (Str.ofString " ") ++ cp (Str.ofString "down")) := by decide +kernel
  have e4 : cp (Str.ofString "near up") = cp (Str.ofString "near") ++ (cp (Str.ofString " ") ++ cp (Str.ofString "up")) := by decide +kernel
  have e5 : cp (Str.ofString "near even") = cp (Str.ofString "near") ++ (cp (Str.ofString " ") ++ cp (Str.ofString "even")) := by decide +kernel
  apply cp_inj
  cases s with
  | plus c => simp only [Step.t, stepW, j2, j1, cp_app, e0, List.append_assoc]
  | times a b w u => cases w <;> simp only [Step.t, stepW, wayW, Way.s, List.cons_append, List.nil_append, j2, j1, cp_app, e1, e2, e3, e4, e5, List.append_assoc]
theorem word_sp : ∀ x ∈ ([Str.ofString "plus", Str.ofString "times", Str.ofString "down", Str.ofString "up", Str.ofString "near", Str.ofString "even", Str.ofString "to", Str.ofString "kind", Str.ofString "group", Str.ofString "whole", Str.ofString "/"] : List Str), 32 ∉ cp x := by decide +kernel
theorem stepW_sp (s : Bk.Step) : ∀ x ∈ stepW s, 32 ∉ cp x := by
  intro x hx
  cases s with
  | plus c =>
    simp only [stepW, List.mem_cons, List.not_mem_nil, or_false] at hx
    rcases hx with rfl | rfl
    · exact word_sp _ (by simp)
    · exact istr_sp c
  | times a b w u =>
    have hm : 32 ∉ cp (istr a ++ Str.ofString "/" ++ istr b) := by
      rw [cp_app, cp_app]
      simp only [List.mem_append, not_or]
      exact ⟨⟨istr_sp a, word_sp _ (by simp)⟩, istr_sp b⟩
    simp only [stepW, List.mem_cons, List.mem_append, List.not_mem_nil, or_false] at hx
    rcases hx with rfl | rfl | hx | rfl | rfl
    · exact word_sp _ (by simp)
    · exact hm
    · cases w <;> simp only [wayW, List.mem_cons, List.not_mem_nil, or_false] at hx
      · subst hx; exact word_sp _ (by simp)
      · subst hx; exact word_sp _ (by simp)
      · rcases hx with rfl | rfl <;> exact word_sp _ (by simp)
      · rcases hx with rfl | rfl <;> exact word_sp _ (by simp)
      · rcases hx with rfl | rfl <;> exact word_sp _ (by simp)
    · exact word_sp _ (by simp)
    · exact istr_sp u
theorem step_split (s : Bk.Step) : Txt.split s.t (Str.ofString " ") = stepW s := by
  rw [step_join]
  exact split_sp (by cases s <;> simp [stepW]) (stepW_sp s)
theorem fac_split (a b : Int) : Txt.split (istr a ++ Str.ofString "/" ++ istr b) (Str.ofString "/") = [istr a, istr b] := by
  have : istr a ++ Str.ofString "/" ++ istr b = Str.join (Str.ofString "/") [istr a, istr b] := rfl
  rw [this, sp3]
  exact split_one (by simp) fun x hx => by
    simp only [List.mem_cons, List.not_mem_nil, or_false] at hx
    rcases hx with rfl | rfl
    · exact istr_sl a
    · exact istr_sl b
section
variable [HasD G (σ 336) (d_step_of_text σ)] [HasG G "TIMES_SIZE" (.int 5)] [HasG G "PLUS_SIZE" (.int 2)] [HasD G (σ 335) (d_number_of σ)] [HasG G "DIGITS" (.str "0123456789")]
theorem step_of_text_ok (s : Bk.Step) (hs : s.ok) (m : Sto) : callD G (n + 2) (σ 336) [.str s.t] m = .ok s.d m := by
  refine po_eq ?_; refine po_callD rfl ?_; simp only [d_step_of_text, f_step_of_text]; simp only [List.map_cons, List.map_nil, List.length_cons, List.length_nil, List.cons_append, List.nil_append, List.replicate]
  have sl := step_len s hs
  have sp := opSplit_eq (m := m) len_sp (show s.t.length ≤ 1000000 by omega)
  rw [step_split] at sp
  refine po_seq ?_
  simp [den, sp]
  cases s with
  | plus c =>
    obtain ⟨h1, h2⟩ := hs
    simp [stepW]
    refine po_seq ?_
    simp [den, atI, ixN, eqS (okS_of _) (okS_of _)]
    refine po_seq ?_
    simp [den, atI, ixN, number_of_ok c h1 h2, Step.d]
  | times a b w u =>
    obtain ⟨h1, h2, h3, h4, h5, h6⟩ := hs
    have fl : (istr a ++ Str.ofString "/" ++ istr b).length ≤ 100000 := by
      have l1 := istr_le (i := a) (by omega) (by omega)
      have l2 := istr_le (i := b) (by omega) (by omega)
      simp only [str_len_app]
      have : (Str.ofString "/").length = 1 := by decide +kernel
      omega
    have sf := opSplit_eq (m := m) len_sl (show (istr a ++ Str.ofString "/" ++ istr b).length ≤ 1000000 by omega)
    rw [fac_split] at sf
    have na := number_of_ok (G := G) (σ := σ) (n := n) a (by omega) (by omega) m
    have nb := number_of_ok (G := G) (σ := σ) (n := n) b (by omega) (by omega) m
    have nu := number_of_ok (G := G) (σ := σ) (n := n) u (by omega) (by omega) m
    have cw : cut ((stepW (.times a b w u)).map D.str) (some 2) (some (-2)) = (wayW w).map D.str := by cases w <;> rfl
    have jw : opJoin (.str (Str.ofString " ")) (.lst ((wayW w).map D.str)) m = .ok (.str w.s) m := by
      have : w.s = Str.join (Str.ofString " ") (wayW w) := by cases w <;> decide +kernel
      rw [v_join rfl (by cases w <;> decide +kernel), this]
    have i0 : atI ((stepW (.times a b w u)).map D.str) 0 = some (.str (Str.ofString "times")) := by cases w <;> rfl
    have i1 : atI ((stepW (.times a b w u)).map D.str) 1 = some (.str (istr a ++ Str.ofString "/" ++ istr b)) := by cases w <;> rfl
    have i2 : atI ((stepW (.times a b w u)).map D.str) (-2) = some (.str (Str.ofString "to")) := by cases w <;> rfl
    have i3 : atI ((stepW (.times a b w u)).map D.str) (-1) = some (.str (istr u)) := by cases w <;> rfl
    have ln : 5 ≤ (stepW (.times a b w u)).length := by cases w <;> simp [stepW, wayW]
    generalize stepW (.times a b w u) = W at *
    have ln' : ¬ ((W.length : Int) < 5) := by omega
    refine po_seq ?_
    simp [den, i0, eqS (okS_of _) (okS_of _), ofS_inj]
    refine po_seq ?_
    simp [den, i0, i2, neS (okS_of _) (okS_of _), ofS_inj, ln']
    refine po_seq ?_
    simp [den, i1, sf]
    refine po_seq ?_
    simp [den]
    refine po_seq ?_
    simp [den, na, nb, i3, nu, cw, jw, Step.d]
/-! ### rows -/
end
section
variable [HasD G (σ 337) (d_steps_of_text σ)] [HasD G (σ 336) (d_step_of_text σ)] [HasG G "TIMES_SIZE" (.int 5)] [HasG G "PLUS_SIZE" (.int 2)] [HasD G (σ 335) (d_number_of σ)] [HasG G "DIGITS" (.str "0123456789")]
theorem steps_of_text_ok (l : List Bk.Step) (hl : rowOk l) (h0 : l ≠ []) (m : Sto) : callD G (n + 3) (σ 337) [.str (Str.join (Str.ofString ", ") (l.map Step.t))] m = .ok (rowD l) m := by
  refine po_eq ?_; refine po_callD rfl ?_; simp only [d_steps_of_text, f_steps_of_text]; simp only [List.map_cons, List.map_nil, List.length_cons, List.length_nil, List.cons_append, List.nil_append, List.replicate]
  have h2 := hl.1
  have sp : Txt.split (Str.join (Str.ofString ", ") (l.map Step.t)) (Str.ofString ", ") = l.map Step.t := by
    match l, h0, h2 with
    | [s], _, _ =>
      show Txt.split s.t _ = _
      rw [sp4]
      exact split_none (stepT_free (.inl rfl) s)
    | [s, t], _, _ =>
      show Txt.split (s.t ++ Str.ofString ", " ++ t.t) _ = _
      rw [sp4]
      exact split_pair (by omega) (stepT_free (.inl rfl) s) (stepT_free (.inl rfl) t)
    | [], h, _ => exact absurd rfl h
    | _ :: _ :: _ :: _, _, h => simp at h
  have jn := join_le (s := ", ") (l := l.map Step.t) (B := 8000) fun x hx => by
    obtain ⟨s, hs, rfl⟩ := List.mem_map.mp hx
    exact step_len s (hl.2 s hs)
  rw [List.length_map, len_l6] at jn
  have h4 : l.length * (8000 + 2) ≤ 2 * 8002 := Nat.mul_le_mul_right _ h2
  have so := opSplit_eq (m := m) len_cm (show (Str.join (Str.ofString ", ") (l.map Step.t)).length ≤ 1000000 by omega)
  rw [sp] at so
  refine po_seq ?_
  simp [den, so]
  have ej : (l.map fun s => D.str s.t) = (l.map Step.t).map D.str := by simp
  have e2 : List.map (D.str ∘ Step.t) l = l.map fun s => D.str s.t := rfl
  rw [e2]
  refine eq_po (lcL_of (e := fun s : Bk.Step => D.str s.t) (f := Step.d) (fun s hs => po_eq (by simp [lcTurn, ifT, wipeE, step_of_text_ok s (hl.2 s hs)])) (by unfold LIM; omega)) ?_
  simp [dsteps]
end
section
variable [HasD G (σ 338) (d_parts_of_row σ)] [HasD G (σ 337) (d_steps_of_text σ)] [HasD G (σ 336) (d_step_of_text σ)] [HasG G "TIMES_SIZE" (.int 5)] [HasG G "PLUS_SIZE" (.int 2)] [HasD G (σ 335) (d_number_of σ)]
  [HasG G "DIGITS" (.str "0123456789")]
theorem parts_of_row_ok (ws : List Str) (h0 : ws ≠ []) (h1 : ∀ x ∈ ws, 32 ∉ cp x) (h2 : 58 ∉ cp (Str.join (Str.ofString " ") ws)) (h3 : (Str.join (Str.ofString " ") ws).length ≤ 100000) (l : List Bk.Step) (hl : rowOk l) (m : Sto) :
    callD G (n + 4) (σ 338) [.str (Str.join (Str.ofString " ") ws ++ stepsT l)] m = .ok (.tup [.lst (ws.map .str), rowD l]) m := by
  refine po_eq ?_; refine po_callD rfl ?_; simp only [d_parts_of_row, f_parts_of_row]; simp only [List.map_cons, List.map_nil, List.length_cons, List.length_nil, List.cons_append, List.nil_append, List.replicate]
  have s2 := stepsT_len l hl
  have pl : (Str.join (Str.ofString " ") ws ++ stepsT l).length ≤ 1000000 := by rw [str_len_app]; omega
  have op := opPart_eq (m := m) len_cl pl
  have sp := opSplit_eq (m := m) len_sp (show (Str.join (Str.ofString " ") ws).length ≤ 1000000 by omega)
  rw [split_sp h0 h1] at sp
  by_cases e : l = []
  · subst e
    have e1 : Str.join (Str.ofString " ") ws ++ stepsT [] = Str.join (Str.ofString " ") ws := by
      apply cp_inj
      rw [cp_app]
      show _ ++ [] = _
      simp
    rw [e1, sp5, part_none h2] at op
    rw [e1]
    refine po_seq ?_
    rw [← sp5] at op
    simp [den, op]
    refine po_seq ?_
    have emp : Str.empty = Str.ofString "" := by decide +kernel
    simp [den, sp, emp, neS (okS_of _) (okS_of _)]
    rfl
  · have e1 : stepsT l = Str.ofString ": " ++ Str.join (Str.ofString ", ") (l.map Step.t) := by
      unfold stepsT; rw [if_neg e]
    have ft : 58 ∉ cp (Str.join (Str.ofString ", ") (l.map Step.t)) := by
      rw [cp_join, cp_comma]
      refine jn_free (by decide) fun x hx => ?_
      obtain ⟨y, hy, rfl⟩ := List.mem_map.mp hx
      obtain ⟨s, hs, rfl⟩ := List.mem_map.mp hy
      exact stepT_free (.inr (.inr rfl)) s
    rw [e1, ← str_assoc, sp5, part_pair (by omega) h2 ft] at op
    rw [e1, ← str_assoc]
    rw [← sp5] at op
    refine po_seq ?_
    simp [den, op]
    refine po_seq ?_
    simp [den, sp, neS (okS_of _) (okS_of _), ofS_inj, steps_of_text_ok l hl e]
end
inductive Row where
  | knd (k : Knd) | grp (i : Nat) (l : List Bk.Step) | whl (l : List Bk.Step)
def Row.ws : Row → List Str
  | .knd k => [Str.ofString "kind", k.name, Str.ofString "group", istr (k.grp : Nat)]
  | .grp i _ => [Str.ofString "group", istr (i : Nat)]
  | .whl _ => [Str.ofString "whole"]
def Row.steps : Row → List Bk.Step
  | .knd k => k.steps
  | .grp _ l => l
  | .whl l => l
def Row.t (r : Row) : Str := Str.join (Str.ofString " ") r.ws ++ stepsT r.steps
def Row.d (r : Row) : D := .tup [.lst (r.ws.map .str), rowD r.steps]
def rowsB (B : Book) : List Row := B.kinds.map .knd ++ ((List.range B.groups.length).zip B.groups).map (fun p => .grp p.1 p.2) ++ [.whl B.whole]
structure Row.Ok (r : Row) : Prop where
  st : rowOk r.steps
  nm : ∀ k, r = .knd k → NameOk k.name ∧ k.grp < 3
  ng : ∀ i l, r = .grp i l → i < 3
theorem rowsB_ok {B : Book} (h : B.Ok) : ∀ r ∈ rowsB B, r.Ok := by
  intro r hr
  have g3 := h.g3
  simp only [rowsB, List.mem_append, List.mem_map, List.mem_singleton] at hr
  rcases hr with (⟨k, hk, rfl⟩ | ⟨p, hp, rfl⟩) | rfl
  · exact ⟨h.kr k hk, fun q e => (by cases e; exact ⟨h.nm k hk, by have := h.kg k hk; omega⟩), fun i l e => (by cases e)⟩
  · have hp := List.of_mem_zip (show (p.1, p.2) ∈ (List.range B.groups.length).zip B.groups from hp)
    exact ⟨h.gr _ hp.2, fun q e => (by cases e), fun i l e => (by cases e; have := List.mem_range.mp hp.1; omega)⟩
  · exact ⟨h.wr, fun q e => (by cases e), fun i l e => (by cases e)⟩
theorem rows_text (B : Book) : B.text = Str.join (Str.ofString "\n") ((rowsB B).map Row.t) := by
  have e1 : ∀ k : Knd, kindT k = Row.t (.knd k) := fun k => by
    have q1 : cp (Str.ofString "kind ") = cp (Str.ofString "kind") ++ cp (Str.ofString " ") := by decide +kernel
    have q2 : cp (Str.ofString " group ") = cp (Str.ofString " ") ++ (cp (Str.ofString "group") ++ cp (Str.ofString " ")) := by decide +kernel
    apply cp_inj
    simp only [kindT, Row.t, Row.ws, Row.steps, j2, j1, cp_app, q1, q2, List.append_assoc]
  have e2 : ∀ i l, grpT i l = Row.t (.grp i l) := fun i l => by
    have q1 : cp (Str.ofString "group ") = cp (Str.ofString "group") ++ cp (Str.ofString " ") := by decide +kernel
    apply cp_inj
    simp only [grpT, Row.t, Row.ws, Row.steps, j2, j1, cp_app, q1, List.append_assoc]
  have e3 : ∀ l, (Str.ofString "whole" ++ stepsT l) = Row.t (.whl l) := fun l => rfl
  unfold Book.text
  congr 1
  simp only [rowsB, List.map_append, List.map_map, List.map_cons, List.map_nil, e3]
  congr 2
  all_goals first | exact List.map_congr_left fun k _ => e1 k | exact List.map_congr_left fun p _ => e2 p.1 p.2
theorem Row.sp {r : Row} (h : r.Ok) : ∀ x ∈ r.ws, 32 ∉ cp x := by
  intro x hx
  cases r with
  | knd k =>
    obtain ⟨hn, _⟩ := h.nm k rfl
    simp only [Row.ws, List.mem_cons, List.not_mem_nil, or_false] at hx
    rcases hx with rfl | rfl | rfl | rfl
    · exact word_sp _ (by simp)
    · exact name_free hn (.inl rfl)
    · exact word_sp _ (by simp)
    · exact istr_sp _
  | grp i l =>
    simp only [Row.ws, List.mem_cons, List.not_mem_nil, or_false] at hx
    rcases hx with rfl | rfl
    · exact word_sp _ (by simp)
    · exact istr_sp _
  | whl l =>
    simp only [Row.ws, List.mem_cons, List.not_mem_nil, or_false] at hx
    subst hx
    exact word_sp _ (by simp)
theorem word_fr : ∀ x ∈ ([Str.ofString "kind", Str.ofString "group", Str.ofString "whole"] : List Str), 58 ∉ cp x ∧ 10 ∉ cp x := by decide +kernel
theorem Row.fr {r : Row} (h : r.Ok) {c : Nat} (hc : c = 10 ∨ c = 58) : c ∉ cp (Str.join (Str.ofString " ") r.ws) := by
  rw [cp_join]
  have s1 : c ∉ cp (Str.ofString " ") := by
    have : cp (Str.ofString " ") = [32] := by decide +kernel
    rw [this]
    rcases hc with rfl | rfl <;> decide
  have wf : ∀ x ∈ ([Str.ofString "kind", Str.ofString "group", Str.ofString "whole"] : List Str), c ∉ cp x := fun x hx => by
    have := word_fr x hx
    rcases hc with rfl | rfl
    · exact this.2
    · exact this.1
  have nf : ∀ i : Int, c ∉ cp (istr i) := fun i => by rcases hc with rfl | rfl <;> exact istr_free (by omega) (by omega)
  refine jn_free s1 fun x hx => ?_
  obtain ⟨y, hy, rfl⟩ := List.mem_map.mp hx
  cases r with
  | knd k =>
    obtain ⟨hn, _⟩ := h.nm k rfl
    simp only [Row.ws, List.mem_cons, List.not_mem_nil, or_false] at hy
    rcases hy with rfl | rfl | rfl | rfl
    · exact wf _ (by simp)
    · exact name_free hn (by rcases hc with rfl | rfl; exact .inr (.inl rfl); exact .inr (.inr rfl))
    · exact wf _ (by simp)
    · exact nf _
  | grp i l =>
    simp only [Row.ws, List.mem_cons, List.not_mem_nil, or_false] at hy
    rcases hy with rfl | rfl
    · exact wf _ (by simp)
    · exact nf _
  | whl l =>
    simp only [Row.ws, List.mem_cons, List.not_mem_nil, or_false] at hy
    subst hy
    exact wf _ (by simp)
theorem len_kind : (Str.ofString "kind").length = 4 := by decide +kernel
theorem len_group : (Str.ofString "group").length = 5 := by decide +kernel
theorem len_whole : (Str.ofString "whole").length = 5 := by decide +kernel
theorem len_space : (Str.ofString " ").length = 1 := by decide +kernel
theorem Row.len {r : Row} (h : r.Ok) : (Str.join (Str.ofString " ") r.ws).length ≤ 100000 := by
  cases r with
  | knd k =>
    obtain ⟨hn, hg⟩ := h.nm k rfl
    have l1 := istr_le (i := (k.grp : Nat)) (by omega) (by omega)
    have := hn.le
    simp only [Row.ws, j2, j1, str_len_app, len_kind, len_group, len_space]
    omega
  | grp i l =>
    have hg := h.ng i l rfl
    have l1 := istr_le (i := (i : Nat)) (by omega) (by omega)
    simp only [Row.ws, j2, j1, str_len_app, len_group, len_space]
    omega
  | whl l =>
    simp only [Row.ws, j1, len_whole]
    omega
section
variable [HasD G (σ 338) (d_parts_of_row σ)] [HasD G (σ 337) (d_steps_of_text σ)] [HasD G (σ 336) (d_step_of_text σ)] [HasG G "TIMES_SIZE" (.int 5)] [HasG G "PLUS_SIZE" (.int 2)] [HasD G (σ 335) (d_number_of σ)]
  [HasG G "DIGITS" (.str "0123456789")]
include σ
theorem Row.parts_ok (r : Row) (h : r.Ok) (m : Sto) : callD G (n + 4) (σ 338) [.str r.t] m = .ok r.d m := by
  exact parts_of_row_ok (G := G) (σ := σ) (n := n) r.ws (by cases r <;> simp [Row.ws]) (Row.sp h) (Row.fr h (.inr rfl)) (Row.len h) r.steps h.st m
end
theorem Row.nl {r : Row} (h : r.Ok) : 10 ∉ cp r.t := by
  unfold Row.t
  rw [cp_app, List.mem_append, not_or]
  exact ⟨Row.fr h (.inl rfl), stepsT_nl _⟩
theorem text_split {B : Book} (h : B.Ok) : Txt.split B.text (Str.ofString "\n") = (rowsB B).map Row.t := by
  rw [rows_text, sp2]
  refine split_one (by simp [rowsB]) fun x hx => ?_
  obtain ⟨r, hr, rfl⟩ := List.mem_map.mp hx
  exact Row.nl (rowsB_ok h r hr)
theorem lcL_opt {turn : D → M (Option D)} {α : Type} {e : α → D} {f : α → Option D} {m : Sto} {l : List α} (h : ∀ x ∈ l, turn (e x) m = .ok (f x) m) (hz : l.length ≤ LIM) : lcL turn (l.map e) [] m = .ok (l.filterMap f) m := by
  have go : ∀ (l : List α) (acc : List D), (∀ x ∈ l, turn (e x) m = .ok (f x) m) → acc.length + l.length ≤ LIM → lcL turn (l.map e) acc m = .ok (acc ++ l.filterMap f) m := by
    intro l
    induction l with
    | nil => intro acc _ _; simp [lcL, LC.ret]
    | cons x l ih =>
      intro acc h hz
      rw [List.length_cons] at hz
      rw [List.map_cons]
      unfold lcL
      rw [h x (by simp)]
      cases ef : f x with
      | none =>
        simp only
        rw [ih _ (fun y hy => h y (by simp [hy])) (by omega), List.filterMap_cons, ef]
      | some d =>
        simp only
        rw [if_pos (by simp; omega), ih _ (fun y hy => h y (by simp [hy])) (by simp; omega), List.filterMap_cons, ef]
        simp
  have := go l [] h (by simpa using hz)
  simpa using this
section
variable [HasD G (σ 339) (d_kind_of_parts σ)] [HasG G "KIND_WORDS" (.int 4)] [HasD G (σ 335) (d_number_of σ)] [HasG G "DIGITS" (.str "0123456789")]
theorem kind_of_parts_ok (k : Knd) (hg : k.grp < 3) (m : Sto) : callD G (n + 2) (σ 339) [.lst ((Row.knd k).ws.map .str), rowD k.steps] m = .ok k.d m := by
  refine po_eq ?_; refine po_callD rfl ?_; simp only [d_kind_of_parts, f_kind_of_parts]; simp only [List.map_cons, List.map_nil, List.length_cons, List.length_nil, List.cons_append, List.nil_append, List.replicate]
  have na := number_of_ok (G := G) (σ := σ) (n := n) (k.grp : Nat) (by omega) (by omega) m
  refine po_seq ?_
  simp [den, Row.ws, atI, ixN, na, Knd.d]
end
def rowD2 (r : Row) : D := r.d
theorem filt_k (B : Book) : (rowsB B).filterMap (fun r => match r with | .knd k => some k.d | _ => none) = B.kinds.map Knd.d := by
  simp only [rowsB, List.filterMap_append, List.filterMap_map]
  have e1 : ((fun r => match r with | Row.knd k => some k.d | _ => none) ∘ Row.knd) = fun k : Knd => some k.d := rfl
  have e2 : ((fun r => match r with | Row.knd k => some k.d | _ => none) ∘ fun p : Nat × List Bk.Step => Row.grp p.1 p.2) = fun _ => none := rfl
  rw [e1, e2]
  simp [List.filterMap_cons]
theorem filt_g (B : Book) : (rowsB B).filterMap (fun r => match r with | .grp _ l => some (rowD l) | _ => none) = B.groups.map rowD := by
  simp only [rowsB, List.filterMap_append, List.filterMap_map]
  have e1 : ((fun r => match r with | Row.grp _ l => some (rowD l) | _ => none) ∘ Row.knd) = fun _ => none := rfl
  have e2 : ((fun r => match r with | Row.grp _ l => some (rowD l) | _ => none) ∘ fun p : Nat × List Bk.Step => Row.grp p.1 p.2) = fun p => some (rowD p.2) := rfl
  rw [e1, e2]
  have e3 : ∀ (l : List (List Bk.Step)) (k : Nat), (((List.range' k l.length).zip l).filterMap fun p => some (rowD p.2)) = l.map rowD := by
    intro l
    induction l with
    | nil => intro k; simp
    | cons x l ih =>
      intro k
      rw [List.length_cons, List.range'_succ, List.zip_cons_cons, List.filterMap_cons]
      simp [ih]
  have := e3 B.groups 0
  rw [← List.range_eq_range'] at this
  rw [this]
  simp [List.filterMap_cons]
theorem po_try1 {P : Phi} {x : T} {r : LC.Env} {m : Sto} {F : LC.Flow → Sto → Prop} (h : Po ((den P x).s r m) F) : Po ((den P (.try1 x)).s r m) F := by
  show Po (match (den P x).s r m with | .exc _ _ _ => .bad | o => o) F
  cases e : (den P x).s r m with
  | ok a m' => rw [e] at h; exact h
  | exc C fs m' => rw [e] at h; exact (show False from h.h).elim
  | bad => rw [e] at h; exact (show False from h.h).elim
theorem mv_eq {P : Phi} {C : Str} {as : List D} {m : Sto} : opMv P (.glb C) as m = opMk P C as m := rfl
theorem last_row (B : Book) : atI ((rowsB B).map Row.d) (-1) = some (Row.whl B.whole).d := by
  have : (rowsB B).map Row.d = ((B.kinds.map Row.knd ++ ((List.range B.groups.length).zip B.groups).map (fun p => Row.grp p.1 p.2)).map Row.d) ++ [(Row.whl B.whole).d] := by simp [rowsB]
  rw [this]
  generalize (B.kinds.map Row.knd ++ ((List.range B.groups.length).zip B.groups).map (fun p => Row.grp p.1 p.2)).map Row.d = l
  unfold atI ixN
  rw [if_neg (by omega), if_pos (by simp; omega)]
  have : (-1 + ((l ++ [(Row.whl B.whole).d]).length : Int)).toNat = l.length := by simp; omega
  rw [this]
  simp
section
variable [HasD G (σ 340) (d_Book_read σ)] [HasI G "Book" (σ 14)] [HasF G "Book" "words"] [HasD G (σ 339) (d_kind_of_parts σ)] [HasG G "KIND_WORDS" (.int 4)] [HasD G (σ 338) (d_parts_of_row σ)]
  [HasD G (σ 14) (d_Book_init σ)] [HasF G "Book" "sorts"] [HasF G "Book" "heaps"] [HasF G "Book" "last"] [HasD G (σ 335) (d_number_of σ)] [HasG G "DIGITS" (.str "0123456789")]
  [HasD G (σ 337) (d_steps_of_text σ)] [HasD G (σ 11) (d_check_groups σ)] [HasG G "MOST_GROUPS" (.int 3)] [HasD G (σ 10) (d_check_kinds σ)] [HasG G "MOST_KINDS" (.int 4)] [HasD G (σ 12) (d_check_places σ)]
  [HasD G (σ 13) (d_check_whole σ)] [HasD G (σ 310) (d_text_of σ)] [HasD G (σ 336) (d_step_of_text σ)] [HasG G "TIMES_SIZE" (.int 5)] [HasG G "PLUS_SIZE" (.int 2)] [HasD G (σ 8) (d_is_row_of_steps σ)]
  [HasD G (σ 9) (d_is_kind σ)] [HasG G "KIND_SIZE" (.int 3)] [HasD G (σ 7) (d_wrong_step σ)] [HasG G "MOST_STEPS" (.int 2)] [HasD G (σ 309) (d_text_of_steps σ)] [HasD G (σ 4) (d_is_between σ)]
  [HasD G (σ 5) (d_is_name σ)] [HasG G "LETTERS" (.str "abcdefghijklmnopqrstuvwxyz")] [HasG G "LONGEST_NAME" (.int 8)] [HasD G (σ 6) (d_is_step σ)] [HasG G "MOST_PLUS" (.int 9999)] [HasG G "MOST_UNIT" (.int 60)]
  [HasG G "MOST_FACTOR" (.int 200)] [HasG G "WAYS" (.tup [.str "down", .str "up", .str "near down", .str "near up", .str "near even"])] [HasD G (σ 308) (d_text_of_step σ)] [HasD G (σ 3) (d_is_integer σ)]
theorem Book_read_ok (B : Book) (h : B.Ok) (m : Sto) : Po (callD G (n + 9) (σ 340) [.glb "Book", .str B.text] m) fun v m' => v = .ref m.length ∧ m'[m.length]? = some (bookOb B) ∧ Kept m m' := by
  refine po_callD rfl ?_; simp only [d_Book_read, f_Book_read]; simp only [List.map_cons, List.map_nil, List.length_cons, List.length_nil, List.cons_append, List.nil_append, List.replicate]
  have tl := text_len h
  have k4 := h.k4
  have g3 := h.g3
  have ro := rowsB_ok h
  have so := opSplit_eq (m := m) len_nl (show B.text.length ≤ 1000000 by omega)
  rw [text_split h] at so
  have rl : (rowsB B).length ≤ 8 := by simp [rowsB]; omega
  have e2 : List.map (D.str ∘ Row.t) (rowsB B) = (rowsB B).map fun r => D.str r.t := rfl
  refine po_seq ?_
  simp [den, so]
  rw [e2]
  refine eq_po (lcL_of (e := fun r : Row => D.str r.t) (f := Row.d) (fun r hr => po_eq (by simp [lcTurn, ifT, wipeE, Row.parts_ok r (ro r hr)])) (by unfold LIM; omega)) ?_
  try simp
  refine po_seq ?_
  simp [den]
  refine eq_po (lcL_opt (e := Row.d) (f := fun r => match r with | .knd k => some k.d | _ => none) (fun r hr => po_eq ?_) (by unfold LIM; omega)) ?_
  · have o := ro r hr
    cases r with
    | knd k =>
      have kp := kind_of_parts_ok (G := G) (σ := σ) (n := n + 6) k (o.nm k rfl).2 m
      simp [Row.ws] at kp
      simp [lcTurn, ifT, wipeE, Row.d, Row.ws, Row.steps, atI, ixN, eqS (okS_of _) (okS_of _), kp]
    | grp i l =>
      simp [lcTurn, ifT, wipeE, Row.d, Row.ws, Row.steps, atI, ixN, eqS (okS_of _) (okS_of _), ofS_inj]
    | whl l =>
      simp [lcTurn, ifT, wipeE, Row.d, Row.ws, Row.steps, atI, ixN, eqS (okS_of _) (okS_of _), ofS_inj]
  rw [filt_k]
  try simp
  refine po_seq ?_
  simp [den]
  refine eq_po (lcL_opt (e := Row.d) (f := fun r => match r with | .grp _ l => some (rowD l) | _ => none) (fun r hr => po_eq ?_) (by unfold LIM; omega)) ?_
  · cases r with
    | knd k =>
      simp [lcTurn, ifT, wipeE, Row.d, Row.ws, Row.steps, atI, ixN, eqS (okS_of _) (okS_of _), ofS_inj]
    | grp i l =>
      simp [lcTurn, ifT, wipeE, Row.d, Row.ws, Row.steps, atI, ixN, eqS (okS_of _) (okS_of _), ofS_inj]
    | whl l =>
      simp [lcTurn, ifT, wipeE, Row.d, Row.ws, Row.steps, atI, ixN, eqS (okS_of _) (okS_of _), ofS_inj]
  rw [filt_g]
  try simp
  refine po_seq ?_
  refine po_try1 ?_
  have lr := last_row B
  refine po_seq ?_
  simp [den, lr, Row.d, Row.steps, mv_eq]
  refine (mkBook_ok (G := G) (σ := σ) (n := n) B h m).mono ?_
  rintro _ m1 ⟨rfl, h1, K1⟩
  try simp
  refine po_seq ?_
  have okT := text_okS h
  simp [den, bWords h1, neS okT okT]
  refine po_seq ?_
  simp [den]
  exact ⟨h1, K1⟩
end
end Tx

/-! # K05W: law k05 -/
namespace Tx
open PySem LC Bk
variable {G : Prog} {σ : Nat → Nat} {n : Nat}
theorem isB [i : HasC G "Book"] {B : Book} {p : Nat} {m : Sto} (hp : m[p]? = some (bookOb B)) : callB (phi G n) .isinst [.ref p, .glb "Book"] m = .ok (.bl true) m := is_own (C := "Book") hp
section
variable [HasD G (σ 19) (d_Book_eq σ)] [HasF G "Book" "words"] [HasC G "Book"] [HasG G "Book" (.glb "Book")]
theorem Book_eq_ok (B C : Book) (h : B.Ok) (h' : C.Ok) (p q : Nat) (m : Sto) (hp : m[p]? = some (bookOb B)) (hq : m[q]? = some (bookOb C)) : callD G (n + 1) (σ 19) [.ref p, .ref q] m = .ok (.bl (decide (B.text = C.text))) m := by
  refine po_eq ?_; refine po_callD rfl ?_; simp only [d_Book_eq, f_Book_eq]; simp only [List.map_cons, List.map_nil, List.length_cons, List.length_nil, List.cons_append, List.nil_append, List.replicate]
  refine po_seq ?_
  simp [den, isB (G := G) (n := n) hq, bWords hp, bWords hq, eqS (text_okS h) (text_okS h')]
end
theorem eqOf_bk [i : HasM G "Book" "__eq__" j] {p : Nat} {m : Sto} {B : Book} (hp : m[p]? = some (bookOb B)) : eqOf (phi G n) m (.ref p) = some (("Book" : Str), j) := by
  obtain ⟨c, h1, h2⟩ := i.h
  have h1 : (phi G n).cl "Book" = some c := h1
  unfold eqOf
  simp only [hp, bookOb, h1, h2, Option.map_some]
theorem own_bks [i : HasM G "Book" "__eq__" j] {ne b : Bool} {p q : Nat} {m : Sto} {B C : Book} (hp : m[p]? = some (bookOb B)) (hq : m[q]? = some (bookOb C)) (hc : callD G n j [.ref p, .ref q] m = .ok (.bl b) m) :
    opOwn (phi G n) ne (.ref p) (.ref q) m = .ok (.bl (b != ne)) m := by
  unfold opOwn
  rw [eqOf_bk (n := n) hp]
  have e : insOf m (.ref q) = some ("Book" : Str) := by unfold insOf; simp only [hq, bookOb]
  simp only [e, beq_self_eq_true, Bool.or_true, if_true]
  show bnd (callD G n j [.ref p, .ref q]) (notB ne) m = _
  unfold bnd
  rw [hc]
  rfl
/-- what is told of a book that was read -/
def toldD (B : Book) : D := .lst [.tup (B.kinds.map Knd.d), .tup (B.groups.map rowD), rowD B.whole, .str B.text]
def toldP (B : Book) : PyData := .list [.tuple (B.kinds.map kndP), .tuple (B.groups.map rowP), rowP B.whole, .str B.text]
theorem told_py (B : Book) (m : Sto) : (top m (toldD B)).py = some (toldP B) := by
  have e1 : D.py (.tup (B.kinds.map Knd.d)) = some (.tuple (B.kinds.map kndP)) := by simp [D.py, knds_pys]
  have e2 : D.py (.tup (B.groups.map rowD)) = some (.tuple (B.groups.map rowP)) := by simp [D.py, rows_pys]
  have : D.pys [.tup (B.kinds.map Knd.d), .tup (B.groups.map rowD), rowD B.whole, .str B.text] = some [.tuple (B.kinds.map kndP), .tuple (B.groups.map rowP), rowP B.whole, .str B.text] :=
    pys_cons e1 (pys_cons e2 (pys_cons (row_py _) (pys_cons rfl rfl)))
  show D.py (toldD B) = _
  unfold toldD
  rw [D.py, this]
  rfl
theorem told_fitP {B : Book} (h : B.Ok) : Fit (toldP B) 8000000 12 := by
  have a := fit_tup (f := kndP) (k := 4) (fun k hk => knd_fitP h hk) h.k4
  have b := fit_tup (f := rowP) (k := 3) (fun g hg => row_fitP (h.gr g hg)) h.g3
  have c := row_fitP h.wr
  have t1 : tel (.str B.text) = true := tel_ok (text_okS h)
  have tl := text_len h
  have := a.w
  have := b.w
  have := c.w
  have := a.d
  have := b.d
  have := c.d
  refine ⟨?_, ?_, ?_, ?_⟩
  · have e1 := a.t
    have e2 := b.t
    have e3 := c.t
    simp only [toldP, tel, tels, Bool.and_true, Bool.and_eq_true] at t1 e1 e2 ⊢
    exact ⟨e1, e2, e3, t1⟩
  · simp only [toldP]; unfold wt; simp only [wts]
    have w1 : wt (.str B.text) ≤ 7000000 := by simp only [wt]; omega
    omega
  · simp only [toldP]; unfold PyData.depth; simp only [PyData.depthAll]
    have d1 : (PyData.str B.text).depth = 0 := by simp [PyData.depth]
    omega
  · have e1 := a.r
    have e2 := b.r
    have e3 := c.r
    simp only [toldP, rs, rss, Bool.and_true, Bool.and_eq_true] at e1 e2 ⊢
    exact ⟨e1, e2, e3, text_okS h⟩
theorem text_same {B C : Book} (h : B.Ok) (h' : C.Ok) : B.text = C.text ↔ B = C := by
  constructor
  · intro e
    obtain ⟨e1, e2, e3⟩ := text_inj h h' e
    cases B; cases C
    simp only at e1 e2 e3
    rw [e1, e2, e3]
  · rintro rfl; rfl
theorem neBB (b : Bool) (m : Sto) : opCmp .NotEq (.bl b) (.bl b) m = .ok (.bl false) m := by cases b <;> rfl
theorem cmk_text (k : D) (m : Sto) : permK 1 1 [0, 1] [.glb "Book"] [k] m = .ok [.glb "Book", k] m := rfl
section
variable [HasD G (σ 31) (d_L_right_k05 σ)] [HasI G "Book" (σ 14)] [HasK G "Book" "read" (σ 340)] [HasM G "Book" "ask" (σ 40)] [HasM G "Book" "sums" (σ 39)] [HasP G "Book" "kinds" (σ 15)]
  [HasP G "Book" "groups" (σ 16)] [HasP G "Book" "whole" (σ 17)] [HasC G "Book"] [HasG G "Book" (.glb "Book")] [HasD G (σ 14) (d_Book_init σ)] [HasF G "Book" "words"]
  [HasF G "Book" "sorts"] [HasF G "Book" "heaps"] [HasF G "Book" "last"] [HasD G (σ 340) (d_Book_read σ)] [HasD G (σ 19) (d_Book_eq σ)] [HasD G (σ 20) (d_Book_str σ)]
  [HasD G (σ 15) (d_Book_kinds σ)] [HasD G (σ 16) (d_Book_groups σ)] [HasD G (σ 17) (d_Book_whole σ)] [HasD G (σ 40) (d_Book_ask σ)] [HasM G "Book" "ask_of_sums" (σ 41)] [HasD G (σ 39) (d_Book_sums σ)]
  [HasM G "Book" "kind_at" (σ 37)] [HasP G "Book" "names" (σ 18)] [HasD G (σ 313) (d_L_text σ)] [HasD G (σ 49) (d_L_due σ)] [HasD G (σ 48) (d_L_heaped σ)] [HasD G (σ 28) (d_L_parts σ)]
  [HasD G (σ 47) (d_L_tab σ)] [HasD G (σ 11) (d_check_groups σ)] [HasG G "MOST_GROUPS" (.int 3)] [HasD G (σ 10) (d_check_kinds σ)] [HasG G "MOST_KINDS" (.int 4)] [HasD G (σ 12) (d_check_places σ)]
  [HasD G (σ 13) (d_check_whole σ)] [HasD G (σ 310) (d_text_of σ)] [HasD G (σ 339) (d_kind_of_parts σ)] [HasG G "KIND_WORDS" (.int 4)] [HasD G (σ 338) (d_parts_of_row σ)] [HasD G (σ 41) (d_Book_ask_of_sums σ)]
  [HasD G (σ 36) (d_check_bill σ)] [HasD G (σ 34) (d_led σ)] [HasD G (σ 37) (d_Book_kind_at σ)] [HasD G (σ 18) (d_Book_names σ)] [HasD G (σ 312) (d_L_tail σ)] [HasD G (σ 44) (d_L_led σ)]
  [HasD G (σ 24) (d_L_steps σ)] [HasD G (σ 22) (d_L_take σ)] [HasD G (σ 27) (d_L_words σ)] [HasD G (σ 46) (d_L_worth σ)] [HasD G (σ 8) (d_is_row_of_steps σ)] [HasD G (σ 9) (d_is_kind σ)]
  [HasG G "KIND_SIZE" (.int 3)] [HasD G (σ 7) (d_wrong_step σ)] [HasG G "MOST_STEPS" (.int 2)] [HasD G (σ 309) (d_text_of_steps σ)] [HasD G (σ 335) (d_number_of σ)] [HasG G "DIGITS" (.str "0123456789")]
  [HasD G (σ 337) (d_steps_of_text σ)] [HasD G (σ 35) (d_is_line σ)] [HasD G (σ 33) (d_rounded σ)] [HasD G (σ 311) (d_L_step_text σ)] [HasD G (σ 43) (d_L_whole_part σ)] [HasD G (σ 23) (d_L_step σ)]
  [HasD G (σ 26) (d_L_beside σ)] [HasD G (σ 25) (d_L_word σ)] [HasD G (σ 4) (d_is_between σ)] [HasD G (σ 5) (d_is_name σ)] [HasG G "LETTERS" (.str "abcdefghijklmnopqrstuvwxyz")] [HasG G "LONGEST_NAME" (.int 8)]
  [HasD G (σ 6) (d_is_step σ)] [HasG G "PLUS_SIZE" (.int 2)] [HasG G "MOST_PLUS" (.int 9999)] [HasG G "MOST_UNIT" (.int 60)] [HasG G "MOST_FACTOR" (.int 200)] [HasG G "TIMES_SIZE" (.int 5)]
  [HasG G "WAYS" (.tup [.str "down", .str "up", .str "near down", .str "near up", .str "near even"])] [HasD G (σ 308) (d_text_of_step σ)] [HasD G (σ 336) (d_step_of_text σ)] [HasD G (σ 3) (d_is_integer σ)] [HasM G "Book" "__eq__" (σ 19)] [HasM G "Book" "__str__" (σ 20)]
  [HasI G "Book" (σ 14)] [HasK G "Book" "read" (σ 340)]
include σ
theorem L_right_k05_ok (hW : 2000 ≤ G.W) (p : Nat) (m : Sto) (hp : Purse p m) : Po (callD G (n + 10) (σ 31) [.ref p] m) fun v m' => v = .bl true := by
  refine po_callD rfl ?_; simp only [d_L_right_k05, f_L_right_k05]; simp only [List.map_cons, List.map_nil, List.length_cons, List.length_nil, List.cons_append, List.nil_append, List.replicate]
  refine po_seq ?_
  simp [den]
  refine po_seq ?_
  simp [den]
  refine ⟨rfl, ?_⟩
  refine forL_po (n := (rangeL 0 6).length) (fun i env m' => Purse p m' ∧ ∃ (x1 : D) (x2 x3 x4 x5 x6 x7 x8 x9 x10 x11 x12 x13 : Option D), env = [some (.ref p), some x1, x2, x3, x4, x5, x6, x7, x8, x9, x10, x11, x12, x13] ∧ (x1 = .non ∨ ∃ C : Book, C.Ok ∧ x1 = .str C.text)) rfl ⟨hp, .non, _, _, _, _, _, _, _, _, _, _, _, _, rfl, .inl rfl⟩ ?_ ?_
  · rintro i env m1 d hi hd ⟨hp1, x1, x2, x3, x4, x5, x6, x7, x8, x9, x10, x11, x12, x13, rfl, hx1⟩
    simp
    refine po_seq ?_
    simp [den]
    refine (L_parts_ok (G := G) (σ := σ) (n := n + 5) hW p m1 hp1).mono ?_
    rintro _ m2 ⟨B, rfl, ok, hd2⟩
    have g3 := ok.g3
    have k4 := ok.k4
    have k0 := ok.k0
    try simp
    refine po_seq ?_
    simp [den, partsD, parts0, parts1, parts2]
    refine (mkBook_ok (G := G) (σ := σ) (n := n + 1) B ok m2).mono ?_
    rintro _ m3 ⟨rfl, h3, K3⟩
    try simp
    refine (L_text_ok (G := G) (σ := σ) (n := n + 6) B ok m3).mono ?_
    rintro _ m4 ⟨rfl, o4, rfl⟩
    have K4 : Kept m3 (m3 ++ [o4]) := Kept.new
    generalize m3 ++ [o4] = m4 at K4 ⊢
    have h4 := K4.at h3
    have pu4 : Purse p m4 := K4.purse (K3.purse hd2.pu)
    generalize m2.length = q1 at *
    have so4 := so_book (G := G) (n := n + 9) h4 (Book_str_ok (G := G) (σ := σ) (n := n + 8) B q1 m4 h4)
    try simp
    refine po_seq ?_
    simp [den, cm_call (G := G) (C := "Book") (f := "read")]
    refine (Book_read_ok (G := G) (σ := σ) (n := n) B ok m4).mono ?_
    rintro _ m5 ⟨rfl, h5, K5⟩
    have so5 := so_book (G := G) (n := n + 9) (K5.at h4) (Book_str_ok (G := G) (σ := σ) (n := n + 8) B q1 m5 (K5.at h4))
    simp [so5, cmk_call (G := G) (C := "Book") (f := "read"), cmk_text]
    refine (Book_read_ok (G := G) (σ := σ) (n := n) B ok m5).mono ?_
    rintro _ m6 ⟨rfl, h6, K6⟩
    have b1 := K6.at (K5.at h4)
    have b2 := K6.at h5
    have b3 := h6
    have pu6 : Purse p m6 := K6.purse (K5.purse pu4)
    clear so4 so5
    generalize m4.length = q2 at *
    generalize m5.length = q3 at *
    clear h3 h4 h5 h6 K3 K4 K5 K6 pu4 hd2
    try simp
    -- both books that were read
    have rp : ∀ (P : Phi) (m : Sto), callB P .repr [.lst [.tup (B.kinds.map Knd.d), .tup (B.groups.map rowD), rowD B.whole, .str B.text]] m = .ok (.str (toldP B).shown) m := fun P m => by
      have f := told_fitP ok
      exact repr_ok (told_py B m) f.t (by have := f.d; omega) (by have := f.w; unfold LIM; omega)
    have okT := okS_shown (toldP B) (told_fitP ok).r
    refine po_seq ?_
    simp [den]
    refine forL_po (n := 2) (fun i env m' => m' = m6 ∧ ∃ y8 y9, env = [some (.ref p), some x1, some d, some (partsD B), some (.ref q1), some (.str B.text), some (.ref q2), some (.ref q3), y8, y9, x10, x11, x12, x13]) rfl ⟨rfl, _, _, rfl⟩ ?_ ?_
    · rintro i env m' w hi hw ⟨rfl, y8, y9, rfl⟩
      obtain ⟨q, rfl, hq⟩ : ∃ q, w = .ref q ∧ m'[q]? = some (bookOb B) := by
        have := List.mem_of_getElem? hw
        simp only [List.mem_cons, List.not_mem_nil, or_false] at this
        rcases this with rfl | rfl
        · exact ⟨_, rfl, b2⟩
        · exact ⟨_, rfl, b3⟩
      have ka := (at_prop (G := G) (n := n + 9) (f := "kinds") hq).trans (Book_kinds_ok (G := G) (σ := σ) (n := n + 8) B q m' hq)
      have ga := (at_prop (G := G) (n := n + 9) (f := "groups") hq).trans (Book_groups_ok (G := G) (σ := σ) (n := n + 8) B q m' hq)
      have wa := (at_prop (G := G) (n := n + 9) (f := "whole") hq).trans (Book_whole_ok (G := G) (σ := σ) (n := n + 8) B q m' hq)
      have so := so_book (G := G) (n := n + 9) hq (Book_str_ok (G := G) (σ := σ) (n := n + 8) B q m' hq)
      have o1 : ∀ ne, opOwn (phi G (n + 9)) ne (.ref q) (.ref q1) m' = .ok (.bl (true != ne)) m' := fun ne => own_bks hq b1 (by rw [Book_eq_ok (G := G) (σ := σ) (n := n + 8) B B ok ok q q1 m' hq b1]; simp)
      have o2 : ∀ ne, opOwn (phi G (n + 9)) ne (.ref q1) (.ref q) m' = .ok (.bl (true != ne)) m' := fun ne => own_bks b1 hq (by rw [Book_eq_ok (G := G) (σ := σ) (n := n + 8) B B ok ok q1 q m' b1 hq]; simp)
      simp
      refine po_seq ?_
      simp [den, ka, ga, wa, so]
      refine po_seq ?_
      simp [den, partsD, parts0, parts1, parts2, rp, neS okT okT]
      refine po_seq ?_
      simp [den, o1, o2, isB (G := G) (n := n + 9) hq]
    · rintro env m' ⟨rfl, y8, y9, rfl⟩
      try simp
      refine po_seq ?_
      simp [den, partsD, parts0]
      refine eq_po (lcL_of (e := Knd.d) (f := fun k => .str k.name) (fun k hk => po_eq (by simp [lcTurn, ifT, wipeE, Knd.d])) (by unfold LIM; omega)) ?_
      have ew : (B.kinds.map fun k => D.str k.name) = (B.kinds.map (·.name)).map D.str := by simp [Function.comp_def]
      rw [ew]
      try simp
      refine po_seq ?_
      simp [den]
      refine ⟨rfl, ?_⟩
      refine forL_po (n := (rangeL 0 3).length) (fun i env m6 => Drawn p m' m6 ∧ ∃ y11 y12, env = [some (.ref p), some x1, some d, some (partsD B), some (.ref q1), some (.str B.text), some (.ref q2), some (.ref q3), y8, y9, some (.lst ((B.kinds.map (·.name)).map D.str)), y11, y12, x13]) rfl ⟨Drawn.refl pu6, x11, x12, by simp [partsD, Function.comp_def]⟩ ?_ ?_
      · rintro i env m7 w hi hw ⟨hd7, y11, y12, rfl⟩
        have c2 := Drawn.keep hd7 pu6 b2
        have c3 := Drawn.keep hd7 pu6 b3
        have tb := L_tab_ok (G := G) (σ := σ) (n := n + 6) p (B.kinds.map (·.name)) 5 (by simp; omega) (by omega) m7 hd7.pu
        simp only [List.map_map] at tb
        simp
        refine po_seq ?_
        simp [den]
        refine tb.mono ?_
        rintro _ m8 ⟨b, rfl, ht, hl, hd8⟩
        have e2 := Drawn.keep hd8 hd7.pu c2
        have e3 := Drawn.keep hd8 hd7.pu c3
        have hb : BillOk B b := ⟨fun l hl => by
          obtain ⟨k, hk, e⟩ := List.mem_map.mp (ht l hl).1
          exact ⟨k, hk, e⟩, fun l hl => (ht l hl).2.1⟩
        have ha : ∀ l ∈ b, l.amt ≤ 10 ^ 30 := fun l hl => (ht l hl).2.2
        have lb : b.length ≤ 100 := by have : (5 : Int).toNat = 5 := rfl; omega
        obtain ⟨d1, d2, d3, d4⟩ := dueP_ok ok lb fun l hlb => ⟨hb.am l hlb, ha l hlb⟩
        have rq : ∀ (P : Phi) (m : Sto), callB P .repr [.lst [.int (B.ask b), .tup (dints (B.sums b))]] m = .ok (.str (dueP B b).shown) m := fun P m => repr_ok (due_py B b m) d1 d2 d3
        have okd := okS_shown (dueP B b) d4
        have pa : ∀ m : Sto, m[q2]? = some (bookOb B) → preMe (phi G (n + 9)) "ask" (.ref q2) m = .ok (σ 40) m := fun m h => pre_me h rfl
        have ps : ∀ m : Sto, m[q3]? = some (bookOb B) → preMe (phi G (n + 9)) "sums" (.ref q3) m = .ok (σ 39) m := fun m h => pre_me h rfl
        have hd8 := hd7.trans hd8
        try simp
        refine po_seq ?_
        simp [den, pa m8 e2]
        refine (Book_ask_ok (G := G) (σ := σ) (n := n + 3) B ok b hb q2 m8 e2).mono ?_
        rintro _ m9 ⟨rfl, o9, rfl⟩
        have K9 : Kept m8 (m8 ++ [o9]) := Kept.new
        generalize m8 ++ [o9] = m9 at K9 ⊢
        simp [ps m9 (K9.at e3)]
        refine (Book_sums_ok (G := G) (σ := σ) (n := n + 4) B ok b hb q3 m9 (K9.at e3)).mono ?_
        rintro _ m10 ⟨rfl, o10, rfl⟩
        have K10 : Kept m8 (m9 ++ [o10]) := K9.trans Kept.new
        generalize m9 ++ [o10] = m10 at K10 ⊢
        simp [rq]
        refine (L_due_ok (G := G) (σ := σ) (n := n + 5) B ok b hb m10).mono ?_
        rintro _ m11 ⟨rfl, o11, rfl⟩
        have K11 : Kept m8 (m10 ++ [o11]) := K10.trans Kept.new
        generalize m10 ++ [o11] = m11 at K11 ⊢
        try simp
        refine (L_heaped_ok (G := G) (σ := σ) (n := n + 6) B ok b hb m11).mono ?_
        rintro _ m12 ⟨rfl, rfl⟩
        have hh : (m11 ++ [Ob.lst (dints (B.sums b))])[m11.length]? = some (.lst (dints (B.sums b))) := by simp
        have K12 : Kept m8 (m11 ++ [Ob.lst (dints (B.sums b))]) := K11.trans Kept.new
        generalize m11 ++ [Ob.lst (dints (B.sums b))] = m12 at K12 hh ⊢
        simp [tyTup_ref hh, rq, neS okd okd]
        exact hd8.trans (K12.drawn hd8.pu)
      · rintro env m7 ⟨hd7, y11, y12, rfl⟩
        have c2 := Drawn.keep hd7 pu6 b2
        try simp
        have fin9 : ∀ m8, Purse p m8 → Po ((den (phi G (n + 9)) (f_L_right_k05_9 σ)).s [some (.ref p), some x1, some d, some (partsD B), some (.ref q1), some (.str B.text), some (.ref q2), some (.ref q3), y8, y9, some (.lst ((B.kinds.map (·.name)).map D.str)), y11, y12, x13] m8) (fun fl m' => match fl with
          | LC.Flow.nx r' => Purse p m' ∧ ∃ x1, (∃ x x_1 x_2 x_3 x_4 x_5 x_6 x_7 x_8 x_9 x_10 x_11, r' = [some (D.ref p), some x1, x, x_1, x_2, x_3, x_4, x_5, x_6, x_7, x_8, x_9, x_10, x_11]) ∧ (x1 = D.non ∨ ∃ C : Book, C.Ok ∧ x1 = D.str C.text)
          | _ => False) := fun m8 hp8 => by
          refine po_seq ?_
          simp [den]
          exact ⟨hp8, B, ok, rfl⟩
        have c2b : m7[q2]? = some (bookOb B) := c2
        rcases hx1 with rfl | ⟨C, okC, rfl⟩
        · refine po_seq ?_
          simp [den]
          have f9 := fin9 m7 hd7.pu
          simp only [List.map_map] at f9
          exact f9.mono fun fl m' h => by cases fl <;> first | exact h | exact h.elim
        · refine po_seq ?_
          have isn : opCmp .IsNot (.str C.text) .non m7 = .ok (.bl true) m7 := rfl
          simp [den, isn, cm_call (G := G) (C := "Book") (f := "read")]
          refine (Book_read_ok (G := G) (σ := σ) (n := n) C okC m7).mono ?_
          rintro _ m8 ⟨rfl, h8, K8⟩
          have o1 : opOwn (phi G (n + 9)) false (.ref q2) (.ref m7.length) m8 = .ok (.bl (decide (B.text = C.text))) m8 := by
            have := own_bks (n := n + 9) (ne := false) (K8.at c2b) h8 (by rw [Book_eq_ok (G := G) (σ := σ) (n := n + 8) B C ok okC q2 m7.length m8 (K8.at c2b) h8])
            simpa using this
          simp [o1, eqS (text_okS ok) (text_okS okC), neBB]
          have f9 := fin9 m8 (K8.purse hd7.pu)
          simp only [List.map_map] at f9
          exact f9.mono fun fl m' h => by cases fl <;> first | exact h | exact h.elim
  · rintro env m1 ⟨hp1, x1, x2, x3, x4, x5, x6, x7, x8, x9, x10, x11, x12, x13, rfl, hx1⟩
    refine po_seq ?_
    simp [den]
/-! ### the book by hand -/
end
def B0 : Book := ⟨[⟨"bread", 0, [.times 107 100 .nup 1]⟩, ⟨"wine", 1, []⟩], [[], [.plus (-30), .times 119 100 .neven 1]], [.times 1 1 .down 5]⟩
def b0 : List Line := [⟨"bread", 50⟩, ⟨"wine", 80⟩]
theorem B0_ok : B0.Ok := by
  have n1 : NameOk "bread" := nameB_of (by decide +kernel)
  have n2 : NameOk "wine" := nameB_of (by decide +kernel)
  refine ⟨by decide, by decide, fun k hk => ?_, by simp [B0, ofS_inj], fun k hk => ?_, fun k hk => ?_, by decide, by decide, fun g hg => ?_, ?_⟩
  · simp only [B0, List.mem_cons, List.not_mem_nil, or_false] at hk
    rcases hk with rfl | rfl
    · exact n1
    · exact n2
  · simp only [B0, List.mem_cons, List.not_mem_nil, or_false] at hk
    rcases hk with rfl | rfl
    · exact ⟨by simp, by simp [Step.ok]⟩
    · exact ⟨by simp, by simp⟩
  · simp only [B0, List.mem_cons, List.not_mem_nil, or_false] at hk
    rcases hk with rfl | rfl <;> decide
  · simp only [B0, List.mem_cons, List.not_mem_nil, or_false] at hg
    rcases hg with rfl | rfl
    · exact ⟨by simp, by simp⟩
    · exact ⟨by simp, by simp [Step.ok]⟩
  · exact ⟨by simp [B0], by simp [B0, Step.ok]⟩
theorem b0_ok : BillOk B0 b0 := ⟨fun x hx => by
  simp only [b0, List.mem_cons, List.not_mem_nil, or_false] at hx
  rcases hx with rfl | rfl
  · exact ⟨⟨"bread", 0, [.times 107 100 .nup 1]⟩, by simp [B0], rfl⟩
  · exact ⟨⟨"wine", 1, []⟩, by simp [B0], rfl⟩, fun x hx => by
  simp only [b0, List.mem_cons, List.not_mem_nil, or_false] at hx
  rcases hx with rfl | rfl <;> decide⟩
def t1 : Str := Str.ofString "kind bread group 0: times 107/100 near up to 1\nkind wine group 1\ngroup 0\n"
def t2 : Str := Str.ofString "group 1: plus -30, times 119/100 near even to 1\nwhole: times 1/1 down to 5"
theorem B0_text : t1 ++ t2 = B0.text := by decide +kernel
theorem B0_ask : B0.ask b0 = 110 := by decide +kernel
def hand : PyData := .list [.tuple [.str "wine", .int 1, .tuple []], .tuple [.str "plus", .int (-30)], .tuple [.tuple [.str "times", .int 1, .int 1, .str "down", .int 5]], .bool true, .int 110]
theorem hand_shown : hand.shown = Str.ofString "[('wine', 1, ()), ('plus', -30), (('times', 1, 1, 'down', 5),), True, 110]" := by decide +kernel
theorem hand_rep (P : Phi) (m : Sto) : callB P .repr [.lst [.tup [.str "wine", .int 1, .tup []], .tup [.str "plus", .int (-30)], .tup [.tup [.str "times", .int 1, .int 1, .str "down", .int 5]], .bl true, .int 110]] m = .ok (.str (Str.ofString "[('wine', 1, ()), ('plus', -30), (('times', 1, 1, 'down', 5),), True, 110]")) m := by
  rw [← hand_shown]
  exact repr_ok (a := hand) (by simp [top, D.pys, D.py, hand]) (by decide +kernel) (by decide +kernel) (by decide +kernel)
section
variable [HasD G (σ 2) (d_L_law_k05 σ)] [HasK G "Book" "read" (σ 340)] [HasM G "Book" "ask" (σ 40)] [HasP G "Book" "kinds" (σ 15)] [HasP G "Book" "groups" (σ 16)] [HasP G "Book" "whole" (σ 17)]
  [HasD G (σ 31) (d_L_right_k05 σ)] [HasI G "Book" (σ 14)] [HasM G "Book" "sums" (σ 39)] [HasC G "Book"] [HasG G "Book" (.glb "Book")] [HasD G (σ 14) (d_Book_init σ)]
  [HasF G "Book" "words"] [HasF G "Book" "sorts"] [HasF G "Book" "heaps"] [HasF G "Book" "last"] [HasD G (σ 340) (d_Book_read σ)] [HasD G (σ 19) (d_Book_eq σ)]
  [HasD G (σ 20) (d_Book_str σ)] [HasD G (σ 15) (d_Book_kinds σ)] [HasD G (σ 16) (d_Book_groups σ)] [HasD G (σ 17) (d_Book_whole σ)] [HasD G (σ 40) (d_Book_ask σ)] [HasM G "Book" "ask_of_sums" (σ 41)]
  [HasD G (σ 39) (d_Book_sums σ)] [HasM G "Book" "kind_at" (σ 37)] [HasP G "Book" "names" (σ 18)] [HasD G (σ 313) (d_L_text σ)] [HasD G (σ 0) (d_L_cell σ)] [HasD G (σ 1) (d_L_purse σ)]
  [HasD G (σ 49) (d_L_due σ)] [HasD G (σ 48) (d_L_heaped σ)] [HasD G (σ 28) (d_L_parts σ)] [HasD G (σ 47) (d_L_tab σ)] [HasD G (σ 11) (d_check_groups σ)] [HasG G "MOST_GROUPS" (.int 3)]
  [HasD G (σ 10) (d_check_kinds σ)] [HasG G "MOST_KINDS" (.int 4)] [HasD G (σ 12) (d_check_places σ)] [HasD G (σ 13) (d_check_whole σ)] [HasD G (σ 310) (d_text_of σ)] [HasD G (σ 339) (d_kind_of_parts σ)]
  [HasG G "KIND_WORDS" (.int 4)] [HasD G (σ 338) (d_parts_of_row σ)] [HasD G (σ 41) (d_Book_ask_of_sums σ)] [HasD G (σ 36) (d_check_bill σ)] [HasD G (σ 34) (d_led σ)] [HasD G (σ 37) (d_Book_kind_at σ)]
  [HasD G (σ 18) (d_Book_names σ)] [HasD G (σ 312) (d_L_tail σ)] [HasD G (σ 44) (d_L_led σ)] [HasD G (σ 24) (d_L_steps σ)] [HasD G (σ 22) (d_L_take σ)] [HasD G (σ 27) (d_L_words σ)]
  [HasD G (σ 46) (d_L_worth σ)] [HasD G (σ 8) (d_is_row_of_steps σ)] [HasD G (σ 9) (d_is_kind σ)] [HasG G "KIND_SIZE" (.int 3)] [HasD G (σ 7) (d_wrong_step σ)] [HasG G "MOST_STEPS" (.int 2)]
  [HasD G (σ 309) (d_text_of_steps σ)] [HasD G (σ 335) (d_number_of σ)] [HasG G "DIGITS" (.str "0123456789")] [HasD G (σ 337) (d_steps_of_text σ)] [HasD G (σ 35) (d_is_line σ)] [HasD G (σ 33) (d_rounded σ)]
  [HasD G (σ 311) (d_L_step_text σ)] [HasD G (σ 43) (d_L_whole_part σ)] [HasD G (σ 23) (d_L_step σ)] [HasD G (σ 26) (d_L_beside σ)] [HasD G (σ 25) (d_L_word σ)] [HasD G (σ 4) (d_is_between σ)]
  [HasD G (σ 5) (d_is_name σ)] [HasG G "LETTERS" (.str "abcdefghijklmnopqrstuvwxyz")] [HasG G "LONGEST_NAME" (.int 8)] [HasD G (σ 6) (d_is_step σ)] [HasG G "PLUS_SIZE" (.int 2)] [HasG G "MOST_PLUS" (.int 9999)]
  [HasG G "MOST_UNIT" (.int 60)] [HasG G "MOST_FACTOR" (.int 200)] [HasG G "TIMES_SIZE" (.int 5)] [HasG G "WAYS" (.tup [.str "down", .str "up", .str "near down", .str "near up", .str "near even"])] [HasD G (σ 308) (d_text_of_step σ)] [HasD G (σ 336) (d_step_of_text σ)]
  [HasD G (σ 3) (d_is_integer σ)] [HasM G "Book" "__eq__" (σ 19)] [HasM G "Book" "__str__" (σ 20)] [HasI G "Book" (σ 14)] [HasK G "Book" "read" (σ 340)]
include σ
theorem L_law_k05_ok (hW : 2000 ≤ G.W) (ns : List Int) (hl : ns.length ≤ 63) : Po (callD G (n + 11) (σ 2) [.scr ns] []) fun v m' => v = .bl true := by
  refine po_callD rfl ?_; simp only [d_L_law_k05, f_L_law_k05]; simp only [List.map_cons, List.map_nil, List.length_cons, List.length_nil, List.cons_append, List.nil_append, List.replicate]
  have l1 : t1.length ≤ 100 := by decide +kernel
  have l2 : t2.length ≤ 100 := by decide +kernel
  have ad : opBin false .Add (.str t1) (.str t2) ([] : Sto) = .ok (.str B0.text) [] := by rw [addS (by omega), B0_text]
  unfold t1 t2 at ad
  refine po_seq ?_
  simp [den]
  refine po_seq ?_
  simp [den, ad]
  refine po_seq ?_
  simp [den, cm_call (G := G) (C := "Book") (f := "read")]
  refine (Book_read_ok (G := G) (σ := σ) (n := n + 1) B0 B0_ok []).mono ?_
  rintro _ m1 ⟨rfl, h1, K1⟩
  generalize ([] : Sto).length = q at *
  have ka := (at_prop (G := G) (n := n + 10) (f := "kinds") h1).trans (Book_kinds_ok (G := G) (σ := σ) (n := n + 9) B0 q m1 h1)
  have ga := (at_prop (G := G) (n := n + 10) (f := "groups") h1).trans (Book_groups_ok (G := G) (σ := σ) (n := n + 9) B0 q m1 h1)
  have wa := (at_prop (G := G) (n := n + 10) (f := "whole") h1).trans (Book_whole_ok (G := G) (σ := σ) (n := n + 9) B0 q m1 h1)
  have so := so_book (G := G) (n := n + 10) h1 (Book_str_ok (G := G) (σ := σ) (n := n + 9) B0 q m1 h1)
  have pa : preMe (phi G (n + 10)) "ask" (.ref q) m1 = .ok (σ 40) m1 := pre_me h1 rfl
  have okT := text_okS B0_ok
  have i1 : atI (B0.kinds.map Knd.d) 1 = some (.tup [.str "wine", .int 1, .tup []]) := rfl
  have i2 : atI (B0.groups.map rowD) 1 = some (.tup [.tup [.str "plus", .int (-30)], (Step.times 119 100 .neven 1).d]) := rfl
  have i3 : atI [D.tup [.str "plus", .int (-30)], (Step.times 119 100 .neven 1).d] 0 = some (.tup [.str "plus", .int (-30)]) := rfl
  have ew : rowD B0.whole = .tup [.tup [.str "times", .int 1, .int 1, .str "down", .int 5]] := rfl
  have eb : D.tup [.tup [.str "bread", .int 50], .tup [.str "wine", .int 80]] = billD b0 := rfl
  try simp
  refine po_seq ?_
  simp [den, ka, ga, wa, so, pa, i1, i2, i3, ew, eqS okT okT, eb]
  refine (Book_ask_ok (G := G) (σ := σ) (n := n + 4) B0 B0_ok b0 b0_ok q m1 h1).mono ?_
  rintro _ m2 ⟨rfl, o2, rfl⟩
  rw [B0_ask]
  refine po_seq ?_
  simp [den, hand_rep, neS (okS_of _) (okS_of _)]
  refine po_seq ?_
  simp [den]
  refine ⟨small62I (by split <;> omega) (by split <;> omega), ?_⟩
  refine (lcL_po (n := (rangeL 0 (if (if 6 < (ns.length : Int) then 6 else (ns.length : Int)) > 2 then (if 6 < (ns.length : Int) then 6 else (ns.length : Int)) else 2)).length) (fun i acc m' => ∀ x ∈ acc, x = .bl true) rfl (by rw [rangeL_len]; unfold LIM; split <;> omega) (by simp) ?_ (fun acc m h => h)).mono ?_
  · rintro i acc m1 d hi hd hl h
    obtain ⟨k, hk, rfl⟩ := List.mem_map.mp (List.mem_of_getElem? hd)
    have hk := List.mem_range.mp hk
    simp [lcTurn, ifT, wipeE]
    refine (L_cell_ok (σ := σ) ns k (by omega) (by split at hk <;> omega) m1).mono ?_
    rintro _ m1 ⟨z, rfl, rfl⟩
    refine (L_purse_ok (σ := σ) z m1).mono ?_
    rintro _ m2 ⟨rfl, hp, _⟩
    refine (L_right_k05_ok (σ := σ) hW _ m2 hp).mono ?_
    rintro _ m3 rfl
    intro x hx
    rcases hx with hx | rfl
    · exact h x hx
    · rfl
  · intro acc m1 h
    simp [allTrue h]
end
end Tx

/-! ## the defs of the text, tied -/
namespace Tx
open PySem LC
def tp (i : Nat) : Stmt := PySem.Challenge.pw_linecents_k05_texts_read_back.main.body.getD i (.Pass ⟨0, 0, 0, 0⟩)
def sg : Nat → Nat := fun k => ([3, 4, 5, 335, 6, 7, 8, 33, 34, 308, 309, 336, 337, 9, 10, 11, 12, 13, 310, 338, 339, 35, 36, 14, 340, 15, 16, 17, 18, 37, 39, 40, 41, 19, 20, 21, 0, 1, 22, 23, 24, 25, 26, 27, 28, 46, 47, 43, 44, 48, 49, 311, 312, 313, 31, 2] : List Nat).idxOf k
def d0 : LC.DInfo := ⟨"is_integer", "is_integer", tp 21, ["value"],
  ["value"], f_is_integer sg⟩
def d1 : LC.DInfo := ⟨"is_between", "is_between", tp 22, ["value", "low", "high"],
  ["value", "low", "high"], f_is_between sg⟩
def d2 : LC.DInfo := ⟨"is_name", "is_name", tp 24, ["value", "sign"],
  ["value"], f_is_name sg⟩
def d3 : LC.DInfo := ⟨"number_of", "number_of", tp 25, ["word", "body", "sign"],
  ["word"], f_number_of sg⟩
def d4 : LC.DInfo := ⟨"is_step", "is_step", tp 30, ["value"],
  ["value"], f_is_step sg⟩
def d5 : LC.DInfo := ⟨"wrong_step", "wrong_step", tp 31, ["value", "at", "step"],
  ["value"], f_wrong_step sg⟩
def d6 : LC.DInfo := ⟨"is_row_of_steps", "is_row_of_steps", tp 32, ["value"],
  ["value"], f_is_row_of_steps sg⟩
def d7 : LC.DInfo := ⟨"rounded", "rounded", tp 33, ["top", "bottom", "way", "low", "rest"],
  ["top", "bottom", "way"], f_rounded sg⟩
def d8 : LC.DInfo := ⟨"led", "led", tp 34, ["steps", "value", "step"],
  ["steps", "value"], f_led sg⟩
def d9 : LC.DInfo := ⟨"text_of_step", "text_of_step", tp 35, ["step"],
  ["step"], f_text_of_step sg⟩
def d10 : LC.DInfo := ⟨"text_of_steps", "text_of_steps", tp 36, ["steps", "step"],
  ["steps"], f_text_of_steps sg⟩
def d11 : LC.DInfo := ⟨"step_of_text", "step_of_text", tp 37, ["text", "words", "factors"],
  ["text"], f_step_of_text sg⟩
def d12 : LC.DInfo := ⟨"steps_of_text", "steps_of_text", tp 38, ["text", "part"],
  ["text"], f_steps_of_text sg⟩
def d13 : LC.DInfo := ⟨"is_kind", "is_kind", tp 42, ["value"],
  ["value"], f_is_kind sg⟩
def d14 : LC.DInfo := ⟨"check_kinds", "check_kinds", tp 43, ["kinds", "names", "at", "kind"],
  ["kinds"], f_check_kinds sg⟩
def d15 : LC.DInfo := ⟨"check_groups", "check_groups", tp 44, ["groups", "at", "steps"],
  ["groups"], f_check_groups sg⟩
def d16 : LC.DInfo := ⟨"check_places", "check_places", tp 45, ["kinds", "many", "at", "kind"],
  ["kinds", "many"], f_check_places sg⟩
def d17 : LC.DInfo := ⟨"check_whole", "check_whole", tp 46, ["whole", "wrong"],
  ["whole"], f_check_whole sg⟩
def d18 : LC.DInfo := ⟨"text_of", "text_of", tp 47, ["kinds", "groups", "whole", "rows", "name", "group", "steps", "at"],
  ["kinds", "groups", "whole"], f_text_of sg⟩
def d19 : LC.DInfo := ⟨"parts_of_row", "parts_of_row", tp 48, ["row", "head", "mark", "tail"],
  ["row"], f_parts_of_row sg⟩
def d20 : LC.DInfo := ⟨"kind_of_parts", "kind_of_parts", tp 49, ["words", "steps"],
  ["words", "steps"], f_kind_of_parts sg⟩
def d21 : LC.DInfo := ⟨"is_line", "is_line", tp 50, ["value", "names"],
  ["value", "names"], f_is_line sg⟩
def d22 : LC.DInfo := ⟨"check_bill", "check_bill", tp 51, ["bill", "names", "at", "line"],
  ["bill", "names"], f_check_bill sg⟩
def d23 : LC.DInfo := ⟨"__init__", "Book.__init__", L2.inClass (tp 52) 0, ["self", "kinds", "groups", "whole"],
  ["self", "kinds", "groups", "whole"], f_Book_init sg⟩
def d24 : LC.DInfo := ⟨"read", "Book.read", L2.inClass (tp 52) 1, ["cls", "text", "rows", "kinds", "groups", "found", "row", "words", "steps"],
  ["cls", "text"], f_Book_read sg⟩
def d25 : LC.DInfo := ⟨"kinds", "Book.kinds", L2.inClass (tp 52) 2, ["self"],
  ["self"], f_Book_kinds sg⟩
def d26 : LC.DInfo := ⟨"groups", "Book.groups", L2.inClass (tp 52) 3, ["self"],
  ["self"], f_Book_groups sg⟩
def d27 : LC.DInfo := ⟨"whole", "Book.whole", L2.inClass (tp 52) 4, ["self"],
  ["self"], f_Book_whole sg⟩
def d28 : LC.DInfo := ⟨"names", "Book.names", L2.inClass (tp 52) 5, ["self", "kind"],
  ["self"], f_Book_names sg⟩
def d29 : LC.DInfo := ⟨"kind_at", "Book.kind_at", L2.inClass (tp 52) 6, ["self", "name", "kind"],
  ["self", "name"], f_Book_kind_at sg⟩
def d30 : LC.DInfo := ⟨"sums", "Book.sums", L2.inClass (tp 52) 13, ["self", "bill", "found", "name", "amount", "kind"],
  ["self", "bill"], f_Book_sums sg⟩
def d31 : LC.DInfo := ⟨"ask", "Book.ask", L2.inClass (tp 52) 14, ["self", "bill"],
  ["self", "bill"], f_Book_ask sg⟩
def d32 : LC.DInfo := ⟨"ask_of_sums", "Book.ask_of_sums", L2.inClass (tp 52) 15, ["self", "sums", "steps", "found"],
  ["self", "sums"], f_Book_ask_of_sums sg⟩
def d33 : LC.DInfo := ⟨"__eq__", "Book.__eq__", L2.inClass (tp 52) 16, ["self", "other"],
  ["self", "other"], f_Book_eq sg⟩
def d34 : LC.DInfo := ⟨"__str__", "Book.__str__", L2.inClass (tp 52) 17, ["self"],
  ["self"], f_Book_str sg⟩
def d35 : LC.DInfo := ⟨"__repr__", "Book.__repr__", L2.inClass (tp 52) 18, ["self"],
  ["self"], f_Book_repr sg⟩
def d36 : LC.DInfo := ⟨"_law_cell", "_law_cell", tp 54, ["_law_script", "_law_k", "_law_seed", "_law_part"],
  ["_law_script", "_law_k"], f_L_cell sg⟩
def d37 : LC.DInfo := ⟨"_law_purse", "_law_purse", tp 55, ["_law_cell_here", "_law_seed"],
  ["_law_cell_here"], f_L_purse sg⟩
def d38 : LC.DInfo := ⟨"_law_take", "_law_take", tp 56, ["_law_purse_here", "_law_many", "_law_digit", "_law_seed", "_law_factor"],
  ["_law_purse_here", "_law_many"], f_L_take sg⟩
def d39 : LC.DInfo := ⟨"_law_step", "_law_step", tp 57, ["_law_purse_here", "_law_some", "_law_wide", "_law_over", "_law_under", "_law_way", "_law_unit"],
  ["_law_purse_here"], f_L_step sg⟩
def d40 : LC.DInfo := ⟨"_law_steps", "_law_steps", tp 58, ["_law_purse_here", "_law_k"],
  ["_law_purse_here"], f_L_steps sg⟩
def d41 : LC.DInfo := ⟨"_law_word", "_law_word", tp 59, ["_law_purse_here", "_law_found", "_law_k"],
  ["_law_purse_here"], f_L_word sg⟩
def d42 : LC.DInfo := ⟨"_law_beside", "_law_beside", tp 60, ["_law_purse_here", "_law_word_here", "_law_way", "_law_sign", "_law_at"],
  ["_law_purse_here", "_law_word_here"], f_L_beside sg⟩
def d43 : LC.DInfo := ⟨"_law_words", "_law_words", tp 61, ["_law_purse_here", "_law_many", "_law_found", "_law_k", "_law_fresh", "_law_word_here"],
  ["_law_purse_here", "_law_many"], f_L_words sg⟩
def d44 : LC.DInfo := ⟨"_law_parts", "_law_parts", tp 62, ["_law_purse_here", "_law_words_here", "_law_heaps", "_law_sorts", "_law_k", "_law_word_here"],
  ["_law_purse_here"], f_L_parts sg⟩
def d45 : LC.DInfo := ⟨"_law_worth", "_law_worth", tp 63, ["_law_purse_here", "_law_way"],
  ["_law_purse_here"], f_L_worth sg⟩
def d46 : LC.DInfo := ⟨"_law_tab", "_law_tab", tp 64, ["_law_purse_here", "_law_words_here", "_law_most", "_law_found", "_law_k"],
  ["_law_purse_here", "_law_words_here", "_law_most"], f_L_tab sg⟩
def d47 : LC.DInfo := ⟨"_law_whole_part", "_law_whole_part", tp 65, ["_law_over", "_law_under", "_law_way", "_law_low", "_law_rest"],
  ["_law_over", "_law_under", "_law_way"], f_L_whole_part sg⟩
def d48 : LC.DInfo := ⟨"_law_led", "_law_led", tp 66, ["_law_row", "_law_worth_here", "_law_found", "_law_act"],
  ["_law_row", "_law_worth_here"], f_L_led sg⟩
def d49 : LC.DInfo := ⟨"_law_heaped", "_law_heaped", tp 67, ["_law_parts_here", "_law_tab_here", "_law_found", "_law_word_here", "_law_worth_here", "_law_entry"],
  ["_law_parts_here", "_law_tab_here"], f_L_heaped sg⟩
def d50 : LC.DInfo := ⟨"_law_due", "_law_due", tp 68, ["_law_parts_here", "_law_tab_here", "_law_sums", "_law_k"],
  ["_law_parts_here", "_law_tab_here"], f_L_due sg⟩
def d51 : LC.DInfo := ⟨"_law_step_text", "_law_step_text", tp 69, ["_law_act"],
  ["_law_act"], f_L_step_text sg⟩
def d52 : LC.DInfo := ⟨"_law_tail", "_law_tail", tp 70, ["_law_row", "_law_act"],
  ["_law_row"], f_L_tail sg⟩
def d53 : LC.DInfo := ⟨"_law_text", "_law_text", tp 71, ["_law_parts_here", "_law_found", "_law_k", "_law_entry"],
  ["_law_parts_here"], f_L_text sg⟩
def d54 : LC.DInfo := ⟨"_law_right", "_law_right", tp 72, ["_law_purse_here", "_law_latest", "_law_turn", "_law_parts_here", "_law_mine", "_law_line", "_law_mate", "_law_twin", "_law_found", "_law_told", "_law_words_here", "_law_again", "_law_tab_here", "_law_entry"],
  ["_law_purse_here"], f_L_right_k05 sg⟩
def d55 : LC.DInfo := ⟨"law", "law", tp 73, ["_law_script", "_law_line", "_law_mine", "_law_told", "_law_k"],
  ["_law_script"], f_L_law_k05 sg⟩
def dis : List LC.DInfo := [d0, d1, d2, d3, d4, d5, d6, d7, d8, d9, d10, d11, d12, d13, d14, d15, d16, d17, d18, d19, d20, d21, d22, d23, d24, d25, d26, d27, d28, d29, d30, d31, d32, d33, d34, d35, d36, d37, d38, d39, d40, d41, d42, d43, d44, d45, d46, d47, d48, d49, d50, d51, d52, d53, d54, d55]
def c0 : LC.Cls := { name := "Book", init := some 23, meths := [("kind_at", 29), ("sums", 30), ("ask", 31), ("ask_of_sums", 32), ("__eq__", 33), ("__str__", 34), ("__repr__", 35)], props := [("kinds", 25), ("groups", 26), ("whole", 27), ("names", 28)], flds := ["words", "sorts", "heaps", "last", "__bool__", "__len__"], cms := [("read", 24)] }
def cls : List LC.Cls := [c0]
def gt : LC.GT := { n := 56, fns := [(("is_integer" : PySem.Str), (0 : Nat)), (("is_between" : PySem.Str), (1 : Nat)), (("is_name" : PySem.Str), (2 : Nat)), (("number_of" : PySem.Str), (3 : Nat)), (("is_step" : PySem.Str), (4 : Nat)), (("wrong_step" : PySem.Str), (5 : Nat)), (("is_row_of_steps" : PySem.Str), (6 : Nat)), (("rounded" : PySem.Str), (7 : Nat)), (("led" : PySem.Str), (8 : Nat)), (("text_of_step" : PySem.Str), (9 : Nat)), (("text_of_steps" : PySem.Str), (10 : Nat)), (("step_of_text" : PySem.Str), (11 : Nat)), (("steps_of_text" : PySem.Str), (12 : Nat)), (("is_kind" : PySem.Str), (13 : Nat)), (("check_kinds" : PySem.Str), (14 : Nat)), (("check_groups" : PySem.Str), (15 : Nat)), (("check_places" : PySem.Str), (16 : Nat)), (("check_whole" : PySem.Str), (17 : Nat)), (("text_of" : PySem.Str), (18 : Nat)), (("parts_of_row" : PySem.Str), (19 : Nat)), (("kind_of_parts" : PySem.Str), (20 : Nat)), (("is_line" : PySem.Str), (21 : Nat)), (("check_bill" : PySem.Str), (22 : Nat)), (("_law_cell" : PySem.Str), (36 : Nat)), (("_law_purse" : PySem.Str), (37 : Nat)), (("_law_take" : PySem.Str), (38 : Nat)), (("_law_step" : PySem.Str), (39 : Nat)), (("_law_steps" : PySem.Str), (40 : Nat)), (("_law_word" : PySem.Str), (41 : Nat)), (("_law_beside" : PySem.Str), (42 : Nat)), (("_law_words" : PySem.Str), (43 : Nat)), (("_law_parts" : PySem.Str), (44 : Nat)), (("_law_worth" : PySem.Str), (45 : Nat)), (("_law_tab" : PySem.Str), (46 : Nat)), (("_law_whole_part" : PySem.Str), (47 : Nat)), (("_law_led" : PySem.Str), (48 : Nat)), (("_law_heaped" : PySem.Str), (49 : Nat)), (("_law_due" : PySem.Str), (50 : Nat)), (("_law_step_text" : PySem.Str), (51 : Nat)), (("_law_tail" : PySem.Str), (52 : Nat)), (("_law_text" : PySem.Str), (53 : Nat)), (("_law_right" : PySem.Str), (54 : Nat)), (("law" : PySem.Str), (55 : Nat))], noG := ["abs", "all", "bool", "divmod", "enumerate", "int", "isinstance", "len", "max", "min", "range", "repr", "str", "sum", "tuple", "zip"], kws := [(24, ["text"], [0, 1])], cls := cls }
def gl : List (Str × LC.D) := [("Book", .glb "Book"), ("DIGITS", .str "0123456789"), ("KIND_SIZE", .int 3), ("KIND_WORDS", .int 4), ("LETTERS", .str "abcdefghijklmnopqrstuvwxyz"), ("LONGEST_NAME", .int 8), ("MOST_FACTOR", .int 200), ("MOST_GROUPS", .int 3), ("MOST_KINDS", .int 4), ("MOST_PLUS", .int 9999), ("MOST_STEPS", .int 2), ("MOST_UNIT", .int 60), ("PLUS_SIZE", .int 2), ("TIMES_SIZE", .int 5), ("WAYS", .tup [.str "down", .str "up", .str "near down", .str "near up", .str "near even"])]
set_option maxRecDepth 100000 in
theorem ok : dis.all (LC.okD gt) = true := by decide +kernel
def Wn : Nat := 100000
abbrev Gp : LC.Prog := LC.progOf dis gt.cls gl Wn
instance : LC.HasD Gp (sg 3) (d_is_integer sg) := ⟨rfl⟩
instance : LC.HasD Gp (sg 4) (d_is_between sg) := ⟨rfl⟩
instance : LC.HasD Gp (sg 5) (d_is_name sg) := ⟨rfl⟩
instance : LC.HasD Gp (sg 335) (d_number_of sg) := ⟨rfl⟩
instance : LC.HasD Gp (sg 6) (d_is_step sg) := ⟨rfl⟩
instance : LC.HasD Gp (sg 7) (d_wrong_step sg) := ⟨rfl⟩
instance : LC.HasD Gp (sg 8) (d_is_row_of_steps sg) := ⟨rfl⟩
instance : LC.HasD Gp (sg 33) (d_rounded sg) := ⟨rfl⟩
instance : LC.HasD Gp (sg 34) (d_led sg) := ⟨rfl⟩
instance : LC.HasD Gp (sg 308) (d_text_of_step sg) := ⟨rfl⟩
instance : LC.HasD Gp (sg 309) (d_text_of_steps sg) := ⟨rfl⟩
instance : LC.HasD Gp (sg 336) (d_step_of_text sg) := ⟨rfl⟩
instance : LC.HasD Gp (sg 337) (d_steps_of_text sg) := ⟨rfl⟩
instance : LC.HasD Gp (sg 9) (d_is_kind sg) := ⟨rfl⟩
instance : LC.HasD Gp (sg 10) (d_check_kinds sg) := ⟨rfl⟩
instance : LC.HasD Gp (sg 11) (d_check_groups sg) := ⟨rfl⟩
instance : LC.HasD Gp (sg 12) (d_check_places sg) := ⟨rfl⟩
instance : LC.HasD Gp (sg 13) (d_check_whole sg) := ⟨rfl⟩
instance : LC.HasD Gp (sg 310) (d_text_of sg) := ⟨rfl⟩
instance : LC.HasD Gp (sg 338) (d_parts_of_row sg) := ⟨rfl⟩
instance : LC.HasD Gp (sg 339) (d_kind_of_parts sg) := ⟨rfl⟩
instance : LC.HasD Gp (sg 35) (d_is_line sg) := ⟨rfl⟩
instance : LC.HasD Gp (sg 36) (d_check_bill sg) := ⟨rfl⟩
instance : LC.HasD Gp (sg 14) (d_Book_init sg) := ⟨rfl⟩
instance : LC.HasD Gp (sg 340) (d_Book_read sg) := ⟨rfl⟩
instance : LC.HasD Gp (sg 15) (d_Book_kinds sg) := ⟨rfl⟩
instance : LC.HasD Gp (sg 16) (d_Book_groups sg) := ⟨rfl⟩
instance : LC.HasD Gp (sg 17) (d_Book_whole sg) := ⟨rfl⟩
instance : LC.HasD Gp (sg 18) (d_Book_names sg) := ⟨rfl⟩
instance : LC.HasD Gp (sg 37) (d_Book_kind_at sg) := ⟨rfl⟩
instance : LC.HasD Gp (sg 39) (d_Book_sums sg) := ⟨rfl⟩
instance : LC.HasD Gp (sg 40) (d_Book_ask sg) := ⟨rfl⟩
instance : LC.HasD Gp (sg 41) (d_Book_ask_of_sums sg) := ⟨rfl⟩
instance : LC.HasD Gp (sg 19) (d_Book_eq sg) := ⟨rfl⟩
instance : LC.HasD Gp (sg 20) (d_Book_str sg) := ⟨rfl⟩
instance : LC.HasD Gp (sg 21) (d_Book_repr sg) := ⟨rfl⟩
instance : LC.HasD Gp (sg 0) (d_L_cell sg) := ⟨rfl⟩
instance : LC.HasD Gp (sg 1) (d_L_purse sg) := ⟨rfl⟩
instance : LC.HasD Gp (sg 22) (d_L_take sg) := ⟨rfl⟩
instance : LC.HasD Gp (sg 23) (d_L_step sg) := ⟨rfl⟩
instance : LC.HasD Gp (sg 24) (d_L_steps sg) := ⟨rfl⟩
instance : LC.HasD Gp (sg 25) (d_L_word sg) := ⟨rfl⟩
instance : LC.HasD Gp (sg 26) (d_L_beside sg) := ⟨rfl⟩
instance : LC.HasD Gp (sg 27) (d_L_words sg) := ⟨rfl⟩
instance : LC.HasD Gp (sg 28) (d_L_parts sg) := ⟨rfl⟩
instance : LC.HasD Gp (sg 46) (d_L_worth sg) := ⟨rfl⟩
instance : LC.HasD Gp (sg 47) (d_L_tab sg) := ⟨rfl⟩
instance : LC.HasD Gp (sg 43) (d_L_whole_part sg) := ⟨rfl⟩
instance : LC.HasD Gp (sg 44) (d_L_led sg) := ⟨rfl⟩
instance : LC.HasD Gp (sg 48) (d_L_heaped sg) := ⟨rfl⟩
instance : LC.HasD Gp (sg 49) (d_L_due sg) := ⟨rfl⟩
instance : LC.HasD Gp (sg 311) (d_L_step_text sg) := ⟨rfl⟩
instance : LC.HasD Gp (sg 312) (d_L_tail sg) := ⟨rfl⟩
instance : LC.HasD Gp (sg 313) (d_L_text sg) := ⟨rfl⟩
instance : LC.HasD Gp (sg 31) (d_L_right_k05 sg) := ⟨rfl⟩
instance : LC.HasD Gp (sg 2) (d_L_law_k05 sg) := ⟨rfl⟩
instance : LC.HasC Gp "Book" := ⟨_, rfl⟩
instance : LC.HasI Gp "Book" (sg 14) := ⟨_, rfl, rfl⟩
instance : LC.HasM Gp "Book" "kind_at" (sg 37) := ⟨_, rfl, rfl⟩
instance : LC.HasM Gp "Book" "sums" (sg 39) := ⟨_, rfl, rfl⟩
instance : LC.HasM Gp "Book" "ask" (sg 40) := ⟨_, rfl, rfl⟩
instance : LC.HasM Gp "Book" "ask_of_sums" (sg 41) := ⟨_, rfl, rfl⟩
instance : LC.HasM Gp "Book" "__eq__" (sg 19) := ⟨_, rfl, rfl⟩
instance : LC.HasM Gp "Book" "__str__" (sg 20) := ⟨_, rfl, rfl⟩
instance : LC.HasM Gp "Book" "__repr__" (sg 21) := ⟨_, rfl, rfl⟩
instance : LC.HasP Gp "Book" "kinds" (sg 15) := ⟨_, rfl, by decide +kernel, rfl⟩
instance : LC.HasP Gp "Book" "groups" (sg 16) := ⟨_, rfl, by decide +kernel, rfl⟩
instance : LC.HasP Gp "Book" "whole" (sg 17) := ⟨_, rfl, by decide +kernel, rfl⟩
instance : LC.HasP Gp "Book" "names" (sg 18) := ⟨_, rfl, by decide +kernel, rfl⟩
instance : LC.HasK Gp "Book" "read" (sg 340) := ⟨_, rfl, rfl⟩
instance : LC.HasF Gp "Book" "words" := ⟨_, rfl, by decide +kernel⟩
instance : LC.HasF Gp "Book" "sorts" := ⟨_, rfl, by decide +kernel⟩
instance : LC.HasF Gp "Book" "heaps" := ⟨_, rfl, by decide +kernel⟩
instance : LC.HasF Gp "Book" "last" := ⟨_, rfl, by decide +kernel⟩
instance : LC.HasF Gp "Book" "__bool__" := ⟨_, rfl, by decide +kernel⟩
instance : LC.HasF Gp "Book" "__len__" := ⟨_, rfl, by decide +kernel⟩
instance : LC.HasG Gp "Book" (.glb "Book") := ⟨rfl⟩
instance : LC.HasG Gp "DIGITS" (.str "0123456789") := ⟨rfl⟩
instance : LC.HasG Gp "KIND_SIZE" (.int 3) := ⟨rfl⟩
instance : LC.HasG Gp "KIND_WORDS" (.int 4) := ⟨rfl⟩
instance : LC.HasG Gp "LETTERS" (.str "abcdefghijklmnopqrstuvwxyz") := ⟨rfl⟩
instance : LC.HasG Gp "LONGEST_NAME" (.int 8) := ⟨rfl⟩
instance : LC.HasG Gp "MOST_FACTOR" (.int 200) := ⟨rfl⟩
instance : LC.HasG Gp "MOST_GROUPS" (.int 3) := ⟨rfl⟩
instance : LC.HasG Gp "MOST_KINDS" (.int 4) := ⟨rfl⟩
instance : LC.HasG Gp "MOST_PLUS" (.int 9999) := ⟨rfl⟩
instance : LC.HasG Gp "MOST_STEPS" (.int 2) := ⟨rfl⟩
instance : LC.HasG Gp "MOST_UNIT" (.int 60) := ⟨rfl⟩
instance : LC.HasG Gp "PLUS_SIZE" (.int 2) := ⟨rfl⟩
instance : LC.HasG Gp "TIMES_SIZE" (.int 5) := ⟨rfl⟩
instance : LC.HasG Gp "WAYS" (.tup [.str "down", .str "up", .str "near down", .str "near up", .str "near even"]) := ⟨rfl⟩
section
open PySem PySem.Spec PyProof.Rows
set_option maxRecDepth 100000 in
set_option maxHeartbeats 4000000 in
theorem all_mk {K : PySem.W.Frag} {h : Heap} {mg : Str → Option Value} {fa C0 g0 g1 g2 g3 g4 g5 g6 g7 g8 g9 g10 g11 g12 g13 g14 g15 g16 g17 g18 g19 g20 g21 g22 g23 g24 g25 g26 g27 g28 g29 g30 g31 g32 g33 g34 g35 g36 g37 g38 g39 g40 g41 g42 g43 g44 g45 g46 g47 g48 g49 g50 g51 g52 g53 g54 g55 q24 q25 q26 q27 q28 : Addr} (X : K.In h) (G : h.Ns mainGlobals mg) (hfa : mg "law" = some (.ref fa))
    {od0 od1 od2 od3 od4 od5 od6 od7 od8 od9 od10 od11 od12 od13 od14 od15 od16 od17 od18 od19 od20 od21 od22 od23 od24 od25 od26 od27 od28 od29 od30 od31 od32 od33 od34 od35 od36 od37 od38 od39 od40 od41 od42 od43 od44 od45 od46 od47 od48 od49 od50 od51 od52 od53 od54 od55 an0 an1 an2 an3 an4 an5 an6 an7 an8 an9 an10 an11 an12 an13 an14 an15 an16 an17 an18 an19 an20 an21 an22 an23 an24 an25 an26 an27 an28 an29 an30 an31 an32 an33 an34 an35 an36 an37 an38 an39 an40 an41 an42 an43 an44 an45 an46 an47 an48 an49 an50 an51 an52 an53 an54 an55 : Option Addr} {sl0 sl1 sl2 sl3 sl4 sl5 sl6 sl7 sl8 sl9 sl10 sl11 sl12 sl13 sl14 sl15 sl16 sl17 sl18 sl19 sl20 sl21 sl22 sl23 sl24 sl25 sl26 sl27 sl28 sl29 sl30 sl31 sl32 sl33 sl34 sl35 sl36 sl37 sl38 sl39 sl40 sl41 sl42 sl43 sl44 sl45 sl46 sl47 sl48 sl49 sl50 sl51 sl52 sl53 sl54 sl55 : Array (Option Value)} {oc0 oc1 oc2 oc3 oc4 oc5 oc6 oc7 oc8 oc9 oc10 oc11 oc12 oc13 oc14 oc15 oc16 oc17 oc18 oc19 oc20 oc21 oc22 oc23 oc24 oc25 oc26 oc27 oc28 oc29 oc30 oc31 oc32 oc33 oc34 oc35 oc36 oc37 oc38 oc39 oc40 oc41 oc42 oc43 oc44 oc45 oc46 oc47 oc48 oc49 oc50 oc51 oc52 oc53 oc54 oc55 kV0 kV1 kV2 kV3 kV4 kV5 kV6 kV7 kV8 kV9 kV10 kV11 kV12 kV13 kV14 kV15 kV16 kV17 kV18 kV19 kV20 kV21 kV22 kV23 kV24 kV25 kV26 kV27 kV28 kV29 kV30 kV31 kV32 kV33 kV34 kV35 kV36 kV37 kV38 kV39 kV40 kV41 kV42 kV43 kV44 kV45 kV46 kV47 kV48 kV49 kV50 kV51 kV52 kV53 kV54 kV55 dc0 dc1 dc2 dc3 dc4 dc5 dc6 dc7 dc8 dc9 dc10 dc11 dc12 dc13 dc14 dc15 dc16 dc17 dc18 dc19 dc20 dc21 dc22 dc23 dc24 dc25 dc26 dc27 dc28 dc29 dc30 dc31 dc32 dc33 dc34 dc35 dc36 dc37 dc38 dc39 dc40 dc41 dc42 dc43 dc44 dc45 dc46 dc47 dc48 dc49 dc50 dc51 dc52 dc53 dc54 dc55 pm0 pm1 pm2 pm3 pm4 pm5 pm6 pm7 pm8 pm9 pm10 pm11 pm12 pm13 pm14 pm15 pm16 pm17 pm18 pm19 pm20 pm21 pm22 pm23 pm24 pm25 pm26 pm27 pm28 pm29 pm30 pm31 pm32 pm33 pm34 pm35 pm36 pm37 pm38 pm39 pm40 pm41 pm42 pm43 pm44 pm45 pm46 pm47 pm48 pm49 pm50 pm51 pm52 pm53 pm54 pm55 cd0 cd1 cd2 cd3 cd4 cd5 cd6 cd7 cd8 cd9 cd10 cd11 cd12 cd13 cd14 cd15 cd16 cd17 cd18 cd19 cd20 cd21 cd22 cd23 cd24 cd25 cd26 cd27 cd28 cd29 cd30 cd31 cd32 cd33 cd34 cd35 cd36 cd37 cd38 cd39 cd40 cd41 cd42 cd43 cd44 cd45 cd46 cd47 cd48 cd49 cd50 cd51 cd52 cd53 cd54 cd55 ct0 ct1 ct2 ct3 ct4 ct5 ct6 ct7 ct8 ct9 ct10 ct11 ct12 ct13 ct14 ct15 ct16 ct17 ct18 ct19 ct20 ct21 ct22 ct23 ct24 ct25 ct26 ct27 ct28 ct29 ct30 ct31 ct32 ct33 ct34 ct35 ct36 ct37 ct38 ct39 ct40 ct41 ct42 ct43 ct44 ct45 ct46 ct47 ct48 ct49 ct50 ct51 ct52 ct53 ct54 ct55 : Value} {rs24 rs25 rs26 rs27 rs28 : List Value} {te1 te2 te3 te4 te5 te6 te7 te8 te9 te10 te11 te12 te13 : Tok} {wa14 : Addr} {wd14 : Option Addr} {wn14 : Nat} {ws14 : Array (Option Value)} {wt14_0 wt14_1 wt14_2 wt14_3 wt14_4 : Tok}
    (aC0 : PySem.W.nsIn K mainGlobals "Book" = some (some (.ref C0))) (pg0 : PySem.W.plainGet K C0 Str.empty = true) (hd0 : PySem.W.hasDictIn K C0 = true) (po0 : PySem.W.plainOver K C0 = true)
    (sa0 : PySem.W.findIn K (.ref C0) "__setattr__" = some (some (.builtin "object.__setattr__"))) (cl0 : PySem.W.isClsIn K C0 = true) (ty0 : PySem.W.typeIn K (.ref C0) = some (.type "type")) (kc0 : PySem.W.findIn K (.ref C0) "__class__" = some (some (.builtin "object.__class__")))
    (ko0 : PySem.W.mroIn K C0 (.type "object") = some true) (nn0 : PySem.W.mroIn K C0 (.type "NoneType") = some false) (kn0 : PySem.W.findIn K (.ref C0) "__ne__" = some (some (.builtin "object.__ne__"))) (n0_0 : PySem.W.mroIn K C0 (.type "int") = some false)
    (n0_1 : PySem.W.mroIn K C0 (.type "bool") = some false) (n0_2 : PySem.W.mroIn K C0 (.type "str") = some false) (n0_3 : PySem.W.mroIn K C0 (.type "tuple") = some false) (n0_4 : PySem.W.mroIn K C0 (.type "list") = some false)
    (n0_5 : PySem.W.mroIn K C0 (.type "dict") = some false) (mk0 : PySem.W.makesIn K C0 = true) (kp0 : PySem.W.keepIn K (.ref C0) = true) (rd0 : PySem.W.readsIn K C0 (.type "type") = true)
    (gz0 : PySem.W.specialIn K (.ref C0) "__getattribute__" = some (some (.builtin "type.__getattribute__"))) (f0_0 : PySem.W.findIn K (.ref C0) "words" = some none) (f0_1 : PySem.W.findIn K (.ref C0) "sorts" = some none) (f0_2 : PySem.W.findIn K (.ref C0) "heaps" = some none)
    (f0_3 : PySem.W.findIn K (.ref C0) "last" = some none) (f0_4 : PySem.W.findIn K (.ref C0) "__bool__" = some none) (f0_5 : PySem.W.findIn K (.ref C0) "__len__" = some none) (kg : PySem.W.specialIn K (.builtin "object.__class__") "__get__" = some (some (.builtin "getset_descriptor.__get__")))
    (kt : PySem.W.takesIn K (.builtin "object.__class__") = some true) (a0 : PySem.W.nsIn K mainGlobals "is_integer" = some (some (.ref g0))) (l0 : K.lookup g0 = some ⟨oc0, od0, .func (PySem.W.fnOf "is_integer" "is_integer" (L2.defArgs (tp 21)) (L2.defBody (tp 21)) (L2.defScope (tp 21)) .none kV0 dc0 pm0 an0 cd0 ct0), sl0⟩) (c0 : PySem.W.codeIn K cd0 "is_integer" = true)
    (k0 : PySem.W.keepIn K (.ref g0) = true) (a1 : PySem.W.nsIn K mainGlobals "is_between" = some (some (.ref g1))) (l1 : K.lookup g1 = some ⟨oc1, od1, .func (PySem.W.fnOf "is_between" "is_between" (L2.defArgs (tp 22)) (L2.defBody (tp 22)) (L2.defScope (tp 22)) .none kV1 dc1 pm1 an1 cd1 ct1), sl1⟩) (c1 : PySem.W.codeIn K cd1 "is_between" = true)
    (k1 : PySem.W.keepIn K (.ref g1) = true) (a2 : PySem.W.nsIn K mainGlobals "is_name" = some (some (.ref g2))) (l2 : K.lookup g2 = some ⟨oc2, od2, .func (PySem.W.fnOf "is_name" "is_name" (L2.defArgs (tp 24)) (L2.defBody (tp 24)) (L2.defScope (tp 24)) .none kV2 dc2 pm2 an2 cd2 ct2), sl2⟩) (c2 : PySem.W.codeIn K cd2 "is_name" = true)
    (k2 : PySem.W.keepIn K (.ref g2) = true) (a3 : PySem.W.nsIn K mainGlobals "number_of" = some (some (.ref g3))) (l3 : K.lookup g3 = some ⟨oc3, od3, .func (PySem.W.fnOf "number_of" "number_of" (L2.defArgs (tp 25)) (L2.defBody (tp 25)) (L2.defScope (tp 25)) .none kV3 dc3 pm3 an3 cd3 ct3), sl3⟩) (c3 : PySem.W.codeIn K cd3 "number_of" = true)
    (k3 : PySem.W.keepIn K (.ref g3) = true) (a4 : PySem.W.nsIn K mainGlobals "is_step" = some (some (.ref g4))) (l4 : K.lookup g4 = some ⟨oc4, od4, .func (PySem.W.fnOf "is_step" "is_step" (L2.defArgs (tp 30)) (L2.defBody (tp 30)) (L2.defScope (tp 30)) .none kV4 dc4 pm4 an4 cd4 ct4), sl4⟩) (c4 : PySem.W.codeIn K cd4 "is_step" = true)
    (k4 : PySem.W.keepIn K (.ref g4) = true) (a5 : PySem.W.nsIn K mainGlobals "wrong_step" = some (some (.ref g5))) (l5 : K.lookup g5 = some ⟨oc5, od5, .func (PySem.W.fnOf "wrong_step" "wrong_step" (L2.defArgs (tp 31)) (L2.defBody (tp 31)) (L2.defScope (tp 31)) .none kV5 dc5 pm5 an5 cd5 ct5), sl5⟩) (c5 : PySem.W.codeIn K cd5 "wrong_step" = true)
    (k5 : PySem.W.keepIn K (.ref g5) = true) (a6 : PySem.W.nsIn K mainGlobals "is_row_of_steps" = some (some (.ref g6))) (l6 : K.lookup g6 = some ⟨oc6, od6, .func (PySem.W.fnOf "is_row_of_steps" "is_row_of_steps" (L2.defArgs (tp 32)) (L2.defBody (tp 32)) (L2.defScope (tp 32)) .none kV6 dc6 pm6 an6 cd6 ct6), sl6⟩) (c6 : PySem.W.codeIn K cd6 "is_row_of_steps" = true)
    (k6 : PySem.W.keepIn K (.ref g6) = true) (a7 : PySem.W.nsIn K mainGlobals "rounded" = some (some (.ref g7))) (l7 : K.lookup g7 = some ⟨oc7, od7, .func (PySem.W.fnOf "rounded" "rounded" (L2.defArgs (tp 33)) (L2.defBody (tp 33)) (L2.defScope (tp 33)) .none kV7 dc7 pm7 an7 cd7 ct7), sl7⟩) (c7 : PySem.W.codeIn K cd7 "rounded" = true)
    (k7 : PySem.W.keepIn K (.ref g7) = true) (a8 : PySem.W.nsIn K mainGlobals "led" = some (some (.ref g8))) (l8 : K.lookup g8 = some ⟨oc8, od8, .func (PySem.W.fnOf "led" "led" (L2.defArgs (tp 34)) (L2.defBody (tp 34)) (L2.defScope (tp 34)) .none kV8 dc8 pm8 an8 cd8 ct8), sl8⟩) (c8 : PySem.W.codeIn K cd8 "led" = true)
    (k8 : PySem.W.keepIn K (.ref g8) = true) (a9 : PySem.W.nsIn K mainGlobals "text_of_step" = some (some (.ref g9))) (l9 : K.lookup g9 = some ⟨oc9, od9, .func (PySem.W.fnOf "text_of_step" "text_of_step" (L2.defArgs (tp 35)) (L2.defBody (tp 35)) (L2.defScope (tp 35)) .none kV9 dc9 pm9 an9 cd9 ct9), sl9⟩) (c9 : PySem.W.codeIn K cd9 "text_of_step" = true)
    (k9 : PySem.W.keepIn K (.ref g9) = true) (a10 : PySem.W.nsIn K mainGlobals "text_of_steps" = some (some (.ref g10))) (l10 : K.lookup g10 = some ⟨oc10, od10, .func (PySem.W.fnOf "text_of_steps" "text_of_steps" (L2.defArgs (tp 36)) (L2.defBody (tp 36)) (L2.defScope (tp 36)) .none kV10 dc10 pm10 an10 cd10 ct10), sl10⟩) (c10 : PySem.W.codeIn K cd10 "text_of_steps" = true)
    (k10 : PySem.W.keepIn K (.ref g10) = true) (a11 : PySem.W.nsIn K mainGlobals "step_of_text" = some (some (.ref g11))) (l11 : K.lookup g11 = some ⟨oc11, od11, .func (PySem.W.fnOf "step_of_text" "step_of_text" (L2.defArgs (tp 37)) (L2.defBody (tp 37)) (L2.defScope (tp 37)) .none kV11 dc11 pm11 an11 cd11 ct11), sl11⟩) (c11 : PySem.W.codeIn K cd11 "step_of_text" = true)
    (k11 : PySem.W.keepIn K (.ref g11) = true) (a12 : PySem.W.nsIn K mainGlobals "steps_of_text" = some (some (.ref g12))) (l12 : K.lookup g12 = some ⟨oc12, od12, .func (PySem.W.fnOf "steps_of_text" "steps_of_text" (L2.defArgs (tp 38)) (L2.defBody (tp 38)) (L2.defScope (tp 38)) .none kV12 dc12 pm12 an12 cd12 ct12), sl12⟩) (c12 : PySem.W.codeIn K cd12 "steps_of_text" = true)
    (k12 : PySem.W.keepIn K (.ref g12) = true) (a13 : PySem.W.nsIn K mainGlobals "is_kind" = some (some (.ref g13))) (l13 : K.lookup g13 = some ⟨oc13, od13, .func (PySem.W.fnOf "is_kind" "is_kind" (L2.defArgs (tp 42)) (L2.defBody (tp 42)) (L2.defScope (tp 42)) .none kV13 dc13 pm13 an13 cd13 ct13), sl13⟩) (c13 : PySem.W.codeIn K cd13 "is_kind" = true)
    (k13 : PySem.W.keepIn K (.ref g13) = true) (a14 : PySem.W.nsIn K mainGlobals "check_kinds" = some (some (.ref g14))) (l14 : K.lookup g14 = some ⟨oc14, od14, .func (PySem.W.fnOf "check_kinds" "check_kinds" (L2.defArgs (tp 43)) (L2.defBody (tp 43)) (L2.defScope (tp 43)) .none kV14 dc14 pm14 an14 cd14 ct14), sl14⟩) (c14 : PySem.W.codeIn K cd14 "check_kinds" = true)
    (k14 : PySem.W.keepIn K (.ref g14) = true) (a15 : PySem.W.nsIn K mainGlobals "check_groups" = some (some (.ref g15))) (l15 : K.lookup g15 = some ⟨oc15, od15, .func (PySem.W.fnOf "check_groups" "check_groups" (L2.defArgs (tp 44)) (L2.defBody (tp 44)) (L2.defScope (tp 44)) .none kV15 dc15 pm15 an15 cd15 ct15), sl15⟩) (c15 : PySem.W.codeIn K cd15 "check_groups" = true)
    (k15 : PySem.W.keepIn K (.ref g15) = true) (a16 : PySem.W.nsIn K mainGlobals "check_places" = some (some (.ref g16))) (l16 : K.lookup g16 = some ⟨oc16, od16, .func (PySem.W.fnOf "check_places" "check_places" (L2.defArgs (tp 45)) (L2.defBody (tp 45)) (L2.defScope (tp 45)) .none kV16 dc16 pm16 an16 cd16 ct16), sl16⟩) (c16 : PySem.W.codeIn K cd16 "check_places" = true)
    (k16 : PySem.W.keepIn K (.ref g16) = true) (a17 : PySem.W.nsIn K mainGlobals "check_whole" = some (some (.ref g17))) (l17 : K.lookup g17 = some ⟨oc17, od17, .func (PySem.W.fnOf "check_whole" "check_whole" (L2.defArgs (tp 46)) (L2.defBody (tp 46)) (L2.defScope (tp 46)) .none kV17 dc17 pm17 an17 cd17 ct17), sl17⟩) (c17 : PySem.W.codeIn K cd17 "check_whole" = true)
    (k17 : PySem.W.keepIn K (.ref g17) = true) (a18 : PySem.W.nsIn K mainGlobals "text_of" = some (some (.ref g18))) (l18 : K.lookup g18 = some ⟨oc18, od18, .func (PySem.W.fnOf "text_of" "text_of" (L2.defArgs (tp 47)) (L2.defBody (tp 47)) (L2.defScope (tp 47)) .none kV18 dc18 pm18 an18 cd18 ct18), sl18⟩) (c18 : PySem.W.codeIn K cd18 "text_of" = true)
    (k18 : PySem.W.keepIn K (.ref g18) = true) (a19 : PySem.W.nsIn K mainGlobals "parts_of_row" = some (some (.ref g19))) (l19 : K.lookup g19 = some ⟨oc19, od19, .func (PySem.W.fnOf "parts_of_row" "parts_of_row" (L2.defArgs (tp 48)) (L2.defBody (tp 48)) (L2.defScope (tp 48)) .none kV19 dc19 pm19 an19 cd19 ct19), sl19⟩) (c19 : PySem.W.codeIn K cd19 "parts_of_row" = true)
    (k19 : PySem.W.keepIn K (.ref g19) = true) (a20 : PySem.W.nsIn K mainGlobals "kind_of_parts" = some (some (.ref g20))) (l20 : K.lookup g20 = some ⟨oc20, od20, .func (PySem.W.fnOf "kind_of_parts" "kind_of_parts" (L2.defArgs (tp 49)) (L2.defBody (tp 49)) (L2.defScope (tp 49)) .none kV20 dc20 pm20 an20 cd20 ct20), sl20⟩) (c20 : PySem.W.codeIn K cd20 "kind_of_parts" = true)
    (k20 : PySem.W.keepIn K (.ref g20) = true) (a21 : PySem.W.nsIn K mainGlobals "is_line" = some (some (.ref g21))) (l21 : K.lookup g21 = some ⟨oc21, od21, .func (PySem.W.fnOf "is_line" "is_line" (L2.defArgs (tp 50)) (L2.defBody (tp 50)) (L2.defScope (tp 50)) .none kV21 dc21 pm21 an21 cd21 ct21), sl21⟩) (c21 : PySem.W.codeIn K cd21 "is_line" = true)
    (k21 : PySem.W.keepIn K (.ref g21) = true) (a22 : PySem.W.nsIn K mainGlobals "check_bill" = some (some (.ref g22))) (l22 : K.lookup g22 = some ⟨oc22, od22, .func (PySem.W.fnOf "check_bill" "check_bill" (L2.defArgs (tp 51)) (L2.defBody (tp 51)) (L2.defScope (tp 51)) .none kV22 dc22 pm22 an22 cd22 ct22), sl22⟩) (c22 : PySem.W.codeIn K cd22 "check_bill" = true)
    (k22 : PySem.W.keepIn K (.ref g22) = true) (a23 : PySem.W.findIn K (.ref C0) "__init__" = some (some (.ref g23))) (i23 : PySem.W.isFn K (.ref g23) = true) (l23 : K.lookup g23 = some ⟨oc23, od23, .func (PySem.W.fnOf "__init__" "Book.__init__" (L2.defArgs (L2.inClass (tp 52) 0)) (L2.defBody (L2.inClass (tp 52) 0)) (L2.defScope (L2.inClass (tp 52) 0)) .none kV23 dc23 pm23 an23 cd23 ct23), sl23⟩)
    (c23 : PySem.W.codeIn K cd23 "Book.__init__" = true) (k23 : PySem.W.keepIn K (.ref g23) = true) (a24 : PySem.W.findCls K (.ref C0) (.type "type") "read" = some (.get (.builtin "classmethod.__get__") (.ref q24) .none (.ref C0))) (r24 : PySem.W.recIn K q24 "classmethod" = some (.ref g24 :: rs24))
    (i24 : PySem.W.fnIn K g24 = true) (l24 : K.lookup g24 = some ⟨oc24, od24, .func (PySem.W.fnOf "read" "Book.read" (L2.defArgs (L2.inClass (tp 52) 1)) (L2.defBody (L2.inClass (tp 52) 1)) (L2.defScope (L2.inClass (tp 52) 1)) .none kV24 dc24 pm24 an24 cd24 ct24), sl24⟩) (c24 : PySem.W.codeIn K cd24 "Book.read" = true) (k24 : PySem.W.keepIn K (.ref g24) = true)
    (a25 : PySem.W.findIn K (.ref C0) "kinds" = some (some (.ref q25))) (b25 : PySem.W.specialIn K (.ref q25) "__get__" = some (some (.builtin "property.__get__"))) (t25 : PySem.W.takesIn K (.ref q25) = some true) (r25 : PySem.W.recIn K q25 "property" = some (.ref g25 :: rs25))
    (l25 : K.lookup g25 = some ⟨oc25, od25, .func (PySem.W.fnOf "kinds" "Book.kinds" (L2.defArgs (L2.inClass (tp 52) 2)) (L2.defBody (L2.inClass (tp 52) 2)) (L2.defScope (L2.inClass (tp 52) 2)) .none kV25 dc25 pm25 an25 cd25 ct25), sl25⟩) (c25 : PySem.W.codeIn K cd25 "Book.kinds" = true) (k25 : PySem.W.keepIn K (.ref g25) = true) (a26 : PySem.W.findIn K (.ref C0) "groups" = some (some (.ref q26)))
    (b26 : PySem.W.specialIn K (.ref q26) "__get__" = some (some (.builtin "property.__get__"))) (t26 : PySem.W.takesIn K (.ref q26) = some true) (r26 : PySem.W.recIn K q26 "property" = some (.ref g26 :: rs26)) (l26 : K.lookup g26 = some ⟨oc26, od26, .func (PySem.W.fnOf "groups" "Book.groups" (L2.defArgs (L2.inClass (tp 52) 3)) (L2.defBody (L2.inClass (tp 52) 3)) (L2.defScope (L2.inClass (tp 52) 3)) .none kV26 dc26 pm26 an26 cd26 ct26), sl26⟩)
    (c26 : PySem.W.codeIn K cd26 "Book.groups" = true) (k26 : PySem.W.keepIn K (.ref g26) = true) (a27 : PySem.W.findIn K (.ref C0) "whole" = some (some (.ref q27))) (b27 : PySem.W.specialIn K (.ref q27) "__get__" = some (some (.builtin "property.__get__")))
    (t27 : PySem.W.takesIn K (.ref q27) = some true) (r27 : PySem.W.recIn K q27 "property" = some (.ref g27 :: rs27)) (l27 : K.lookup g27 = some ⟨oc27, od27, .func (PySem.W.fnOf "whole" "Book.whole" (L2.defArgs (L2.inClass (tp 52) 4)) (L2.defBody (L2.inClass (tp 52) 4)) (L2.defScope (L2.inClass (tp 52) 4)) .none kV27 dc27 pm27 an27 cd27 ct27), sl27⟩) (c27 : PySem.W.codeIn K cd27 "Book.whole" = true)
    (k27 : PySem.W.keepIn K (.ref g27) = true) (a28 : PySem.W.findIn K (.ref C0) "names" = some (some (.ref q28))) (b28 : PySem.W.specialIn K (.ref q28) "__get__" = some (some (.builtin "property.__get__"))) (t28 : PySem.W.takesIn K (.ref q28) = some true)
    (r28 : PySem.W.recIn K q28 "property" = some (.ref g28 :: rs28)) (l28 : K.lookup g28 = some ⟨oc28, od28, .func (PySem.W.fnOf "names" "Book.names" (L2.defArgs (L2.inClass (tp 52) 5)) (L2.defBody (L2.inClass (tp 52) 5)) (L2.defScope (L2.inClass (tp 52) 5)) .none kV28 dc28 pm28 an28 cd28 ct28), sl28⟩) (c28 : PySem.W.codeIn K cd28 "Book.names" = true) (k28 : PySem.W.keepIn K (.ref g28) = true)
    (a29 : PySem.W.findIn K (.ref C0) "kind_at" = some (some (.ref g29))) (i29 : PySem.W.isFn K (.ref g29) = true) (l29 : K.lookup g29 = some ⟨oc29, od29, .func (PySem.W.fnOf "kind_at" "Book.kind_at" (L2.defArgs (L2.inClass (tp 52) 6)) (L2.defBody (L2.inClass (tp 52) 6)) (L2.defScope (L2.inClass (tp 52) 6)) .none kV29 dc29 pm29 an29 cd29 ct29), sl29⟩) (c29 : PySem.W.codeIn K cd29 "Book.kind_at" = true)
    (k29 : PySem.W.keepIn K (.ref g29) = true) (a30 : PySem.W.findIn K (.ref C0) "sums" = some (some (.ref g30))) (i30 : PySem.W.isFn K (.ref g30) = true) (l30 : K.lookup g30 = some ⟨oc30, od30, .func (PySem.W.fnOf "sums" "Book.sums" (L2.defArgs (L2.inClass (tp 52) 13)) (L2.defBody (L2.inClass (tp 52) 13)) (L2.defScope (L2.inClass (tp 52) 13)) .none kV30 dc30 pm30 an30 cd30 ct30), sl30⟩)
    (c30 : PySem.W.codeIn K cd30 "Book.sums" = true) (k30 : PySem.W.keepIn K (.ref g30) = true) (a31 : PySem.W.findIn K (.ref C0) "ask" = some (some (.ref g31))) (i31 : PySem.W.isFn K (.ref g31) = true)
    (l31 : K.lookup g31 = some ⟨oc31, od31, .func (PySem.W.fnOf "ask" "Book.ask" (L2.defArgs (L2.inClass (tp 52) 14)) (L2.defBody (L2.inClass (tp 52) 14)) (L2.defScope (L2.inClass (tp 52) 14)) .none kV31 dc31 pm31 an31 cd31 ct31), sl31⟩) (c31 : PySem.W.codeIn K cd31 "Book.ask" = true) (k31 : PySem.W.keepIn K (.ref g31) = true) (a32 : PySem.W.findIn K (.ref C0) "ask_of_sums" = some (some (.ref g32)))
    (i32 : PySem.W.isFn K (.ref g32) = true) (l32 : K.lookup g32 = some ⟨oc32, od32, .func (PySem.W.fnOf "ask_of_sums" "Book.ask_of_sums" (L2.defArgs (L2.inClass (tp 52) 15)) (L2.defBody (L2.inClass (tp 52) 15)) (L2.defScope (L2.inClass (tp 52) 15)) .none kV32 dc32 pm32 an32 cd32 ct32), sl32⟩) (c32 : PySem.W.codeIn K cd32 "Book.ask_of_sums" = true) (k32 : PySem.W.keepIn K (.ref g32) = true)
    (a33 : PySem.W.findIn K (.ref C0) "__eq__" = some (some (.ref g33))) (i33 : PySem.W.isFn K (.ref g33) = true) (l33 : K.lookup g33 = some ⟨oc33, od33, .func (PySem.W.fnOf "__eq__" "Book.__eq__" (L2.defArgs (L2.inClass (tp 52) 16)) (L2.defBody (L2.inClass (tp 52) 16)) (L2.defScope (L2.inClass (tp 52) 16)) .none kV33 dc33 pm33 an33 cd33 ct33), sl33⟩) (c33 : PySem.W.codeIn K cd33 "Book.__eq__" = true)
    (k33 : PySem.W.keepIn K (.ref g33) = true) (a34 : PySem.W.findIn K (.ref C0) "__str__" = some (some (.ref g34))) (i34 : PySem.W.isFn K (.ref g34) = true) (l34 : K.lookup g34 = some ⟨oc34, od34, .func (PySem.W.fnOf "__str__" "Book.__str__" (L2.defArgs (L2.inClass (tp 52) 17)) (L2.defBody (L2.inClass (tp 52) 17)) (L2.defScope (L2.inClass (tp 52) 17)) .none kV34 dc34 pm34 an34 cd34 ct34), sl34⟩)
    (c34 : PySem.W.codeIn K cd34 "Book.__str__" = true) (k34 : PySem.W.keepIn K (.ref g34) = true) (a35 : PySem.W.findIn K (.ref C0) "__repr__" = some (some (.ref g35))) (i35 : PySem.W.isFn K (.ref g35) = true)
    (l35 : K.lookup g35 = some ⟨oc35, od35, .func (PySem.W.fnOf "__repr__" "Book.__repr__" (L2.defArgs (L2.inClass (tp 52) 18)) (L2.defBody (L2.inClass (tp 52) 18)) (L2.defScope (L2.inClass (tp 52) 18)) .none kV35 dc35 pm35 an35 cd35 ct35), sl35⟩) (c35 : PySem.W.codeIn K cd35 "Book.__repr__" = true) (k35 : PySem.W.keepIn K (.ref g35) = true) (a36 : PySem.W.nsIn K mainGlobals "_law_cell" = some (some (.ref g36)))
    (l36 : K.lookup g36 = some ⟨oc36, od36, .func (PySem.W.fnOf "_law_cell" "_law_cell" (L2.defArgs (tp 54)) (L2.defBody (tp 54)) (L2.defScope (tp 54)) .none kV36 dc36 pm36 an36 cd36 ct36), sl36⟩) (c36 : PySem.W.codeIn K cd36 "_law_cell" = true) (k36 : PySem.W.keepIn K (.ref g36) = true) (a37 : PySem.W.nsIn K mainGlobals "_law_purse" = some (some (.ref g37)))
    (l37 : K.lookup g37 = some ⟨oc37, od37, .func (PySem.W.fnOf "_law_purse" "_law_purse" (L2.defArgs (tp 55)) (L2.defBody (tp 55)) (L2.defScope (tp 55)) .none kV37 dc37 pm37 an37 cd37 ct37), sl37⟩) (c37 : PySem.W.codeIn K cd37 "_law_purse" = true) (k37 : PySem.W.keepIn K (.ref g37) = true) (a38 : PySem.W.nsIn K mainGlobals "_law_take" = some (some (.ref g38)))
    (l38 : K.lookup g38 = some ⟨oc38, od38, .func (PySem.W.fnOf "_law_take" "_law_take" (L2.defArgs (tp 56)) (L2.defBody (tp 56)) (L2.defScope (tp 56)) .none kV38 dc38 pm38 an38 cd38 ct38), sl38⟩) (c38 : PySem.W.codeIn K cd38 "_law_take" = true) (k38 : PySem.W.keepIn K (.ref g38) = true) (a39 : PySem.W.nsIn K mainGlobals "_law_step" = some (some (.ref g39)))
    (l39 : K.lookup g39 = some ⟨oc39, od39, .func (PySem.W.fnOf "_law_step" "_law_step" (L2.defArgs (tp 57)) (L2.defBody (tp 57)) (L2.defScope (tp 57)) .none kV39 dc39 pm39 an39 cd39 ct39), sl39⟩) (c39 : PySem.W.codeIn K cd39 "_law_step" = true) (k39 : PySem.W.keepIn K (.ref g39) = true) (a40 : PySem.W.nsIn K mainGlobals "_law_steps" = some (some (.ref g40)))
    (l40 : K.lookup g40 = some ⟨oc40, od40, .func (PySem.W.fnOf "_law_steps" "_law_steps" (L2.defArgs (tp 58)) (L2.defBody (tp 58)) (L2.defScope (tp 58)) .none kV40 dc40 pm40 an40 cd40 ct40), sl40⟩) (c40 : PySem.W.codeIn K cd40 "_law_steps" = true) (k40 : PySem.W.keepIn K (.ref g40) = true) (a41 : PySem.W.nsIn K mainGlobals "_law_word" = some (some (.ref g41)))
    (l41 : K.lookup g41 = some ⟨oc41, od41, .func (PySem.W.fnOf "_law_word" "_law_word" (L2.defArgs (tp 59)) (L2.defBody (tp 59)) (L2.defScope (tp 59)) .none kV41 dc41 pm41 an41 cd41 ct41), sl41⟩) (c41 : PySem.W.codeIn K cd41 "_law_word" = true) (k41 : PySem.W.keepIn K (.ref g41) = true) (a42 : PySem.W.nsIn K mainGlobals "_law_beside" = some (some (.ref g42)))
    (l42 : K.lookup g42 = some ⟨oc42, od42, .func (PySem.W.fnOf "_law_beside" "_law_beside" (L2.defArgs (tp 60)) (L2.defBody (tp 60)) (L2.defScope (tp 60)) .none kV42 dc42 pm42 an42 cd42 ct42), sl42⟩) (c42 : PySem.W.codeIn K cd42 "_law_beside" = true) (k42 : PySem.W.keepIn K (.ref g42) = true) (a43 : PySem.W.nsIn K mainGlobals "_law_words" = some (some (.ref g43)))
    (l43 : K.lookup g43 = some ⟨oc43, od43, .func (PySem.W.fnOf "_law_words" "_law_words" (L2.defArgs (tp 61)) (L2.defBody (tp 61)) (L2.defScope (tp 61)) .none kV43 dc43 pm43 an43 cd43 ct43), sl43⟩) (c43 : PySem.W.codeIn K cd43 "_law_words" = true) (k43 : PySem.W.keepIn K (.ref g43) = true) (a44 : PySem.W.nsIn K mainGlobals "_law_parts" = some (some (.ref g44)))
    (l44 : K.lookup g44 = some ⟨oc44, od44, .func (PySem.W.fnOf "_law_parts" "_law_parts" (L2.defArgs (tp 62)) (L2.defBody (tp 62)) (L2.defScope (tp 62)) .none kV44 dc44 pm44 an44 cd44 ct44), sl44⟩) (c44 : PySem.W.codeIn K cd44 "_law_parts" = true) (k44 : PySem.W.keepIn K (.ref g44) = true) (a45 : PySem.W.nsIn K mainGlobals "_law_worth" = some (some (.ref g45)))
    (l45 : K.lookup g45 = some ⟨oc45, od45, .func (PySem.W.fnOf "_law_worth" "_law_worth" (L2.defArgs (tp 63)) (L2.defBody (tp 63)) (L2.defScope (tp 63)) .none kV45 dc45 pm45 an45 cd45 ct45), sl45⟩) (c45 : PySem.W.codeIn K cd45 "_law_worth" = true) (k45 : PySem.W.keepIn K (.ref g45) = true) (a46 : PySem.W.nsIn K mainGlobals "_law_tab" = some (some (.ref g46)))
    (l46 : K.lookup g46 = some ⟨oc46, od46, .func (PySem.W.fnOf "_law_tab" "_law_tab" (L2.defArgs (tp 64)) (L2.defBody (tp 64)) (L2.defScope (tp 64)) .none kV46 dc46 pm46 an46 cd46 ct46), sl46⟩) (c46 : PySem.W.codeIn K cd46 "_law_tab" = true) (k46 : PySem.W.keepIn K (.ref g46) = true) (a47 : PySem.W.nsIn K mainGlobals "_law_whole_part" = some (some (.ref g47)))
    (l47 : K.lookup g47 = some ⟨oc47, od47, .func (PySem.W.fnOf "_law_whole_part" "_law_whole_part" (L2.defArgs (tp 65)) (L2.defBody (tp 65)) (L2.defScope (tp 65)) .none kV47 dc47 pm47 an47 cd47 ct47), sl47⟩) (c47 : PySem.W.codeIn K cd47 "_law_whole_part" = true) (k47 : PySem.W.keepIn K (.ref g47) = true) (a48 : PySem.W.nsIn K mainGlobals "_law_led" = some (some (.ref g48)))
    (l48 : K.lookup g48 = some ⟨oc48, od48, .func (PySem.W.fnOf "_law_led" "_law_led" (L2.defArgs (tp 66)) (L2.defBody (tp 66)) (L2.defScope (tp 66)) .none kV48 dc48 pm48 an48 cd48 ct48), sl48⟩) (c48 : PySem.W.codeIn K cd48 "_law_led" = true) (k48 : PySem.W.keepIn K (.ref g48) = true) (a49 : PySem.W.nsIn K mainGlobals "_law_heaped" = some (some (.ref g49)))
    (l49 : K.lookup g49 = some ⟨oc49, od49, .func (PySem.W.fnOf "_law_heaped" "_law_heaped" (L2.defArgs (tp 67)) (L2.defBody (tp 67)) (L2.defScope (tp 67)) .none kV49 dc49 pm49 an49 cd49 ct49), sl49⟩) (c49 : PySem.W.codeIn K cd49 "_law_heaped" = true) (k49 : PySem.W.keepIn K (.ref g49) = true) (a50 : PySem.W.nsIn K mainGlobals "_law_due" = some (some (.ref g50)))
    (l50 : K.lookup g50 = some ⟨oc50, od50, .func (PySem.W.fnOf "_law_due" "_law_due" (L2.defArgs (tp 68)) (L2.defBody (tp 68)) (L2.defScope (tp 68)) .none kV50 dc50 pm50 an50 cd50 ct50), sl50⟩) (c50 : PySem.W.codeIn K cd50 "_law_due" = true) (k50 : PySem.W.keepIn K (.ref g50) = true) (a51 : PySem.W.nsIn K mainGlobals "_law_step_text" = some (some (.ref g51)))
    (l51 : K.lookup g51 = some ⟨oc51, od51, .func (PySem.W.fnOf "_law_step_text" "_law_step_text" (L2.defArgs (tp 69)) (L2.defBody (tp 69)) (L2.defScope (tp 69)) .none kV51 dc51 pm51 an51 cd51 ct51), sl51⟩) (c51 : PySem.W.codeIn K cd51 "_law_step_text" = true) (k51 : PySem.W.keepIn K (.ref g51) = true) (a52 : PySem.W.nsIn K mainGlobals "_law_tail" = some (some (.ref g52)))
    (l52 : K.lookup g52 = some ⟨oc52, od52, .func (PySem.W.fnOf "_law_tail" "_law_tail" (L2.defArgs (tp 70)) (L2.defBody (tp 70)) (L2.defScope (tp 70)) .none kV52 dc52 pm52 an52 cd52 ct52), sl52⟩) (c52 : PySem.W.codeIn K cd52 "_law_tail" = true) (k52 : PySem.W.keepIn K (.ref g52) = true) (a53 : PySem.W.nsIn K mainGlobals "_law_text" = some (some (.ref g53)))
    (l53 : K.lookup g53 = some ⟨oc53, od53, .func (PySem.W.fnOf "_law_text" "_law_text" (L2.defArgs (tp 71)) (L2.defBody (tp 71)) (L2.defScope (tp 71)) .none kV53 dc53 pm53 an53 cd53 ct53), sl53⟩) (c53 : PySem.W.codeIn K cd53 "_law_text" = true) (k53 : PySem.W.keepIn K (.ref g53) = true) (a54 : PySem.W.nsIn K mainGlobals "_law_right" = some (some (.ref g54)))
    (l54 : K.lookup g54 = some ⟨oc54, od54, .func (PySem.W.fnOf "_law_right" "_law_right" (L2.defArgs (tp 72)) (L2.defBody (tp 72)) (L2.defScope (tp 72)) .none kV54 dc54 pm54 an54 cd54 ct54), sl54⟩) (c54 : PySem.W.codeIn K cd54 "_law_right" = true) (k54 : PySem.W.keepIn K (.ref g54) = true) (a55 : PySem.W.nsIn K mainGlobals "law" = some (some (.ref g55)))
    (l55 : K.lookup g55 = some ⟨oc55, od55, .func (PySem.W.fnOf "law" "law" (L2.defArgs (tp 73)) (L2.defBody (tp 73)) (L2.defScope (tp 73)) .none kV55 dc55 pm55 an55 cd55 ct55), sl55⟩) (c55 : PySem.W.codeIn K cd55 "law" = true) (k55 : PySem.W.keepIn K (.ref g55) = true) (z0 : PySem.W.nsIn K mainGlobals "abs" = some none)
    (z1 : PySem.W.nsIn K mainGlobals "all" = some none) (z2 : PySem.W.nsIn K mainGlobals "bool" = some none) (z3 : PySem.W.nsIn K mainGlobals "divmod" = some none) (z4 : PySem.W.nsIn K mainGlobals "enumerate" = some none)
    (z5 : PySem.W.nsIn K mainGlobals "int" = some none) (z6 : PySem.W.nsIn K mainGlobals "isinstance" = some none) (z7 : PySem.W.nsIn K mainGlobals "len" = some none) (z8 : PySem.W.nsIn K mainGlobals "max" = some none)
    (z9 : PySem.W.nsIn K mainGlobals "min" = some none) (z10 : PySem.W.nsIn K mainGlobals "range" = some none) (z11 : PySem.W.nsIn K mainGlobals "repr" = some none) (z12 : PySem.W.nsIn K mainGlobals "str" = some none)
    (z13 : PySem.W.nsIn K mainGlobals "sum" = some none) (z14 : PySem.W.nsIn K mainGlobals "tuple" = some none) (z15 : PySem.W.nsIn K mainGlobals "zip" = some none) (e1 : PySem.W.nsIn K mainGlobals "DIGITS" = some (some (.str "0123456789" te1)))
    (e2 : PySem.W.nsIn K mainGlobals "KIND_SIZE" = some (some (.int 3 te2))) (e3 : PySem.W.nsIn K mainGlobals "KIND_WORDS" = some (some (.int 4 te3))) (e4 : PySem.W.nsIn K mainGlobals "LETTERS" = some (some (.str "abcdefghijklmnopqrstuvwxyz" te4))) (e5 : PySem.W.nsIn K mainGlobals "LONGEST_NAME" = some (some (.int 8 te5)))
    (e6 : PySem.W.nsIn K mainGlobals "MOST_FACTOR" = some (some (.int 200 te6))) (e7 : PySem.W.nsIn K mainGlobals "MOST_GROUPS" = some (some (.int 3 te7))) (e8 : PySem.W.nsIn K mainGlobals "MOST_KINDS" = some (some (.int 4 te8))) (e9 : PySem.W.nsIn K mainGlobals "MOST_PLUS" = some (some (.int 9999 te9)))
    (e10 : PySem.W.nsIn K mainGlobals "MOST_STEPS" = some (some (.int 2 te10))) (e11 : PySem.W.nsIn K mainGlobals "MOST_UNIT" = some (some (.int 60 te11))) (e12 : PySem.W.nsIn K mainGlobals "PLUS_SIZE" = some (some (.int 2 te12))) (e13 : PySem.W.nsIn K mainGlobals "TIMES_SIZE" = some (some (.int 5 te13)))
    (e14 : PySem.W.nsIn K mainGlobals "WAYS" = some (some (.ref wa14))) (w14 : K.lookup wa14 = some ⟨.type "tuple", wd14, .seq #[.str "down" wt14_0, .str "up" wt14_1, .str "near down" wt14_2, .str "near up" wt14_3, .str "near even" wt14_4] wn14, ws14⟩)
    : ∃ (ts : List LC.DefAt) (ca : Str → Addr), LC.Pg K mg gt dis gl ts ca ∧ 55 < gt.n ∧ (LC.tbOf ts 55).ad = fa ∧ (LC.tbOf ts 55).ps = ([("_law_script" : Str)]) ∧ ∀ (s : Shared) (u : Value), BindsTo s (LC.tbOf ts 55).fd ⟨[u], []⟩ [("_law_script", u)] := by
  have e := hfa.symm.trans (PySem.W.mg_of X G a55)
  cases e
  have F0 := L2.fun_mk (st := tp 21) l0 c0 k0
  have B0 := F0.binds (ps := d0.ps) fun _ _ _ _ _ _ us hl => match us, hl with | [_], _ => rfl
  have F1 := L2.fun_mk (st := tp 22) l1 c1 k1
  have B1 := F1.binds (ps := d1.ps) fun _ _ _ _ _ _ us hl => match us, hl with | [_, _, _], _ => rfl
  have F2 := L2.fun_mk (st := tp 24) l2 c2 k2
  have B2 := F2.binds (ps := d2.ps) fun _ _ _ _ _ _ us hl => match us, hl with | [_], _ => rfl
  have F3 := L2.fun_mk (st := tp 25) l3 c3 k3
  have B3 := F3.binds (ps := d3.ps) fun _ _ _ _ _ _ us hl => match us, hl with | [_], _ => rfl
  have F4 := L2.fun_mk (st := tp 30) l4 c4 k4
  have B4 := F4.binds (ps := d4.ps) fun _ _ _ _ _ _ us hl => match us, hl with | [_], _ => rfl
  have F5 := L2.fun_mk (st := tp 31) l5 c5 k5
  have B5 := F5.binds (ps := d5.ps) fun _ _ _ _ _ _ us hl => match us, hl with | [_], _ => rfl
  have F6 := L2.fun_mk (st := tp 32) l6 c6 k6
  have B6 := F6.binds (ps := d6.ps) fun _ _ _ _ _ _ us hl => match us, hl with | [_], _ => rfl
  have F7 := L2.fun_mk (st := tp 33) l7 c7 k7
  have B7 := F7.binds (ps := d7.ps) fun _ _ _ _ _ _ us hl => match us, hl with | [_, _, _], _ => rfl
  have F8 := L2.fun_mk (st := tp 34) l8 c8 k8
  have B8 := F8.binds (ps := d8.ps) fun _ _ _ _ _ _ us hl => match us, hl with | [_, _], _ => rfl
  have F9 := L2.fun_mk (st := tp 35) l9 c9 k9
  have B9 := F9.binds (ps := d9.ps) fun _ _ _ _ _ _ us hl => match us, hl with | [_], _ => rfl
  have F10 := L2.fun_mk (st := tp 36) l10 c10 k10
  have B10 := F10.binds (ps := d10.ps) fun _ _ _ _ _ _ us hl => match us, hl with | [_], _ => rfl
  have F11 := L2.fun_mk (st := tp 37) l11 c11 k11
  have B11 := F11.binds (ps := d11.ps) fun _ _ _ _ _ _ us hl => match us, hl with | [_], _ => rfl
  have F12 := L2.fun_mk (st := tp 38) l12 c12 k12
  have B12 := F12.binds (ps := d12.ps) fun _ _ _ _ _ _ us hl => match us, hl with | [_], _ => rfl
  have F13 := L2.fun_mk (st := tp 42) l13 c13 k13
  have B13 := F13.binds (ps := d13.ps) fun _ _ _ _ _ _ us hl => match us, hl with | [_], _ => rfl
  have F14 := L2.fun_mk (st := tp 43) l14 c14 k14
  have B14 := F14.binds (ps := d14.ps) fun _ _ _ _ _ _ us hl => match us, hl with | [_], _ => rfl
  have F15 := L2.fun_mk (st := tp 44) l15 c15 k15
  have B15 := F15.binds (ps := d15.ps) fun _ _ _ _ _ _ us hl => match us, hl with | [_], _ => rfl
  have F16 := L2.fun_mk (st := tp 45) l16 c16 k16
  have B16 := F16.binds (ps := d16.ps) fun _ _ _ _ _ _ us hl => match us, hl with | [_, _], _ => rfl
  have F17 := L2.fun_mk (st := tp 46) l17 c17 k17
  have B17 := F17.binds (ps := d17.ps) fun _ _ _ _ _ _ us hl => match us, hl with | [_], _ => rfl
  have F18 := L2.fun_mk (st := tp 47) l18 c18 k18
  have B18 := F18.binds (ps := d18.ps) fun _ _ _ _ _ _ us hl => match us, hl with | [_, _, _], _ => rfl
  have F19 := L2.fun_mk (st := tp 48) l19 c19 k19
  have B19 := F19.binds (ps := d19.ps) fun _ _ _ _ _ _ us hl => match us, hl with | [_], _ => rfl
  have F20 := L2.fun_mk (st := tp 49) l20 c20 k20
  have B20 := F20.binds (ps := d20.ps) fun _ _ _ _ _ _ us hl => match us, hl with | [_, _], _ => rfl
  have F21 := L2.fun_mk (st := tp 50) l21 c21 k21
  have B21 := F21.binds (ps := d21.ps) fun _ _ _ _ _ _ us hl => match us, hl with | [_, _], _ => rfl
  have F22 := L2.fun_mk (st := tp 51) l22 c22 k22
  have B22 := F22.binds (ps := d22.ps) fun _ _ _ _ _ _ us hl => match us, hl with | [_, _], _ => rfl
  have F23 := L2.fun_mk (st := L2.inClass (tp 52) 0) l23 c23 k23
  have B23 := F23.binds (ps := d23.ps) fun _ _ _ _ _ _ us hl => match us, hl with | [_, _, _, _], _ => rfl
  have F24 := L2.fun_mk (st := L2.inClass (tp 52) 1) l24 c24 k24
  have B24 := F24.binds (ps := d24.ps) fun _ _ _ _ _ _ us hl => match us, hl with | [_, _], _ => rfl
  have F25 := L2.fun_mk (st := L2.inClass (tp 52) 2) l25 c25 k25
  have B25 := F25.binds (ps := d25.ps) fun _ _ _ _ _ _ us hl => match us, hl with | [_], _ => rfl
  have F26 := L2.fun_mk (st := L2.inClass (tp 52) 3) l26 c26 k26
  have B26 := F26.binds (ps := d26.ps) fun _ _ _ _ _ _ us hl => match us, hl with | [_], _ => rfl
  have F27 := L2.fun_mk (st := L2.inClass (tp 52) 4) l27 c27 k27
  have B27 := F27.binds (ps := d27.ps) fun _ _ _ _ _ _ us hl => match us, hl with | [_], _ => rfl
  have F28 := L2.fun_mk (st := L2.inClass (tp 52) 5) l28 c28 k28
  have B28 := F28.binds (ps := d28.ps) fun _ _ _ _ _ _ us hl => match us, hl with | [_], _ => rfl
  have F29 := L2.fun_mk (st := L2.inClass (tp 52) 6) l29 c29 k29
  have B29 := F29.binds (ps := d29.ps) fun _ _ _ _ _ _ us hl => match us, hl with | [_, _], _ => rfl
  have F30 := L2.fun_mk (st := L2.inClass (tp 52) 13) l30 c30 k30
  have B30 := F30.binds (ps := d30.ps) fun _ _ _ _ _ _ us hl => match us, hl with | [_, _], _ => rfl
  have F31 := L2.fun_mk (st := L2.inClass (tp 52) 14) l31 c31 k31
  have B31 := F31.binds (ps := d31.ps) fun _ _ _ _ _ _ us hl => match us, hl with | [_, _], _ => rfl
  have F32 := L2.fun_mk (st := L2.inClass (tp 52) 15) l32 c32 k32
  have B32 := F32.binds (ps := d32.ps) fun _ _ _ _ _ _ us hl => match us, hl with | [_, _], _ => rfl
  have F33 := L2.fun_mk (st := L2.inClass (tp 52) 16) l33 c33 k33
  have B33 := F33.binds (ps := d33.ps) fun _ _ _ _ _ _ us hl => match us, hl with | [_, _], _ => rfl
  have F34 := L2.fun_mk (st := L2.inClass (tp 52) 17) l34 c34 k34
  have B34 := F34.binds (ps := d34.ps) fun _ _ _ _ _ _ us hl => match us, hl with | [_], _ => rfl
  have F35 := L2.fun_mk (st := L2.inClass (tp 52) 18) l35 c35 k35
  have B35 := F35.binds (ps := d35.ps) fun _ _ _ _ _ _ us hl => match us, hl with | [_], _ => rfl
  have F36 := L2.fun_mk (st := tp 54) l36 c36 k36
  have B36 := F36.binds (ps := d36.ps) fun _ _ _ _ _ _ us hl => match us, hl with | [_, _], _ => rfl
  have F37 := L2.fun_mk (st := tp 55) l37 c37 k37
  have B37 := F37.binds (ps := d37.ps) fun _ _ _ _ _ _ us hl => match us, hl with | [_], _ => rfl
  have F38 := L2.fun_mk (st := tp 56) l38 c38 k38
  have B38 := F38.binds (ps := d38.ps) fun _ _ _ _ _ _ us hl => match us, hl with | [_, _], _ => rfl
  have F39 := L2.fun_mk (st := tp 57) l39 c39 k39
  have B39 := F39.binds (ps := d39.ps) fun _ _ _ _ _ _ us hl => match us, hl with | [_], _ => rfl
  have F40 := L2.fun_mk (st := tp 58) l40 c40 k40
  have B40 := F40.binds (ps := d40.ps) fun _ _ _ _ _ _ us hl => match us, hl with | [_], _ => rfl
  have F41 := L2.fun_mk (st := tp 59) l41 c41 k41
  have B41 := F41.binds (ps := d41.ps) fun _ _ _ _ _ _ us hl => match us, hl with | [_], _ => rfl
  have F42 := L2.fun_mk (st := tp 60) l42 c42 k42
  have B42 := F42.binds (ps := d42.ps) fun _ _ _ _ _ _ us hl => match us, hl with | [_, _], _ => rfl
  have F43 := L2.fun_mk (st := tp 61) l43 c43 k43
  have B43 := F43.binds (ps := d43.ps) fun _ _ _ _ _ _ us hl => match us, hl with | [_, _], _ => rfl
  have F44 := L2.fun_mk (st := tp 62) l44 c44 k44
  have B44 := F44.binds (ps := d44.ps) fun _ _ _ _ _ _ us hl => match us, hl with | [_], _ => rfl
  have F45 := L2.fun_mk (st := tp 63) l45 c45 k45
  have B45 := F45.binds (ps := d45.ps) fun _ _ _ _ _ _ us hl => match us, hl with | [_], _ => rfl
  have F46 := L2.fun_mk (st := tp 64) l46 c46 k46
  have B46 := F46.binds (ps := d46.ps) fun _ _ _ _ _ _ us hl => match us, hl with | [_, _, _], _ => rfl
  have F47 := L2.fun_mk (st := tp 65) l47 c47 k47
  have B47 := F47.binds (ps := d47.ps) fun _ _ _ _ _ _ us hl => match us, hl with | [_, _, _], _ => rfl
  have F48 := L2.fun_mk (st := tp 66) l48 c48 k48
  have B48 := F48.binds (ps := d48.ps) fun _ _ _ _ _ _ us hl => match us, hl with | [_, _], _ => rfl
  have F49 := L2.fun_mk (st := tp 67) l49 c49 k49
  have B49 := F49.binds (ps := d49.ps) fun _ _ _ _ _ _ us hl => match us, hl with | [_, _], _ => rfl
  have F50 := L2.fun_mk (st := tp 68) l50 c50 k50
  have B50 := F50.binds (ps := d50.ps) fun _ _ _ _ _ _ us hl => match us, hl with | [_, _], _ => rfl
  have F51 := L2.fun_mk (st := tp 69) l51 c51 k51
  have B51 := F51.binds (ps := d51.ps) fun _ _ _ _ _ _ us hl => match us, hl with | [_], _ => rfl
  have F52 := L2.fun_mk (st := tp 70) l52 c52 k52
  have B52 := F52.binds (ps := d52.ps) fun _ _ _ _ _ _ us hl => match us, hl with | [_], _ => rfl
  have F53 := L2.fun_mk (st := tp 71) l53 c53 k53
  have B53 := F53.binds (ps := d53.ps) fun _ _ _ _ _ _ us hl => match us, hl with | [_], _ => rfl
  have F54 := L2.fun_mk (st := tp 72) l54 c54 k54
  have B54 := F54.binds (ps := d54.ps) fun _ _ _ _ _ _ us hl => match us, hl with | [_], _ => rfl
  have F55 := L2.fun_mk (st := tp 73) l55 c55 k55
  have B55 := F55.binds (ps := d55.ps) fun _ _ _ _ _ _ us hl => match us, hl with | [_], _ => rfl
  refine ⟨[⟨g0, PySem.W.fnOf "is_integer" "is_integer" (L2.defArgs (tp 21)) (L2.defBody (tp 21)) (L2.defScope (tp 21)) .none kV0 dc0 pm0 an0 cd0 ct0, d0.ps⟩, ⟨g1, PySem.W.fnOf "is_between" "is_between" (L2.defArgs (tp 22)) (L2.defBody (tp 22)) (L2.defScope (tp 22)) .none kV1 dc1 pm1 an1 cd1 ct1, d1.ps⟩, ⟨g2, PySem.W.fnOf "is_name" "is_name" (L2.defArgs (tp 24)) (L2.defBody (tp 24)) (L2.defScope (tp 24)) .none kV2 dc2 pm2 an2 cd2 ct2, d2.ps⟩, ⟨g3, PySem.W.fnOf "number_of" "number_of" (L2.defArgs (tp 25)) (L2.defBody (tp 25)) (L2.defScope (tp 25)) .none kV3 dc3 pm3 an3 cd3 ct3, d3.ps⟩, ⟨g4, PySem.W.fnOf "is_step" "is_step" (L2.defArgs (tp 30)) (L2.defBody (tp 30)) (L2.defScope (tp 30)) .none kV4 dc4 pm4 an4 cd4 ct4, d4.ps⟩, ⟨g5, PySem.W.fnOf "wrong_step" "wrong_step" (L2.defArgs (tp 31)) (L2.defBody (tp 31)) (L2.defScope (tp 31)) .none kV5 dc5 pm5 an5 cd5 ct5, d5.ps⟩, ⟨g6, PySem.W.fnOf "is_row_of_steps" "is_row_of_steps" (L2.defArgs (tp 32)) (L2.defBody (tp 32)) (L2.defScope (tp 32)) .none kV6 dc6 pm6 an6 cd6 ct6, d6.ps⟩, ⟨g7, PySem.W.fnOf "rounded" "rounded" (L2.defArgs (tp 33)) (L2.defBody (tp 33)) (L2.defScope (tp 33)) .none kV7 dc7 pm7 an7 cd7 ct7, d7.ps⟩, ⟨g8, PySem.W.fnOf "led" "led" (L2.defArgs (tp 34)) (L2.defBody (tp 34)) (L2.defScope (tp 34)) .none kV8 dc8 pm8 an8 cd8 ct8, d8.ps⟩, ⟨g9, PySem.W.fnOf "text_of_step" "text_of_step" (L2.defArgs (tp 35)) (L2.defBody (tp 35)) (L2.defScope (tp 35)) .none kV9 dc9 pm9 an9 cd9 ct9, d9.ps⟩, ⟨g10, PySem.W.fnOf "text_of_steps" "text_of_steps" (L2.defArgs (tp 36)) (L2.defBody (tp 36)) (L2.defScope (tp 36)) .none kV10 dc10 pm10 an10 cd10 ct10, d10.ps⟩, ⟨g11, PySem.W.fnOf "step_of_text" "step_of_text" (L2.defArgs (tp 37)) (L2.defBody (tp 37)) (L2.defScope (tp 37)) .none kV11 dc11 pm11 an11 cd11 ct11, d11.ps⟩, ⟨g12, PySem.W.fnOf "steps_of_text" "steps_of_text" (L2.defArgs (tp 38)) (L2.defBody (tp 38)) (L2.defScope (tp 38)) .none kV12 dc12 pm12 an12 cd12 ct12, d12.ps⟩, ⟨g13, PySem.W.fnOf "is_kind" "is_kind" (L2.defArgs (tp 42)) (L2.defBody (tp 42)) (L2.defScope (tp 42)) .none kV13 dc13 pm13 an13 cd13 ct13, d13.ps⟩, ⟨g14, PySem.W.fnOf "check_kinds" "check_kinds" (L2.defArgs (tp 43)) (L2.defBody (tp 43)) (L2.defScope (tp 43)) .none kV14 dc14 pm14 an14 cd14 ct14, d14.ps⟩, ⟨g15, PySem.W.fnOf "check_groups" "check_groups" (L2.defArgs (tp 44)) (L2.defBody (tp 44)) (L2.defScope (tp 44)) .none kV15 dc15 pm15 an15 cd15 ct15, d15.ps⟩, ⟨g16, PySem.W.fnOf "check_places" "check_places" (L2.defArgs (tp 45)) (L2.defBody (tp 45)) (L2.defScope (tp 45)) .none kV16 dc16 pm16 an16 cd16 ct16, d16.ps⟩, ⟨g17, PySem.W.fnOf "check_whole" "check_whole" (L2.defArgs (tp 46)) (L2.defBody (tp 46)) (L2.defScope (tp 46)) .none kV17 dc17 pm17 an17 cd17 ct17, d17.ps⟩, ⟨g18, PySem.W.fnOf "text_of" "text_of" (L2.defArgs (tp 47)) (L2.defBody (tp 47)) (L2.defScope (tp 47)) .none kV18 dc18 pm18 an18 cd18 ct18, d18.ps⟩, ⟨g19, PySem.W.fnOf "parts_of_row" "parts_of_row" (L2.defArgs (tp 48)) (L2.defBody (tp 48)) (L2.defScope (tp 48)) .none kV19 dc19 pm19 an19 cd19 ct19, d19.ps⟩, ⟨g20, PySem.W.fnOf "kind_of_parts" "kind_of_parts" (L2.defArgs (tp 49)) (L2.defBody (tp 49)) (L2.defScope (tp 49)) .none kV20 dc20 pm20 an20 cd20 ct20, d20.ps⟩, ⟨g21, PySem.W.fnOf "is_line" "is_line" (L2.defArgs (tp 50)) (L2.defBody (tp 50)) (L2.defScope (tp 50)) .none kV21 dc21 pm21 an21 cd21 ct21, d21.ps⟩, ⟨g22, PySem.W.fnOf "check_bill" "check_bill" (L2.defArgs (tp 51)) (L2.defBody (tp 51)) (L2.defScope (tp 51)) .none kV22 dc22 pm22 an22 cd22 ct22, d22.ps⟩, ⟨g23, PySem.W.fnOf "__init__" "Book.__init__" (L2.defArgs (L2.inClass (tp 52) 0)) (L2.defBody (L2.inClass (tp 52) 0)) (L2.defScope (L2.inClass (tp 52) 0)) .none kV23 dc23 pm23 an23 cd23 ct23, d23.ps⟩, ⟨g24, PySem.W.fnOf "read" "Book.read" (L2.defArgs (L2.inClass (tp 52) 1)) (L2.defBody (L2.inClass (tp 52) 1)) (L2.defScope (L2.inClass (tp 52) 1)) .none kV24 dc24 pm24 an24 cd24 ct24, d24.ps⟩, ⟨g25, PySem.W.fnOf "kinds" "Book.kinds" (L2.defArgs (L2.inClass (tp 52) 2)) (L2.defBody (L2.inClass (tp 52) 2)) (L2.defScope (L2.inClass (tp 52) 2)) .none kV25 dc25 pm25 an25 cd25 ct25, d25.ps⟩, ⟨g26, PySem.W.fnOf "groups" "Book.groups" (L2.defArgs (L2.inClass (tp 52) 3)) (L2.defBody (L2.inClass (tp 52) 3)) (L2.defScope (L2.inClass (tp 52) 3)) .none kV26 dc26 pm26 an26 cd26 ct26, d26.ps⟩, ⟨g27, PySem.W.fnOf "whole" "Book.whole" (L2.defArgs (L2.inClass (tp 52) 4)) (L2.defBody (L2.inClass (tp 52) 4)) (L2.defScope (L2.inClass (tp 52) 4)) .none kV27 dc27 pm27 an27 cd27 ct27, d27.ps⟩, ⟨g28, PySem.W.fnOf "names" "Book.names" (L2.defArgs (L2.inClass (tp 52) 5)) (L2.defBody (L2.inClass (tp 52) 5)) (L2.defScope (L2.inClass (tp 52) 5)) .none kV28 dc28 pm28 an28 cd28 ct28, d28.ps⟩, ⟨g29, PySem.W.fnOf "kind_at" "Book.kind_at" (L2.defArgs (L2.inClass (tp 52) 6)) (L2.defBody (L2.inClass (tp 52) 6)) (L2.defScope (L2.inClass (tp 52) 6)) .none kV29 dc29 pm29 an29 cd29 ct29, d29.ps⟩, ⟨g30, PySem.W.fnOf "sums" "Book.sums" (L2.defArgs (L2.inClass (tp 52) 13)) (L2.defBody (L2.inClass (tp 52) 13)) (L2.defScope (L2.inClass (tp 52) 13)) .none kV30 dc30 pm30 an30 cd30 ct30, d30.ps⟩, ⟨g31, PySem.W.fnOf "ask" "Book.ask" (L2.defArgs (L2.inClass (tp 52) 14)) (L2.defBody (L2.inClass (tp 52) 14)) (L2.defScope (L2.inClass (tp 52) 14)) .none kV31 dc31 pm31 an31 cd31 ct31, d31.ps⟩, ⟨g32, PySem.W.fnOf "ask_of_sums" "Book.ask_of_sums" (L2.defArgs (L2.inClass (tp 52) 15)) (L2.defBody (L2.inClass (tp 52) 15)) (L2.defScope (L2.inClass (tp 52) 15)) .none kV32 dc32 pm32 an32 cd32 ct32, d32.ps⟩, ⟨g33, PySem.W.fnOf "__eq__" "Book.__eq__" (L2.defArgs (L2.inClass (tp 52) 16)) (L2.defBody (L2.inClass (tp 52) 16)) (L2.defScope (L2.inClass (tp 52) 16)) .none kV33 dc33 pm33 an33 cd33 ct33, d33.ps⟩, ⟨g34, PySem.W.fnOf "__str__" "Book.__str__" (L2.defArgs (L2.inClass (tp 52) 17)) (L2.defBody (L2.inClass (tp 52) 17)) (L2.defScope (L2.inClass (tp 52) 17)) .none kV34 dc34 pm34 an34 cd34 ct34, d34.ps⟩, ⟨g35, PySem.W.fnOf "__repr__" "Book.__repr__" (L2.defArgs (L2.inClass (tp 52) 18)) (L2.defBody (L2.inClass (tp 52) 18)) (L2.defScope (L2.inClass (tp 52) 18)) .none kV35 dc35 pm35 an35 cd35 ct35, d35.ps⟩, ⟨g36, PySem.W.fnOf "_law_cell" "_law_cell" (L2.defArgs (tp 54)) (L2.defBody (tp 54)) (L2.defScope (tp 54)) .none kV36 dc36 pm36 an36 cd36 ct36, d36.ps⟩, ⟨g37, PySem.W.fnOf "_law_purse" "_law_purse" (L2.defArgs (tp 55)) (L2.defBody (tp 55)) (L2.defScope (tp 55)) .none kV37 dc37 pm37 an37 cd37 ct37, d37.ps⟩, ⟨g38, PySem.W.fnOf "_law_take" "_law_take" (L2.defArgs (tp 56)) (L2.defBody (tp 56)) (L2.defScope (tp 56)) .none kV38 dc38 pm38 an38 cd38 ct38, d38.ps⟩, ⟨g39, PySem.W.fnOf "_law_step" "_law_step" (L2.defArgs (tp 57)) (L2.defBody (tp 57)) (L2.defScope (tp 57)) .none kV39 dc39 pm39 an39 cd39 ct39, d39.ps⟩, ⟨g40, PySem.W.fnOf "_law_steps" "_law_steps" (L2.defArgs (tp 58)) (L2.defBody (tp 58)) (L2.defScope (tp 58)) .none kV40 dc40 pm40 an40 cd40 ct40, d40.ps⟩, ⟨g41, PySem.W.fnOf "_law_word" "_law_word" (L2.defArgs (tp 59)) (L2.defBody (tp 59)) (L2.defScope (tp 59)) .none kV41 dc41 pm41 an41 cd41 ct41, d41.ps⟩, ⟨g42, PySem.W.fnOf "_law_beside" "_law_beside" (L2.defArgs (tp 60)) (L2.defBody (tp 60)) (L2.defScope (tp 60)) .none kV42 dc42 pm42 an42 cd42 ct42, d42.ps⟩, ⟨g43, PySem.W.fnOf "_law_words" "_law_words" (L2.defArgs (tp 61)) (L2.defBody (tp 61)) (L2.defScope (tp 61)) .none kV43 dc43 pm43 an43 cd43 ct43, d43.ps⟩, ⟨g44, PySem.W.fnOf "_law_parts" "_law_parts" (L2.defArgs (tp 62)) (L2.defBody (tp 62)) (L2.defScope (tp 62)) .none kV44 dc44 pm44 an44 cd44 ct44, d44.ps⟩, ⟨g45, PySem.W.fnOf "_law_worth" "_law_worth" (L2.defArgs (tp 63)) (L2.defBody (tp 63)) (L2.defScope (tp 63)) .none kV45 dc45 pm45 an45 cd45 ct45, d45.ps⟩, ⟨g46, PySem.W.fnOf "_law_tab" "_law_tab" (L2.defArgs (tp 64)) (L2.defBody (tp 64)) (L2.defScope (tp 64)) .none kV46 dc46 pm46 an46 cd46 ct46, d46.ps⟩, ⟨g47, PySem.W.fnOf "_law_whole_part" "_law_whole_part" (L2.defArgs (tp 65)) (L2.defBody (tp 65)) (L2.defScope (tp 65)) .none kV47 dc47 pm47 an47 cd47 ct47, d47.ps⟩, ⟨g48, PySem.W.fnOf "_law_led" "_law_led" (L2.defArgs (tp 66)) (L2.defBody (tp 66)) (L2.defScope (tp 66)) .none kV48 dc48 pm48 an48 cd48 ct48, d48.ps⟩, ⟨g49, PySem.W.fnOf "_law_heaped" "_law_heaped" (L2.defArgs (tp 67)) (L2.defBody (tp 67)) (L2.defScope (tp 67)) .none kV49 dc49 pm49 an49 cd49 ct49, d49.ps⟩, ⟨g50, PySem.W.fnOf "_law_due" "_law_due" (L2.defArgs (tp 68)) (L2.defBody (tp 68)) (L2.defScope (tp 68)) .none kV50 dc50 pm50 an50 cd50 ct50, d50.ps⟩, ⟨g51, PySem.W.fnOf "_law_step_text" "_law_step_text" (L2.defArgs (tp 69)) (L2.defBody (tp 69)) (L2.defScope (tp 69)) .none kV51 dc51 pm51 an51 cd51 ct51, d51.ps⟩, ⟨g52, PySem.W.fnOf "_law_tail" "_law_tail" (L2.defArgs (tp 70)) (L2.defBody (tp 70)) (L2.defScope (tp 70)) .none kV52 dc52 pm52 an52 cd52 ct52, d52.ps⟩, ⟨g53, PySem.W.fnOf "_law_text" "_law_text" (L2.defArgs (tp 71)) (L2.defBody (tp 71)) (L2.defScope (tp 71)) .none kV53 dc53 pm53 an53 cd53 ct53, d53.ps⟩, ⟨g54, PySem.W.fnOf "_law_right" "_law_right" (L2.defArgs (tp 72)) (L2.defBody (tp 72)) (L2.defScope (tp 72)) .none kV54 dc54 pm54 an54 cd54 ct54, d54.ps⟩, ⟨_, PySem.W.fnOf "law" "law" (L2.defArgs (tp 73)) (L2.defBody (tp 73)) (L2.defScope (tp 73)) .none kV55 dc55 pm55 an55 cd55 ct55, d55.ps⟩], LC.caOf mg, LC.pg_mk rfl ok ?_ ?_ ?_ ?_ ?_ ?_, by decide, rfl, rfl, fun s u => .of_eq rfl⟩
  · exact .cons ⟨F0, rfl, B0⟩ (.cons ⟨F1, rfl, B1⟩ (.cons ⟨F2, rfl, B2⟩ (.cons ⟨F3, rfl, B3⟩ (.cons ⟨F4, rfl, B4⟩ (.cons ⟨F5, rfl, B5⟩ (.cons ⟨F6, rfl, B6⟩ (.cons ⟨F7, rfl, B7⟩ (.cons ⟨F8, rfl, B8⟩ (.cons ⟨F9, rfl, B9⟩ (.cons ⟨F10, rfl, B10⟩ (.cons ⟨F11, rfl, B11⟩ (.cons ⟨F12, rfl, B12⟩ (.cons ⟨F13, rfl, B13⟩ (.cons ⟨F14, rfl, B14⟩ (.cons ⟨F15, rfl, B15⟩ (.cons ⟨F16, rfl, B16⟩ (.cons ⟨F17, rfl, B17⟩ (.cons ⟨F18, rfl, B18⟩ (.cons ⟨F19, rfl, B19⟩ (.cons ⟨F20, rfl, B20⟩ (.cons ⟨F21, rfl, B21⟩ (.cons ⟨F22, rfl, B22⟩ (.cons ⟨F23, rfl, B23⟩ (.cons ⟨F24, rfl, B24⟩ (.cons ⟨F25, rfl, B25⟩ (.cons ⟨F26, rfl, B26⟩ (.cons ⟨F27, rfl, B27⟩ (.cons ⟨F28, rfl, B28⟩ (.cons ⟨F29, rfl, B29⟩ (.cons ⟨F30, rfl, B30⟩ (.cons ⟨F31, rfl, B31⟩ (.cons ⟨F32, rfl, B32⟩ (.cons ⟨F33, rfl, B33⟩ (.cons ⟨F34, rfl, B34⟩ (.cons ⟨F35, rfl, B35⟩ (.cons ⟨F36, rfl, B36⟩ (.cons ⟨F37, rfl, B37⟩ (.cons ⟨F38, rfl, B38⟩ (.cons ⟨F39, rfl, B39⟩ (.cons ⟨F40, rfl, B40⟩ (.cons ⟨F41, rfl, B41⟩ (.cons ⟨F42, rfl, B42⟩ (.cons ⟨F43, rfl, B43⟩ (.cons ⟨F44, rfl, B44⟩ (.cons ⟨F45, rfl, B45⟩ (.cons ⟨F46, rfl, B46⟩ (.cons ⟨F47, rfl, B47⟩ (.cons ⟨F48, rfl, B48⟩ (.cons ⟨F49, rfl, B49⟩ (.cons ⟨F50, rfl, B50⟩ (.cons ⟨F51, rfl, B51⟩ (.cons ⟨F52, rfl, B52⟩ (.cons ⟨F53, rfl, B53⟩ (.cons ⟨F54, rfl, B54⟩ (.cons ⟨F55, rfl, B55⟩ (.nil))))))))))))))))))))))))))))))))))))))))))))))))))))))))
  · refine LC.top_mk ?_ ?_
    · exact .cons ⟨C0, PySem.W.mg_of X G aC0, ⟨pg0, hd0, po0, sa0, cl0, ty0, kc0, kg, kt, ko0, n0_0, n0_1, n0_2, n0_3, n0_4, n0_5, nn0, kn0⟩, fun k e => by cases e; exact ⟨mk0, a23, i23, kp0⟩, .cons ⟨a29, i29, k29⟩ (.cons ⟨a30, i30, k30⟩ (.cons ⟨a31, i31, k31⟩ (.cons ⟨a32, i32, k32⟩ (.cons ⟨a33, i33, k33⟩ (.cons ⟨a34, i34, k34⟩ (.cons ⟨a35, i35, k35⟩ (.nil))))))), .cons ⟨q25, a25, b25, t25, rs25, r25⟩ (.cons ⟨q26, a26, b26, t26, rs26, r26⟩ (.cons ⟨q27, a27, b27, t27, rs27, r27⟩ (.cons ⟨q28, a28, b28, t28, rs28, r28⟩ (.nil)))), .cons f0_0 (.cons f0_1 (.cons f0_2 (.cons f0_3 (.cons f0_4 (.cons f0_5 (.nil)))))), .cons ⟨q24, .type "type", ⟨rd0, gz0⟩, ⟨a24, ⟨rs24, r24⟩, i24⟩⟩ (.nil)⟩ (.nil)
    · intro c hc c' hc' ne
      rw [List.mem_singleton.mp hc, List.mem_singleton.mp hc'] at ne
      exact absurd rfl ne
  · exact .cons (LC.kb_mk (Nat.succ_pos _) fun us ws h1 h2 => match us, ws, h1, h2 with | [u0], [w0], _, _ => rfl) (.nil)
  · exact .cons ⟨by decide, PySem.W.mg_of X G a0⟩ (.cons ⟨by decide, PySem.W.mg_of X G a1⟩ (.cons ⟨by decide, PySem.W.mg_of X G a2⟩ (.cons ⟨by decide, PySem.W.mg_of X G a3⟩ (.cons ⟨by decide, PySem.W.mg_of X G a4⟩ (.cons ⟨by decide, PySem.W.mg_of X G a5⟩ (.cons ⟨by decide, PySem.W.mg_of X G a6⟩ (.cons ⟨by decide, PySem.W.mg_of X G a7⟩ (.cons ⟨by decide, PySem.W.mg_of X G a8⟩ (.cons ⟨by decide, PySem.W.mg_of X G a9⟩ (.cons ⟨by decide, PySem.W.mg_of X G a10⟩ (.cons ⟨by decide, PySem.W.mg_of X G a11⟩ (.cons ⟨by decide, PySem.W.mg_of X G a12⟩ (.cons ⟨by decide, PySem.W.mg_of X G a13⟩ (.cons ⟨by decide, PySem.W.mg_of X G a14⟩ (.cons ⟨by decide, PySem.W.mg_of X G a15⟩ (.cons ⟨by decide, PySem.W.mg_of X G a16⟩ (.cons ⟨by decide, PySem.W.mg_of X G a17⟩ (.cons ⟨by decide, PySem.W.mg_of X G a18⟩ (.cons ⟨by decide, PySem.W.mg_of X G a19⟩ (.cons ⟨by decide, PySem.W.mg_of X G a20⟩ (.cons ⟨by decide, PySem.W.mg_of X G a21⟩ (.cons ⟨by decide, PySem.W.mg_of X G a22⟩ (.cons ⟨by decide, PySem.W.mg_of X G a36⟩ (.cons ⟨by decide, PySem.W.mg_of X G a37⟩ (.cons ⟨by decide, PySem.W.mg_of X G a38⟩ (.cons ⟨by decide, PySem.W.mg_of X G a39⟩ (.cons ⟨by decide, PySem.W.mg_of X G a40⟩ (.cons ⟨by decide, PySem.W.mg_of X G a41⟩ (.cons ⟨by decide, PySem.W.mg_of X G a42⟩ (.cons ⟨by decide, PySem.W.mg_of X G a43⟩ (.cons ⟨by decide, PySem.W.mg_of X G a44⟩ (.cons ⟨by decide, PySem.W.mg_of X G a45⟩ (.cons ⟨by decide, PySem.W.mg_of X G a46⟩ (.cons ⟨by decide, PySem.W.mg_of X G a47⟩ (.cons ⟨by decide, PySem.W.mg_of X G a48⟩ (.cons ⟨by decide, PySem.W.mg_of X G a49⟩ (.cons ⟨by decide, PySem.W.mg_of X G a50⟩ (.cons ⟨by decide, PySem.W.mg_of X G a51⟩ (.cons ⟨by decide, PySem.W.mg_of X G a52⟩ (.cons ⟨by decide, PySem.W.mg_of X G a53⟩ (.cons ⟨by decide, PySem.W.mg_of X G a54⟩ (.cons ⟨by decide, PySem.W.mg_of X G a55⟩ (.nil)))))))))))))))))))))))))))))))))))))))))))
  · exact .cons (PySem.W.mg_none_of X G z0) (.cons (PySem.W.mg_none_of X G z1) (.cons (PySem.W.mg_none_of X G z2) (.cons (PySem.W.mg_none_of X G z3) (.cons (PySem.W.mg_none_of X G z4) (.cons (PySem.W.mg_none_of X G z5) (.cons (PySem.W.mg_none_of X G z6) (.cons (PySem.W.mg_none_of X G z7) (.cons (PySem.W.mg_none_of X G z8) (.cons (PySem.W.mg_none_of X G z9) (.cons (PySem.W.mg_none_of X G z10) (.cons (PySem.W.mg_none_of X G z11) (.cons (PySem.W.mg_none_of X G z12) (.cons (PySem.W.mg_none_of X G z13) (.cons (PySem.W.mg_none_of X G z14) (.cons (PySem.W.mg_none_of X G z15) (.nil))))))))))))))))
  · exact .cons (LC.gl_glb (PySem.W.mg_of X G aC0)) (.cons (LC.gl_str (PySem.W.mg_of X G e1)) (.cons (LC.gl_int (PySem.W.mg_of X G e2)) (.cons (LC.gl_int (PySem.W.mg_of X G e3)) (.cons (LC.gl_str (PySem.W.mg_of X G e4)) (.cons (LC.gl_int (PySem.W.mg_of X G e5)) (.cons (LC.gl_int (PySem.W.mg_of X G e6)) (.cons (LC.gl_int (PySem.W.mg_of X G e7)) (.cons (LC.gl_int (PySem.W.mg_of X G e8)) (.cons (LC.gl_int (PySem.W.mg_of X G e9)) (.cons (LC.gl_int (PySem.W.mg_of X G e10)) (.cons (LC.gl_int (PySem.W.mg_of X G e11)) (.cons (LC.gl_int (PySem.W.mg_of X G e12)) (.cons (LC.gl_int (PySem.W.mg_of X G e13)) (.cons (LC.gl_tup (vs := (["down", "up", "near down", "near up", "near even"] : List PySem.Str).map L2.V.str) (PySem.W.mg_of X G e14) w14 (show 5 ≤ PySem.sizeLine by decide) (.cons ⟨_, rfl⟩ (.cons ⟨_, rfl⟩ (.cons ⟨_, rfl⟩ (.cons ⟨_, rfl⟩ (.cons ⟨_, rfl⟩ (.nil)))))) (fun _ _ _ => LC.strs_rep' ["down", "up", "near down", "near up", "near even"])) (.nil)))))))))))))))
end
end Tx

namespace Tx
open PySem LC
theorem law_true : ∀ ns : List Int, ns.length ≤ 63 → ∃ m, LC.callD Gp (49 + 11) 55 [.scr ns] [] = .ok (.bl true) m := by
  intro ns hl
  have h := LC.po_ok (L_law_k05_ok (G := Gp) (σ := sg) (n := 49) (by decide) ns hl)
  have e : sg 2 = 55 := by decide
  rw [e] at h
  exact h
end Tx

open PySem PySem.W PyProof.Rows
set_option maxRecDepth 100000 in
set_option maxHeartbeats 0 in
theorem PySem.Challenge.cw_linecents_k05_texts_read_back_holds : PySem.Challenge.rw_linecents_k05_texts_read_back.Holds := by
  w_on; o_law; k_head; (case hw => w_witness2)
  k_fill
  refine LC.walkG (l := PySem.Challenge.rw_linecents_k05_texts_read_back) (x := "_law_script") (G := Tx.gt) (dis := Tx.dis) (gl := Tx.gl) (Wn := Tx.Wn) (n := 49 + 11) (kl := 55) rfl rfl ⟨rfl, by decide, by decide⟩ (fun w h Y => PySem.W.kIn_of Y) ?F Tx.law_true
  case F =>
    intro w mg fa h KX G hmg
    refine' Tx.all_mk KX G hmg ?aC0 ?pg0 ?hd0 ?po0 ?sa0 ?cl0 ?ty0 ?kc0 ?ko0 ?nn0 ?kn0 ?n0_0 ?n0_1 ?n0_2 ?n0_3 ?n0_4 ?n0_5 ?mk0 ?kp0 ?rd0 ?gz0 ?f0_0 ?f0_1 ?f0_2 ?f0_3 ?f0_4 ?f0_5 ?kg ?kt ?a0 ?l0 ?c0 ?k0 ?a1 ?l1 ?c1 ?k1 ?a2 ?l2 ?c2 ?k2 ?a3 ?l3 ?c3 ?k3 ?a4 ?l4 ?c4 ?k4 ?a5 ?l5 ?c5 ?k5 ?a6 ?l6 ?c6 ?k6 ?a7 ?l7 ?c7 ?k7 ?a8 ?l8 ?c8 ?k8 ?a9 ?l9 ?c9 ?k9 ?a10 ?l10 ?c10 ?k10 ?a11 ?l11 ?c11 ?k11 ?a12 ?l12 ?c12 ?k12 ?a13 ?l13 ?c13 ?k13 ?a14 ?l14 ?c14 ?k14 ?a15 ?l15 ?c15 ?k15 ?a16 ?l16 ?c16 ?k16 ?a17 ?l17 ?c17 ?k17 ?a18 ?l18 ?c18 ?k18 ?a19 ?l19 ?c19 ?k19 ?a20 ?l20 ?c20 ?k20 ?a21 ?l21 ?c21 ?k21 ?a22 ?l22 ?c22 ?k22 ?a23 ?i23 ?l23 ?c23 ?k23 ?a24 ?r24 ?i24 ?l24 ?c24 ?k24 ?a25 ?b25 ?t25 ?r25 ?l25 ?c25 ?k25 ?a26 ?b26 ?t26 ?r26 ?l26 ?c26 ?k26 ?a27 ?b27 ?t27 ?r27 ?l27 ?c27 ?k27 ?a28 ?b28 ?t28 ?r28 ?l28 ?c28 ?k28 ?a29 ?i29 ?l29 ?c29 ?k29 ?a30 ?i30 ?l30 ?c30 ?k30 ?a31 ?i31 ?l31 ?c31 ?k31 ?a32 ?i32 ?l32 ?c32 ?k32 ?a33 ?i33 ?l33 ?c33 ?k33 ?a34 ?i34 ?l34 ?c34 ?k34 ?a35 ?i35 ?l35 ?c35 ?k35 ?a36 ?l36 ?c36 ?k36 ?a37 ?l37 ?c37 ?k37 ?a38 ?l38 ?c38 ?k38 ?a39 ?l39 ?c39 ?k39 ?a40 ?l40 ?c40 ?k40 ?a41 ?l41 ?c41 ?k41 ?a42 ?l42 ?c42 ?k42 ?a43 ?l43 ?c43 ?k43 ?a44 ?l44 ?c44 ?k44 ?a45 ?l45 ?c45 ?k45 ?a46 ?l46 ?c46 ?k46 ?a47 ?l47 ?c47 ?k47 ?a48 ?l48 ?c48 ?k48 ?a49 ?l49 ?c49 ?k49 ?a50 ?l50 ?c50 ?k50 ?a51 ?l51 ?c51 ?k51 ?a52 ?l52 ?c52 ?k52 ?a53 ?l53 ?c53 ?k53 ?a54 ?l54 ?c54 ?k54 ?a55 ?l55 ?c55 ?k55 ?z0 ?z1 ?z2 ?z3 ?z4 ?z5 ?z6 ?z7 ?z8 ?z9 ?z10 ?z11 ?z12 ?z13 ?z14 ?z15 ?e1 ?e2 ?e3 ?e4 ?e5 ?e6 ?e7 ?e8 ?e9 ?e10 ?e11 ?e12 ?e13 ?e14 ?w14
    (case aC0 => k_is); (case pg0 => k_is); (case hd0 => k_is); (case po0 => k_is); (case sa0 => k_is)
    (case cl0 => k_is); (case ty0 => k_is); (case kc0 => k_is); (case ko0 => k_is); (case nn0 => k_is)
    (case kn0 => k_is); (case n0_0 => k_is); (case n0_1 => k_is); (case n0_2 => k_is); (case n0_3 => k_is)
    (case n0_4 => k_is); (case n0_5 => k_is); (case mk0 => k_is); (case kp0 => k_is); (case rd0 => k_is)
    (case gz0 => k_is); (case f0_0 => k_is); (case f0_1 => k_is); (case f0_2 => k_is); (case f0_3 => k_is)
    (case f0_4 => k_is); (case f0_5 => k_is); (case kg => k_is); (case kt => k_is); (case a0 => k_is)
    (case l0 => k_is); (case c0 => k_is); (case k0 => k_is); (case a1 => k_is); (case l1 => k_is)
    (case c1 => k_is); (case k1 => k_is); (case a2 => k_is); (case l2 => k_is); (case c2 => k_is)
    (case k2 => k_is); (case a3 => k_is); (case l3 => k_is); (case c3 => k_is); (case k3 => k_is)
    (case a4 => k_is); (case l4 => k_is); (case c4 => k_is); (case k4 => k_is); (case a5 => k_is)
    (case l5 => k_is); (case c5 => k_is); (case k5 => k_is); (case a6 => k_is); (case l6 => k_is)
    (case c6 => k_is); (case k6 => k_is); (case a7 => k_is); (case l7 => k_is); (case c7 => k_is)
    (case k7 => k_is); (case a8 => k_is); (case l8 => k_is); (case c8 => k_is); (case k8 => k_is)
    (case a9 => k_is); (case l9 => k_is); (case c9 => k_is); (case k9 => k_is); (case a10 => k_is)
    (case l10 => k_is); (case c10 => k_is); (case k10 => k_is); (case a11 => k_is); (case l11 => k_is)
    (case c11 => k_is); (case k11 => k_is); (case a12 => k_is); (case l12 => k_is); (case c12 => k_is)
    (case k12 => k_is); (case a13 => k_is); (case l13 => k_is); (case c13 => k_is); (case k13 => k_is)
    (case a14 => k_is); (case l14 => k_is); (case c14 => k_is); (case k14 => k_is); (case a15 => k_is)
    (case l15 => k_is); (case c15 => k_is); (case k15 => k_is); (case a16 => k_is); (case l16 => k_is)
    (case c16 => k_is); (case k16 => k_is); (case a17 => k_is); (case l17 => k_is); (case c17 => k_is)
    (case k17 => k_is); (case a18 => k_is); (case l18 => k_is); (case c18 => k_is); (case k18 => k_is)
    (case a19 => k_is); (case l19 => k_is); (case c19 => k_is); (case k19 => k_is); (case a20 => k_is)
    (case l20 => k_is); (case c20 => k_is); (case k20 => k_is); (case a21 => k_is); (case l21 => k_is)
    (case c21 => k_is); (case k21 => k_is); (case a22 => k_is); (case l22 => k_is); (case c22 => k_is)
    (case k22 => k_is); (case a23 => k_is); (case i23 => k_is); (case l23 => k_is); (case c23 => k_is)
    (case k23 => k_is); (case a24 => k_is); (case r24 => k_is); (case i24 => k_is); (case l24 => k_is)
    (case c24 => k_is); (case k24 => k_is); (case a25 => k_is); (case b25 => k_is); (case t25 => k_is)
    (case r25 => k_is); (case l25 => k_is); (case c25 => k_is); (case k25 => k_is); (case a26 => k_is)
    (case b26 => k_is); (case t26 => k_is); (case r26 => k_is); (case l26 => k_is); (case c26 => k_is)
    (case k26 => k_is); (case a27 => k_is); (case b27 => k_is); (case t27 => k_is); (case r27 => k_is)
    (case l27 => k_is); (case c27 => k_is); (case k27 => k_is); (case a28 => k_is); (case b28 => k_is)
    (case t28 => k_is); (case r28 => k_is); (case l28 => k_is); (case c28 => k_is); (case k28 => k_is)
    (case a29 => k_is); (case i29 => k_is); (case l29 => k_is); (case c29 => k_is); (case k29 => k_is)
    (case a30 => k_is); (case i30 => k_is); (case l30 => k_is); (case c30 => k_is); (case k30 => k_is)
    (case a31 => k_is); (case i31 => k_is); (case l31 => k_is); (case c31 => k_is); (case k31 => k_is)
    (case a32 => k_is); (case i32 => k_is); (case l32 => k_is); (case c32 => k_is); (case k32 => k_is)
    (case a33 => k_is); (case i33 => k_is); (case l33 => k_is); (case c33 => k_is); (case k33 => k_is)
    (case a34 => k_is); (case i34 => k_is); (case l34 => k_is); (case c34 => k_is); (case k34 => k_is)
    (case a35 => k_is); (case i35 => k_is); (case l35 => k_is); (case c35 => k_is); (case k35 => k_is)
    (case a36 => k_is); (case l36 => k_is); (case c36 => k_is); (case k36 => k_is); (case a37 => k_is)
    (case l37 => k_is); (case c37 => k_is); (case k37 => k_is); (case a38 => k_is); (case l38 => k_is)
    (case c38 => k_is); (case k38 => k_is); (case a39 => k_is); (case l39 => k_is); (case c39 => k_is)
    (case k39 => k_is); (case a40 => k_is); (case l40 => k_is); (case c40 => k_is); (case k40 => k_is)
    (case a41 => k_is); (case l41 => k_is); (case c41 => k_is); (case k41 => k_is); (case a42 => k_is)
    (case l42 => k_is); (case c42 => k_is); (case k42 => k_is); (case a43 => k_is); (case l43 => k_is)
    (case c43 => k_is); (case k43 => k_is); (case a44 => k_is); (case l44 => k_is); (case c44 => k_is)
    (case k44 => k_is); (case a45 => k_is); (case l45 => k_is); (case c45 => k_is); (case k45 => k_is)
    (case a46 => k_is); (case l46 => k_is); (case c46 => k_is); (case k46 => k_is); (case a47 => k_is)
    (case l47 => k_is); (case c47 => k_is); (case k47 => k_is); (case a48 => k_is); (case l48 => k_is)
    (case c48 => k_is); (case k48 => k_is); (case a49 => k_is); (case l49 => k_is); (case c49 => k_is)
    (case k49 => k_is); (case a50 => k_is); (case l50 => k_is); (case c50 => k_is); (case k50 => k_is)
    (case a51 => k_is); (case l51 => k_is); (case c51 => k_is); (case k51 => k_is); (case a52 => k_is)
    (case l52 => k_is); (case c52 => k_is); (case k52 => k_is); (case a53 => k_is); (case l53 => k_is)
    (case c53 => k_is); (case k53 => k_is); (case a54 => k_is); (case l54 => k_is); (case c54 => k_is)
    (case k54 => k_is); (case a55 => k_is); (case l55 => k_is); (case c55 => k_is); (case k55 => k_is)
    (case z0 => k_is); (case z1 => k_is); (case z2 => k_is); (case z3 => k_is); (case z4 => k_is)
    (case z5 => k_is); (case z6 => k_is); (case z7 => k_is); (case z8 => k_is); (case z9 => k_is)
    (case z10 => k_is); (case z11 => k_is); (case z12 => k_is); (case z13 => k_is); (case z14 => k_is)
    (case z15 => k_is); (case e1 => k_is); (case e2 => k_is); (case e3 => k_is); (case e4 => k_is)
    (case e5 => k_is); (case e6 => k_is); (case e7 => k_is); (case e8 => k_is); (case e9 => k_is)
    (case e10 => k_is); (case e11 => k_is); (case e12 => k_is); (case e13 => k_is); (case e14 => k_is)
    (case w14 => k_is)

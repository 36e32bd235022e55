import PyProof.Rows.All
import Wide.All
import OpenK.AllK
import Wide.FinOn
import HandS.ForMost
import HandS.Wide
import HandS.WideBits
import HandS.IsInst
import HandS.FStr
import HandS.Star
import HandS.TupAny
import HandS.Walk
import HandS.Zip
import HandS.Property
import HandS.RaiseMore
import HandS.Style
import HandS.Conv
import HandS.SortInts
import HandS.Text
import HandS.OwnEq
import KE.GoesMore
import PyProof.ReprRoads
import PySem.Challenge.RW_linecents_k18_whole_rows_alike
set_option Elab.async false
set_option linter.all false
set_option maxRecDepth 100000
set_option maxHeartbeats 4000000

/-! # LcA: values, the store, what a term of the small language means -/
namespace LC
open PySem

/-- a value: what never changes is told whole; a thing that changes is a place of the store -/
inductive D where
  | non | bl (b : Bool) | int (i : Int) | str (s : Str)
  | tup (xs : List D) | lst (xs : List D) | scr (ns : List Int)
  | ref (n : Nat) | glb (x : Str) | ty (n : String)
  deriving Inhabited

/-- what stands at a place of the store -/
inductive Ob where
  | lst (xs : List D)
  | ins (C : Str) (fs : List (Str × D))
  deriving Inhabited

abbrev Sto := List Ob
abbrev Env := List (Option D)

inductive Out (α : Type) where
  | ok (a : α) (m : Sto)
  | exc (C : Str) (fs : List (Str × D)) (m : Sto)
  | bad

abbrev M (α : Type) := Sto → Out α

def ret {α : Type} (a : α) : M α := fun m => .ok a m
def bad {α : Type} : M α := fun _ => .bad
def bnd {α β : Type} (x : M α) (f : α → M β) : M β := fun m => match x m with
  | .ok a m' => f a m'
  | .exc C fs m' => .exc C fs m'
  | .bad => .bad
/-- a new place -/
def new (o : Ob) : M D := fun m => .ok (.ref m.length) (m ++ [o])

inductive Flow where
  | nx (r : Env) | rt (d : D) | bk (r : Env) | ct (r : Env)

/-- what a loop walks: known things, or the list at a place as it stands -/
inductive Src where
  | fix (ds : List D) | live (n : Nat)

mutual
def D.py : D → Option PyData
  | .non => some .none
  | .bl b => some (.bool b)
  | .int i => some (.int i)
  | .str s => some (.str s)
  | .tup xs => (D.pys xs).map .tuple
  | .lst xs => (D.pys xs).map .list
  | .scr _ => none
  | .ref _ => none
  | .glb _ => none
  | .ty _ => none
def D.pys : List D → Option (List PyData)
  | [] => some []
  | d :: ds => match D.py d, D.pys ds with
    | some x, some xs => some (x :: xs)
    | _, _ => none
end

/-- a list at a place, read -/
def topR (d : D) : Option Ob → D
  | some (.lst xs) => .lst xs
  | _ => d
def top (m : Sto) (d : D) : D := match d with
  | .ref n => topR d m[n]?
  | _ => d

def LIM : Nat := 16777216
def mulOk (i j : Int) : Bool := decide (-(2 ^ 64) < i ∧ i < 2 ^ 64) || decide (-(2 ^ 64) < j ∧ j < 2 ^ 64) || decide (i.natAbs.log2 + j.natAbs.log2 < 1000000)
def divOk (j : Int) : Bool := decide (0 < j) && decide (j.natAbs.log2 < 9000)
def strLt (a b : Str) : Bool := decide (a.cps.toList < b.cps.toList)

/-! ### operators -/
def opBin (mu : Bool) (o : Operator) (x y : D) : M D := fun m =>
  match o, x, y with
  | .Add, .int i, .int j => .ok (.int (i + j)) m
  | .Sub, .int i, .int j => .ok (.int (i - j)) m
  | .Mult, .int i, .int j => if mulOk i j then .ok (.int (i * j)) m else .bad
  | .FloorDiv, .int i, .int j => if divOk j then .ok (.int (i / j)) m else .bad
  | .Mod, .int i, .int j => if decide (0 < j) then .ok (.int (i % j)) m else .bad
  | .Pow, .int i, .int j => if decide (0 ≤ j ∧ j ≤ 1000000 ∧ i.natAbs < 2 ^ 64) then .ok (.int (i ^ j.toNat)) m else .bad
  | .Add, .str a, .str b => if decide (a.length + b.length ≤ LIM) then .ok (.str (a ++ b)) m else .bad
  | .Add, .tup a, .tup b => if decide (a.length + b.length ≤ LIM) then .ok (.tup (a ++ b)) m else .bad
  | .Add, x, y => match top m x, top m y with
    | .lst a, .lst b => if decide (a.length + b.length ≤ LIM) then (if mu then new (.lst (a ++ b)) m else .ok (.lst (a ++ b)) m) else .bad
    | _, _ => .bad
  | .Mult, x, .int k => match top m x with
    | .lst a => if decide (-(2 ^ 63) ≤ k ∧ k < 2 ^ 63 ∧ a.length * k.toNat ≤ LIM) then (if mu then new (.lst (List.replicate k.toNat a).flatten) m else .ok (.lst (List.replicate k.toNat a).flatten) m) else .bad
    | _ => .bad
  | _, _, _ => .bad

def fitD (a : PyData) : Bool := a.canLay0 && decide (a.depth ≤ 64)
/-- == of data -/
def eqD (m : Sto) (x y : D) : Option Bool := match (top m x).py, (top m y).py with
  | some a, some b => if fitD a && fitD b then some (PyData.eqv a b) else none
  | _, _ => none
def D.flat : D → Bool
  | .non => true | .bl _ => true | .int _ => true | .str _ => true | _ => false
/-- == of flat values -/
def eqF : D → D → Bool
  | .non, .non => true
  | .bl a, .bl b => a == b
  | .bl a, .int b => (if a then 1 else 0) == b
  | .int a, .bl b => a == (if b then 1 else 0)
  | .int a, .int b => a == b
  | .str a, .str b => a == b
  | _, _ => false
/-- x in y -/
def inD (m : Sto) (x y : D) : Option Bool := match x, y with
  | .str a, .str z => if a.cps.size = 1 then some (decide (a.cps.getD 0 0 ∈ z.cps.toList)) else some (!(Builtin.Str.occurrences z a 0 z.length 1).isEmpty)
  | _, _ => match top m y with
    | .tup ys => if x.flat && ys.all D.flat then some (ys.any fun z => eqF z x) else none
    | .lst ys => if x.flat && ys.all D.flat then some (ys.any fun z => eqF z x) else none
    | _ => none
def bOut (o : Option Bool) : M D := fun m => match o with
  | some b => .ok (.bl b) m
  | none => .bad
def opCmp (o : CmpOp) (x y : D) : M D := fun m =>
  match o with
  | .Eq => bOut (eqD m x y) m
  | .NotEq => bOut ((eqD m x y).map not) m
  | .Lt => match x, y with
    | .int i, .int j => .ok (.bl (decide (i < j))) m
    | .str i, .str j => .ok (.bl (strLt i j)) m
    | _, _ => .bad
  | .LtE => match x, y with
    | .int i, .int j => .ok (.bl (decide (i ≤ j))) m
    | _, _ => .bad
  | .Gt => match x, y with
    | .int i, .int j => .ok (.bl (decide (j < i))) m
    | _, _ => .bad
  | .GtE => match x, y with
    | .int i, .int j => .ok (.bl (decide (j ≤ i))) m
    | _, _ => .bad
  | .Is => match y with
    | .non => match x with
      | .non => .ok (.bl true) m
      | _ => .ok (.bl false) m
    | _ => .bad
  | .IsNot => match y with
    | .non => match x with
      | .non => .ok (.bl false) m
      | _ => .ok (.bl true) m
    | _ => .bad
  | .In => bOut (inD m x y) m
  | .NotIn => bOut ((inD m x y).map not) m

/-- truth -/
def tru (d : D) : M Bool := fun m => match top m d with
  | .non => .ok false m
  | .bl b => .ok b m
  | .int i => .ok (i != 0) m
  | .str s => if decide (s.length ≤ LIM) then .ok ((s.length : Int) != 0) m else .bad
  | .tup xs => .ok (!xs.isEmpty) m
  | .lst xs => .ok (!xs.isEmpty) m
  | _ => .bad
def asB (d : D) : M Bool := fun m => match d with
  | .bl b => .ok b m
  | _ => .bad

def ixN (n : Nat) (i : Int) : Option Nat := if 0 ≤ i then (if i < n then some i.toNat else none) else if -(n : Int) ≤ i then some (i + n).toNat else none
def atI {α : Type} (xs : List α) (i : Int) : Option α := (ixN xs.length i).bind fun j => xs[j]?
def oOut (o : Option D) : M D := fun m => match o with
  | some d => .ok d m
  | none => .bad
/-- x[y] -/
def opIx (x y : D) : M D := fun m => match top m x, y with
  | .tup xs, .int i => oOut (atI xs i) m
  | .lst xs, .int i => oOut (atI xs i) m
  | .scr ns, .int i => oOut ((atI ns i).map .int) m
  | .str s, .int i => if decide (s.length ≤ LIM) then oOut ((atI s.cps.toList i).map fun c => .str ⟨#[c]⟩) m else .bad
  | _, _ => .bad
def sIx (n d : Nat) : Option Int → Nat
  | none => d
  | some i => if i < 0 then (i + n).toNat else min i.toNat n
def cut {α : Type} (xs : List α) (lo hi : Option Int) : List α := (xs.drop (sIx xs.length 0 lo)).take (sIx xs.length xs.length hi - sIx xs.length 0 lo)
def opSl (mu : Bool) (x : D) (lo hi : Option Int) : M D := fun m => match top m x with
  | .tup xs => .ok (.tup (cut xs lo hi)) m
  | .lst xs => if mu then new (.lst (cut xs lo hi)) m else .ok (.lst (cut xs lo hi)) m
  | .scr ns => .ok (.lst (cut (ns.map .int) lo hi)) m
  | .str s => if decide (s.length ≤ LIM) then .ok (.str ⟨(cut s.cps.toList lo hi).toArray⟩) m else .bad
  | _ => .bad
def opRv (mu : Bool) (x : D) : M D := fun m => match top m x with
  | .lst xs => if mu then new (.lst xs.reverse) m else .ok (.lst xs.reverse) m
  | .tup xs => .ok (.tup xs.reverse) m
  | _ => .bad
/-- x[y] = v -/
def opSet (x y v : D) : M Unit := fun m => match x, y with
  | .ref n, .int i => match m[n]? with
    | some (.lst xs) => match ixN xs.length i with
      | some j => .ok () (m.set n (.lst (xs.set j v)))
      | none => .bad
    | _ => .bad
  | _, _ => .bad

/-! ### classes and what stands at the top -/
structure Cls where
  name : Str
  init : Option Nat
  meths : List (Str × Nat)
  props : List (Str × Nat)
  flds : List Str
structure Phi where
  call : Nat → List D → M D
  W : Nat
  cls : List Cls
  glob : List (Str × D)
def Phi.cl (P : Phi) (C : Str) : Option Cls := P.cls.find? fun c => c.name == C

def putF (f : Str) (v : D) : List (Str × D) → List (Str × D)
  | [] => [(f, v)]
  | (g, x) :: r => if g = f then (g, v) :: r else (g, x) :: putF f v r
/-- o.f -/
def opAt (P : Phi) (f : Str) (x : D) : M D := fun m => match x with
  | .ref n => match m[n]? with
    | some (.ins C fs) => match P.cl C with
      | some c => if c.flds.contains f then oOut (fs.lookup f) m
        else match c.props.lookup f with
          | some k => P.call k [x] m
          | none => .bad
      | none => .bad
    | _ => .bad
  | _ => .bad
/-- o.f = v -/
def opFld (P : Phi) (f : Str) (x v : D) : M Unit := fun m => match x with
  | .ref n => match m[n]? with
    | some (.ins C fs) => match P.cl C with
      | some c => if c.flds.contains f && decide (fs.length < 1000) then .ok () (m.set n (.ins C (putF f v fs))) else .bad
      | none => .bad
    | _ => .bad
  | _ => .bad
/-- o.m(..) -/
def opMe (P : Phi) (f : Str) (x : D) (as : List D) : M D := fun m => match x with
  | .ref n => match m[n]? with
    | some (.ins C fs) => match P.cl C with
      | some c => match c.meths.lookup f with
        | some k => if (fs.lookup f).isNone then P.call k (x :: as) m else .bad
        | none => .bad
      | none => .bad
    | _ => .bad
  | _ => .bad
/-- C(..), the arguments put in order by g -/
def opMkK (P : Phi) (C : Str) (g : List D → List D → M (List D)) (as bs : List D) : M D := fun m => match P.cl C with
  | some c => match c.init with
    | some k => bnd (bnd (g (.ref m.length :: as) bs) (P.call k)) (fun d m' => match d with
        | .non => .ok (.ref m.length) m'
        | _ => .bad) (m ++ [.ins C []])
    | none => .bad
  | none => .bad
def opMk (P : Phi) (C : Str) (as : List D) : M D := opMkK P C (fun l _ => ret l) as []

/-! ### built-in functions -/
def asInts : List D → Option (List Int)
  | [] => some []
  | .int i :: r => (asInts r).map (i :: ·)
  | _ :: _ => none
def asBools : List D → Option (List Bool)
  | [] => some []
  | .bl i :: r => (asBools r).map (i :: ·)
  | _ :: _ => none
def asStrs : List D → Option (List Str)
  | [] => some []
  | .str i :: r => (asStrs r).map (i :: ·)
  | _ :: _ => none
def most : List Int → Int
  | [] => 0
  | [x] => x
  | x :: r => max x (most r)
def least : List Int → Int
  | [] => 0
  | [x] => x
  | x :: r => min x (least r)
/-- the items of a list or tuple -/
def seqOf (m : Sto) (d : D) : Option (List D) := match top m d with
  | .tup xs => some xs
  | .lst xs => some xs
  | .scr ns => some (ns.map .int)
  | _ => none
/-- the built-in type's name of a value -/
def tyOf (m : Sto) (d : D) : Option String := match top m d with
  | .non => some "NoneType"
  | .bl _ => some "bool"
  | .int _ => some "int"
  | .str _ => some "str"
  | .tup _ => some "tuple"
  | .lst _ => some "list"
  | .scr _ => some "list"
  | _ => none
/-- the own __eq__ of an instance -/
def eqOf (P : Phi) (m : Sto) (d : D) : Option (Str × Nat) := match d with
  | .ref j => match m[j]? with
    | some (.ins C _) => match P.cl C with
      | some c => (c.meths.lookup ("__eq__" : Str)).map fun k => (C, k)
      | none => none
    | _ => none
  | _ => none
def notB (ne : Bool) (d : D) : M D := fun m => match d with
  | .bl b => .ok (.bl (b != ne)) m
  | _ => .bad
def insOf (m : Sto) (d : D) : Option Str := match d with
  | .ref j => match m[j]? with
    | some (.ins C _) => some C
    | _ => none
  | _ => none
def opOwn (P : Phi) (ne : Bool) (x y : D) : M D := fun m => match eqOf P m x with
  | some (C, k) => if (tyOf m y).isSome || insOf m y == some C then bnd (P.call k [x, y]) (notB ne) m else .bad
  | none => match eqOf P m y with
    | some (_, k) => if !ne && (tyOf m x).isSome then bnd (P.call k [y, x]) (notB false) m else .bad
    | none => opCmp (if ne then .NotEq else .Eq) x y m
/-- bool(o), o an instance that has no truth of its own -/
def opBo (P : Phi) (x : D) : M D := fun m => match x with
  | .ref j => match m[j]? with
    | some (.ins C _) => match P.cl C with
      | some c => if c.flds.contains ("__bool__" : Str) && c.flds.contains ("__len__" : Str) then .ok (.bl true) m else .bad
      | none => .bad
    | _ => .bad
  | _ => .bad
def tBo (P : Phi) (as : List D) : M D := match as with
  | [d] => opBo P d
  | _ => fun _ => .bad
/-- the built-in classes that laws ask for -/
def tyIs (a : String) (b : String) : Bool := a == b || (a == "bool" && b == "int")
def knownTy (b : String) : Bool := b == "int" || b == "bool" || b == "str" || b == "tuple" || b == "list" || b == "dict"
def isInst1 (P : Phi) (m : Sto) (d c : D) : Option Bool := match c with
  | .ty b => if knownTy b then (match d with
      | .ref n => match m[n]? with
        | some (.ins C' _) => if (P.cl C').isSome then some false else none
        | some (.lst _) => some (tyIs "list" b)
        | none => none
      | _ => (tyOf m d).map fun a => tyIs a b) else none
  | .glb C => if (P.cl C).isSome then (match d with
    | .ref n => match m[n]? with
      | some (.ins C' _) => if (P.cl C').isSome then some (C' == C) else none
      | some (.lst _) => some false
      | none => none
    | _ => (tyOf m d).map fun _ => false) else none
  | _ => none
def showOk (a : PyData) : Bool := a.showable && decide (a.depth ≤ 64) && decide (a.shown.length ≤ LIM)
def bRepr (P : Phi) (d : D) : M D := fun m => match (top m d).py with
  | some a => if showOk a then .ok (.str a.shown) m else .bad
  | none => match d with
    | .ref n => match m[n]? with
      | some (.ins C fs) => match P.cl C with
        | some c => match c.meths.lookup ("__repr__" : Str) with
          | some k => if (fs.lookup ("__repr__" : Str)).isNone then bnd (P.call k [d]) (fun r m' => match r with
            | .str s => .ok (.str s) m'
            | _ => .bad) m else .bad
          | none => .bad
        | none => .bad
      | _ => .bad
    | _ => .bad
/-- the built-in functions that are known; types that are called; methods of lists and texts -/
inductive B where
  | len | abs | max | min | sum | all | any | divmod | isinst | repr | sorted
  deriving DecidableEq
inductive Ty where
  | int | str | bool | tuple | list
  deriving DecidableEq
inductive Bm where
  | append | extend
  deriving DecidableEq
def bLen (as : List D) : M D := fun m => match as with
  | [d] => match top m d with
    | .str s => if decide (s.length ≤ LIM) then .ok (.int s.length) m else .bad
    | _ => match seqOf m d with
      | some xs => .ok (.int xs.length) m
      | none => .bad
  | _ => .bad
def bAbs (as : List D) : M D := fun m => match as with
  | [.int i] => .ok (.int (if i < 0 then -i else i)) m
  | _ => .bad
def bMax (as : List D) : M D := fun m => match as with
  | [.int i, .int j] => .ok (.int (if j > i then j else i)) m
  | [d] => match top m d with
    | .lst xs => match asInts xs with
      | some (n :: ns) => .ok (.int (most (n :: ns))) m
      | _ => .bad
    | _ => .bad
  | _ => .bad
def bMin (as : List D) : M D := fun m => match as with
  | [.int i, .int j] => .ok (.int (if j < i then j else i)) m
  | [d] => match top m d with
    | .lst xs => match asInts xs with
      | some (n :: ns) => .ok (.int (least (n :: ns))) m
      | _ => .bad
    | _ => .bad
  | _ => .bad
def bSum (as : List D) : M D := fun m => match as with
  | [d] => match top m d with
    | .lst xs => match asInts xs with
      | some ns => .ok (.int ns.sum) m
      | _ => .bad
    | _ => .bad
  | _ => .bad
def bAll (as : List D) : M D := fun m => match as with
  | [d] => match top m d with
    | .lst xs => match asBools xs with
      | some ns => .ok (.bl (ns.all id)) m
      | _ => .bad
    | _ => .bad
  | _ => .bad
def bAny (as : List D) : M D := fun m => match as with
  | [d] => match top m d with
    | .lst xs => match asBools xs with
      | some ns => .ok (.bl (ns.any id)) m
      | _ => .bad
    | _ => .bad
  | _ => .bad
def bDivmod (as : List D) : M D := fun m => match as with
  | [.int i, .int j] => if divOk j then .ok (.tup [.int (i / j), .int (i % j)]) m else .bad
  | _ => .bad
def bIsinst (P : Phi) (as : List D) : M D := fun m => match as with
  | [d, c] => bOut (isInst1 P m d c) m
  | _ => .bad
def bRep (P : Phi) (as : List D) : M D := fun m => match as with
  | [d] => bRepr P d m
  | _ => .bad
/-- ints in order -/
def insI (x : Int) : List Int → List Int
  | [] => [x]
  | y :: ys => if x ≤ y then x :: y :: ys else y :: insI x ys
def sortI : List Int → List Int
  | [] => []
  | x :: xs => insI x (sortI xs)
def bSorted (as : List D) : M D := fun m => match as with
  | [d] => match top m d with
    | .lst xs => match asInts xs with
      | some ns => .ok (.lst ((sortI ns).map .int)) m
      | _ => .bad
    | _ => .bad
  | _ => .bad
def callB (P : Phi) (f : B) (as : List D) : M D := match f with
  | .len => bLen as | .abs => bAbs as | .max => bMax as | .min => bMin as | .sum => bSum as | .all => bAll as | .any => bAny as | .divmod => bDivmod as | .isinst => bIsinst P as | .repr => bRep P as | .sorted => bSorted as
def tInt (as : List D) : M D := fun m => match as with
  | [.int i] => .ok (.int i) m
  | [.bl b] => .ok (.int (if b then 1 else 0)) m
  | [.str s] => match PySem.intText? s with
    | some n => if decide (s.length ≤ 640) then .ok (.int n) m else .bad
    | none => .bad
  | _ => .bad
def tStr (as : List D) : M D := fun m => match as with
  | [.int i] => if decide (i.natAbs.log2 < 1920) then .ok (.str (toString i)) m else .bad
  | _ => .bad
def tBool (as : List D) : M D := fun m => match as with
  | [.int i] => .ok (.bl (i != 0)) m
  | [.bl b] => .ok (.bl b) m
  | _ => .bad
def tTuple (as : List D) : M D := fun m => match as with
  | [d] => match top m d with
    | .lst xs => .ok (.tup xs) m
    | .tup xs => .ok (.tup xs) m
    | _ => .bad
  | _ => .bad
def tList (mu : Bool) (as : List D) : M D := fun m => match as with
  | [d] => match top m d with
    | .lst xs => if mu then new (.lst xs) m else .ok (.lst xs) m
    | .tup xs => if mu then new (.lst xs) m else .ok (.lst xs) m
    | _ => .bad
  | _ => .bad
def callT (mu : Bool) (f : Ty) (as : List D) : M D := match f with
  | .int => tInt as | .str => tStr as | .bool => tBool as | .tuple => tTuple as | .list => tList mu as
def mAppend (x : D) (as : List D) : M D := fun m => match x, as with
  | .ref n, [d] => match m[n]? with
    | some (.lst xs) => if decide (xs.length < LIM) then .ok .non (m.set n (.lst (xs ++ [d]))) else .bad
    | _ => .bad
  | _, _ => .bad
def mExtend (x : D) (as : List D) : M D := fun m => match x, as with
  | .ref n, [d] => match m[n]?, top m d with
    | some (.lst xs), .lst ys => if decide (xs.length + ys.length ≤ LIM) then .ok .non (m.set n (.lst (xs ++ ys))) else .bad
    | _, _ => .bad
  | _, _ => .bad
def callM (f : Bm) (x : D) (as : List D) : M D := match f with
  | .append => mAppend x as | .extend => mExtend x as
/-- o[i] of o[i] op= e -/
def opGet (x y : D) : M D := fun m => match x, y with
  | .ref n, .int i => match m[n]? with
    | some (.lst xs) => oOut (atI xs i) m
    | _ => .bad
  | _, _ => .bad
/-- x.join(y) -/
def joinD (a : Str) (xs : List D) : M D := fun m => match asStrs xs with
  | some ys => if decide ((ys.map (·.length)).sum + ys.length * a.length ≤ LIM) then .ok (.str (Str.join a ys)) m else .bad
  | none => .bad
def opJoin (x y : D) : M D := fun m => match x with
  | .str a => match top m y with
    | .lst xs => joinD a xs m
    | .tup xs => joinD a xs m
    | _ => .bad
  | _ => .bad
/-- list(range(..)) -/
def rgOk (a b : Int) : Bool := decide (-(2 ^ 62) ≤ a ∧ a < 2 ^ 62 ∧ -(2 ^ 62) ≤ b ∧ b < 2 ^ 62 ∧ (b - a).toNat ≤ LIM)
def rngL (a b : Int) : List D := (List.range (b - a).toNat).map fun k => .int (a + (k : Nat))
def mkRg (mu : Bool) (a b : Int) : M D := fun m => if rgOk a b then (if mu then new (.lst (rngL a b)) m else .ok (.lst (rngL a b)) m) else .bad
def opRg1 (mu : Bool) (x : D) : M D := fun m => match x with
  | .int j => mkRg mu 0 j m
  | _ => .bad
def opRg2 (mu : Bool) (x y : D) : M D := fun m => match x, y with
  | .int i, .int j => mkRg mu i j m
  | _, _ => .bad
/-- x.index(y), of flat values -/
def findD (y : D) : List D → Option Nat
  | [] => none
  | x :: xs => if eqF x y then some 0 else (findD y xs).map (· + 1)
def preT (x : D) : M Unit := fun m => match top m x with
  | .lst _ => .ok () m
  | _ => .bad
def opIdx (x y : D) : M D := fun m => match top m x with
  | .lst xs => if y.flat && xs.all D.flat then (match findD y xs with
      | some k => .ok (.int (k : Nat)) m
      | none => .bad) else .bad
  | _ => .bad
end LC

/-! # LcB: terms of the small language, and what they mean -/
namespace LC
open PySem

inductive T where
  -- values
  | v (k : Nat) | g (x : Str) | bt (x : String) | i (n : Int) | s (x : Str) | b (k : Bool) | n
  | bin (mu : Bool) (o : Operator) (x y : T) | neg (x : T)
  | cmp (o : CmpOp) (x y : T) | chn (o o2 : CmpOp) (x y z : T)
  | an (x y : T) | or (x y : T) | nt (x : T) | ife (c x y : T)
  | tup (es : T) | ls (mu : Bool) (es : T) | ix (x y : T) | sl (mu : Bool) (x lo hi : T) | rv (mu : Bool) (x : T)
  | at (f : Str) (x : T) | fs (es : T) | fv (x : T)
  | lc (mu : Bool) (own : List Nat) (e g it c : T)
  | call (k : Nat) (es : T) | callk (k : Nat) (es : T) (ks : List Str) (ws : T) (pm : List Nat)
  | mk (C : Str) (es : T) | mkk (C : Str) (es : T) (ks : List Str) (ws : T) (pm : List Nat)
  | me (f : Str) (x es : T) | mek (f : Str) (x es : T) (ks : List Str) (ws : T) (pm : List Nat)
  | bi (f : B) (es : T) | ty (f : Ty) (mu : Bool) (es : T) | bm (f : Bm) (x es : T)
  | eo (ne : Bool) (x y : T) | te (ne : Bool) (x y : T) | bo (es : T)
  | jn (x y : T) | rl (mu : Bool) (x : T) | rl2 (mu : Bool) (x y : T) | li (x y : T)
  -- rows of them
  | nil | cons (x y : T) | star (x y : T)
  -- tests
  | tc (o : CmpOp) (x y : T) | tch (o o2 : CmpOp) (x y z : T) | ta (x y : T) | to (x y : T) | tn (x : T) | tv (x : T)
  -- what is walked
  | itr (es : T) | ite (es : T) | itz (es : T) | itv (x : T)
  -- targets
  | gv (k : Nat) | gt (es : T) | gs (x y : T) | ga (f : Str) (x : T)
  -- statements
  | ret0 | ret (x : T) | ex1 (x : T) | pass | brk | cnt | ifs (c x y : T) | whl (c x : T) | fr (g it x : T) | bad
  | aug (k : Nat) (o : Operator) (x : T) | augs (x y : T) (o : Operator) (z : T) | try1 (x : T)
  | set (k : Nat) (x : T) | setc (k : Nat) (x : T) | par (ks : List Nat) (es : T) | asg (g x : T)

structure Den where
  e : Env → M D := fun _ => LC.bad
  t : Env → M Bool := fun _ => LC.bad
  a : Env → M (List D) := fun _ => LC.bad
  j : Str → Env → M Str := fun _ _ => LC.bad
  q : Env → M Src := fun _ => LC.bad
  g : D → Env → M Env := fun _ _ => LC.bad
  gs : List D → Env → M Env := fun _ _ => LC.bad
  w : List Nat := []
  s : Env → M Flow := fun _ => LC.bad

def getV (k : Nat) (r : Env) : M D := fun m => match r[k]? with
  | some (some d) => .ok d m
  | _ => .bad
def asI (d : D) : M (Option Int) := fun m => match d with
  | .int i => .ok (some i) m
  | _ => .bad
def asS (d : D) : M Str := fun m => match d with
  | .str i => .ok i m
  | _ => .bad
/-- a tuple, a list of these -/
def mkTup (ds : List D) : M D := fun m => if decide (ds.length ≤ LIM) then .ok (.tup ds) m else .bad
def mkLst (mu : Bool) (ds : List D) : M D := fun m => if decide (ds.length ≤ LIM) then (if mu then new (.lst ds) m else .ok (.lst ds) m) else .bad
/-- the items of a starred value -/
def starred (d : D) : M (List D) := fun m => match top m d with
  | .tup xs => .ok xs m
  | .lst xs => .ok xs m
  | _ => .bad
/-- {x} -/
def fmt (d : D) : M D := fun m => match d with
  | .str y => if decide (y.length ≤ LIM) then .ok (.str y) m else .bad
  | .int i => if decide (i.natAbs.log2 < 1920) then .ok (.str (toString i)) m else .bad
  | _ => .bad
def small62 (i : Int) : Bool := decide (-(2 ^ 62) ≤ i ∧ i < 2 ^ 62)
def rangeL (lo hi : Int) : List D := (List.range (hi - lo).toNat).map fun k => .int (lo + (k : Nat))
/-- range(i, j, c) -/
def rgOk3 (i j c : Int) : Bool := decide (c ≠ 0) && decide (c.natAbs < 1073741824) && PySem.Builtin.Range.small i j c && decide (0 ≤ PySem.Builtin.Range.rangeSize i j c)
def rangeC (i j c : Int) : List D := (List.range (PySem.Builtin.Range.rangeSize i j c).toNat).map fun k => .int (i + (k : Nat) * c)
def srcR (as : List D) : M Src := fun m => match as with
  | [.int j] => if small62 j then .ok (.fix (rangeL 0 j)) m else .bad
  | [.int i, .int j] => if small62 i && small62 j then .ok (.fix (rangeL i j)) m else .bad
  | [.int i, .int j, .int c] => if rgOk3 i j c then .ok (.fix (rangeC i j c)) m else .bad
  | _ => .bad
def srcE (as : List D) : M Src := fun m => match as with
  | [.tup xs] => .ok (.fix ((List.range xs.length).zip xs |>.map fun p => .tup [.int (p.1 : Nat), p.2])) m
  | [.lst xs] => .ok (.fix ((List.range xs.length).zip xs |>.map fun p => .tup [.int (p.1 : Nat), p.2])) m
  | _ => .bad
def srcZ (as : List D) : M Src := fun m => match as with
  | [.tup xs, .tup ys] => .ok (.fix ((xs.zip ys).map fun p => .tup [p.1, p.2])) m
  | [.lst xs, .lst ys] => .ok (.fix ((xs.zip ys).map fun p => .tup [p.1, p.2])) m
  | _ => .bad
def srcV (d : D) : M Src := fun m => match d with
  | .tup xs => .ok (.fix xs) m
  | .lst xs => .ok (.fix xs) m
  | .scr ns => .ok (.fix (ns.map .int)) m
  | .str z => .ok (.fix (z.cps.toList.map fun c => .str ⟨#[c]⟩)) m
  | .ref n => match m[n]? with
    | some (.lst _) => .ok (.live n) m
    | _ => .bad
  | _ => .bad

/-- a for: the body for each item -/
def forL (body : D → Env → M Flow) : List D → Env → M Flow
  | [], r => LC.ret (.nx r)
  | d :: ds, r => fun m => match body d r m with
    | .ok (.nx r') m' => forL body ds r' m'
    | .ok (.ct r') m' => forL body ds r' m'
    | .ok (.bk r') m' => .ok (.nx r') m'
    | .ok (.rt x) m' => .ok (.rt x) m'
    | .exc C fs m' => .exc C fs m'
    | .bad => .bad
def forV (body : D → Env → M Flow) (n : Nat) : Nat → Nat → Env → M Flow
  | 0, _, _ => LC.bad
  | w + 1, k, r => fun m => match m[n]? with
    | some (.lst xs) => match xs[k]? with
      | none => .ok (.nx r) m
      | some d => match body d r m with
        | .ok (.nx r') m' => forV body n w (k + 1) r' m'
        | .ok (.ct r') m' => forV body n w (k + 1) r' m'
        | .ok (.bk r') m' => .ok (.nx r') m'
        | .ok (.rt x) m' => .ok (.rt x) m'
        | .exc C fs m' => .exc C fs m'
        | .bad => .bad
    | _ => .bad
def whileM (c : Env → M Bool) (body : Env → M Flow) : Nat → Env → M Flow
  | 0, _ => LC.bad
  | w + 1, r => fun m => match c r m with
    | .ok false m' => .ok (.nx r) m'
    | .ok true m' => match body r m' with
      | .ok (.nx r') m2 => whileM c body w r' m2
      | .ok (.ct r') m2 => whileM c body w r' m2
      | .ok (.bk r') m2 => .ok (.nx r') m2
      | .ok (.rt x) m2 => .ok (.rt x) m2
      | .exc C fs m2 => .exc C fs m2
      | .bad => .bad
    | .exc C fs m' => .exc C fs m'
    | .bad => .bad
/-- a comprehension: each item in an environment of its own -/
def lcL (turn : D → M (Option D)) : List D → List D → M (List D)
  | [], acc => LC.ret acc
  | d :: ds, acc => fun m => match turn d m with
    | .ok none m' => lcL turn ds acc m'
    | .ok (some x) m' => if decide (acc.length < LIM) then lcL turn ds (acc ++ [x]) m' else .bad
    | .exc C fs m' => .bad
    | .bad => .bad
def lcV (turn : D → M (Option D)) (n : Nat) : Nat → Nat → List D → M (List D)
  | 0, _, _ => LC.bad
  | w + 1, k, acc => fun m => match m[n]? with
    | some (.lst xs) => match xs[k]? with
      | none => .ok acc m
      | some d => match turn d m with
        | .ok none m' => lcV turn n w (k + 1) acc m'
        | .ok (some x) m' => if decide (acc.length < LIM) then lcV turn n w (k + 1) (acc ++ [x]) m' else .bad
        | .exc C fs m' => .bad
        | .bad => .bad
    | _ => .bad
def wipeE (r : Env) : List Nat → Env
  | [] => r
  | k :: ks => (wipeE r ks).set k none
/-- the method's def -/
def preMe (P : Phi) (f : Str) (x : D) : M Nat := fun m => match x with
  | .ref n => match m[n]? with
    | some (.ins C fs) => match P.cl C with
      | some c => match c.meths.lookup f with
        | some k => if (fs.lookup f).isNone then .ok k m else .bad
        | none => .bad
      | none => .bad
    | _ => .bad
  | _ => .bad
/-- a list that changes -/
def preL (x : D) : M Unit := fun m => match x with
  | .ref n => match m[n]? with
    | some (.lst _) => .ok () m
    | _ => .bad
  | _ => .bad
/-- a op= b of numbers and texts -/
def opAug (o : Operator) (x y : D) : M D := fun m => match o, x, y with
  | .Add, .int i, .int j => .ok (.int (i + j)) m
  | .Sub, .int i, .int j => .ok (.int (i - j)) m
  | .Add, .str a, .str b => if decide (a.length + b.length ≤ LIM) then .ok (.str (a ++ b)) m else .bad
  | _, _, _ => .bad
/-- the arguments by the parameters' order: n by place, m by name -/
def pick {α : Type} (pm : List Nat) (l : List α) : Option (List α) := pm.mapM fun k => l[k]?
def permK (n m : Nat) (pm : List Nat) (as bs : List D) : M (List D) := fun s => if as.length = n ∧ bs.length = m then (match pick pm (as ++ bs) with
  | some l => .ok l s
  | none => .bad) else .bad
/-- a op= b -/
def setAll : List Nat → List D → Env → M Env
  | [], [], r => LC.ret r
  | k :: ks, d :: ds, r => setAll ks ds (r.set k (some d))
  | _, _, _ => LC.bad
def isGn : T → Bool
  | .gv _ => true
  | _ => false

def seqF (fl : Flow) (k : Env → M Flow) : M Flow := match fl with
  | .nx r => k r
  | .rt d => LC.ret (.rt d)
  | .bk r => LC.ret (.bk r)
  | .ct r => LC.ret (.ct r)
/-- one turn of a comprehension -/
def lcTurn (g : D → Env → M Env) (t : Env → M Bool) (e : Env → M D) (r : Env) (d : D) : M (Option D) :=
  bnd (g d r) fun r2 => bnd (t r2) fun k => if k then bnd (e r2) fun x => LC.ret (some x) else LC.ret none

/-- a comprehension's test, if it has one -/
def ifT (c : T) (t : Env → M Bool) : Env → M Bool := match c with
  | .nil => fun _ => LC.ret true
  | _ => t

def den (P : Phi) : T → Den
  | .v k => { e := getV k }
  | .g x => { e := fun _ => oOut (P.glob.lookup x) }
  | .bt x => { e := fun _ => LC.ret (.ty x) }
  | .i n => { e := fun _ => LC.ret (.int n) }
  | .s x => { e := fun _ => LC.ret (.str x) }
  | .b k => { e := fun _ => LC.ret (.bl k) }
  | .n => { e := fun _ => LC.ret .non }
  | .bin mu o x y => { e := fun r => bnd ((den P x).e r) fun p => bnd ((den P y).e r) fun q => opBin mu o p q }
  | .neg x => { e := fun r => bnd ((den P x).e r) fun p => bnd (asI p) fun k => LC.ret (.int (-(k.getD 0))) }
  | .cmp o x y => { e := fun r => bnd ((den P x).e r) fun p => bnd ((den P y).e r) fun q => opCmp o p q }
  | .chn o o2 x y z => { e := fun r => bnd ((den P x).e r) fun p => bnd ((den P y).e r) fun q => bnd (opCmp o p q) fun c => bnd (asB c) fun k =>
                                        if k then bnd ((den P z).e r) fun u => opCmp o2 q u else LC.ret (.bl false) }
  | .an x y => { e := fun r => bnd ((den P x).e r) fun p => bnd (asB p) fun k => if k then (den P y).e r else LC.ret (.bl false) }
  | .or x y => { e := fun r => bnd ((den P x).e r) fun p => bnd (asB p) fun k => if k then LC.ret (.bl true) else (den P y).e r }
  | .nt x => { e := fun r => bnd ((den P x).e r) fun p => bnd (asB p) fun k => LC.ret (.bl (!k)) }
  | .ife c x y => { e := fun r => bnd ((den P c).t r) fun k => if k then (den P x).e r else (den P y).e r }
  | .tup es => { e := fun r => bnd ((den P es).a r) mkTup }
  | .ls mu es => { e := fun r => bnd ((den P es).a r) (mkLst mu) }
  | .ix x y => { e := fun r => bnd ((den P x).e r) fun p => bnd ((den P y).e r) fun q => opIx p q }
  | .sl mu x lo hi => { e := fun r => bnd ((den P x).e r) fun p =>
                                        bnd (match lo with | .nil => LC.ret none | _ => bnd ((den P lo).e r) asI) fun l =>
                                        bnd (match hi with | .nil => LC.ret none | _ => bnd ((den P hi).e r) asI) fun h => opSl mu p l h }
  | .rv mu x => { e := fun r => bnd ((den P x).e r) (opRv mu) }
  | .at f x => { e := fun r => bnd ((den P x).e r) (opAt P f) }
  | .fs es => { e := fun r => bnd ((den P es).j Str.empty r) fun z => LC.ret (.str z) }
  | .fv x => { e := fun r => bnd ((den P x).e r) fmt }
  | .lc mu own e g it c => { e := fun r => bnd ((den P it).q r) fun q => bnd (match q with
                                        | .fix ds => lcL (lcTurn (den P g).g (ifT c (den P c).t) (den P e).e (wipeE r own)) ds []
                                        | .live n => lcV (lcTurn (den P g).g (ifT c (den P c).t) (den P e).e (wipeE r own)) n P.W 0 []) fun xs => if mu then new (.lst xs) else LC.ret (.lst xs) }
  | .call k es => { e := fun r => bnd ((den P es).a r) fun as => P.call k as }
  | .callk k es ks ws pm => { e := fun r => bnd ((den P es).a r) fun as => bnd ((den P ws).a r) fun bs => bnd (permK (pm.length - ks.length) ks.length pm as bs) (P.call k) }
  | .mk C es => { e := fun r => bnd ((den P es).a r) (opMk P C) }
  | .mkk C es ks ws pm => { e := fun r => bnd ((den P es).a r) fun as => bnd ((den P ws).a r) fun bs => opMkK P C (permK (pm.length - ks.length) ks.length pm) as bs }
  | .eo ne x y => { e := fun r => bnd ((den P x).e r) fun p => bnd ((den P y).e r) fun q => opOwn P ne p q }
  | .te ne x y => { t := fun r => bnd ((den P x).e r) fun p => bnd ((den P y).e r) fun q => bnd (opOwn P ne p q) asB }
  | .bo es => { e := fun r => bnd ((den P es).a r) (tBo P) }
  | .me f x es => { e := fun r => bnd ((den P x).e r) fun p => bnd (preMe P f p) fun k => bnd ((den P es).a r) fun as => P.call k (p :: as) }
  | .mek f x es ks ws pm => { e := fun r => bnd ((den P x).e r) fun p => bnd (preMe P f p) fun k => bnd ((den P es).a r) fun as => bnd ((den P ws).a r) fun bs => bnd (permK (pm.length - ks.length) ks.length pm (p :: as) bs) (P.call k) }
  | .bi f es => { e := fun r => bnd ((den P es).a r) (callB P f) }
  | .ty f mu es => { e := fun r => bnd ((den P es).a r) (callT mu f) }
  | .bm f x es => { e := fun r => bnd ((den P x).e r) fun p => bnd (preL p) fun _ => bnd ((den P es).a r) fun as => callM f p as }
  | .jn x y => { e := fun r => bnd ((den P x).e r) fun p => bnd ((den P y).e r) fun q => opJoin p q }
  | .rl mu x => { e := fun r => bnd ((den P x).e r) (opRg1 mu) }
  | .rl2 mu x y => { e := fun r => bnd ((den P x).e r) fun p => bnd ((den P y).e r) fun q => opRg2 mu p q }
  | .li x y => { e := fun r => bnd ((den P x).e r) fun p => bnd (preT p) fun _ => bnd ((den P y).e r) fun q => opIdx p q }
  | .nil => { a := fun _ => LC.ret [], j := fun acc _ => LC.ret acc, s := fun r => LC.ret (.nx r), gs := fun ds r => match ds with | [] => LC.ret r | _ => LC.bad }
  | .cons x y => { a := fun r => bnd ((den P x).e r) fun p => bnd ((den P y).a r) fun q => LC.ret (p :: q),
                   j := fun acc r => bnd ((den P x).e r) fun p => bnd (asS p) fun z => if decide ((acc ++ z).length ≤ LIM) then (den P y).j (acc ++ z) r else LC.bad,
                   s := fun r => bnd ((den P x).s r) fun fl => seqF fl (den P y).s,
                   gs := fun ds r => match ds with | d :: ds => bnd ((den P x).g d r) (fun r' => (den P y).gs ds r') | [] => LC.bad,
                   w := (den P x).w ++ (den P y).w }
  | .star x y => { a := fun r => bnd ((den P x).e r) fun p => bnd (starred p) fun l => bnd ((den P y).a r) fun q => LC.ret (l ++ q) }
  | .tc o x y => { t := fun r => bnd ((den P x).e r) fun p => bnd ((den P y).e r) fun q => bnd (opCmp o p q) asB }
  | .tch o o2 x y z => { t := fun r => bnd ((den P x).e r) fun p => bnd ((den P y).e r) fun q => bnd (opCmp o p q) fun c => bnd (asB c) fun k =>
                                        if k then bnd ((den P z).e r) fun u => bnd (opCmp o2 q u) asB else LC.ret false }
  | .ta x y => { t := fun r => bnd ((den P x).t r) fun k => if k then (den P y).t r else LC.ret false }
  | .to x y => { t := fun r => bnd ((den P x).t r) fun k => if k then LC.ret true else (den P y).t r }
  | .tn x => { t := fun r => bnd ((den P x).t r) fun k => LC.ret (!k) }
  | .tv x => { t := fun r => bnd ((den P x).e r) tru }
  | .itr es => { q := fun r => bnd ((den P es).a r) srcR }
  | .ite es => { q := fun r => bnd ((den P es).a r) srcE }
  | .itz es => { q := fun r => bnd ((den P es).a r) srcZ }
  | .itv x => { q := fun r => bnd ((den P x).e r) srcV }
  | .gv k => { g := fun d r => LC.ret (r.set k (some d)), w := [k] }
  | .gt es => { g := fun d r => match d with | .tup xs => (den P es).gs xs r | _ => LC.bad, w := (den P es).w }
  | .gs x y => { g := fun d r => bnd ((den P x).e r) fun p => bnd ((den P y).e r) fun q => bnd (opSet p q d) fun _ => LC.ret r }
  | .ga f x => { g := fun d r => bnd ((den P x).e r) fun p => bnd (opFld P f p d) fun _ => LC.ret r }
  | .ret0 => { s := fun _ => LC.ret (.rt .non) }
  | .ret x => { s := fun r => bnd ((den P x).e r) fun p => LC.ret (.rt p) }
  | .ex1 x => { s := fun r => bnd ((den P x).e r) fun _ => LC.ret (.nx r) }
  | .pass => { s := fun r => LC.ret (.nx r) }
  | .brk => { s := fun r => LC.ret (.bk r) }
  | .cnt => { s := fun r => LC.ret (.ct r) }
  | .ifs c x y => { s := fun r => bnd ((den P c).t r) fun k => if k then (den P x).s r else (den P y).s r }
  | .whl c x => { s := fun r => whileM (den P c).t (den P x).s P.W r }
  | .fr g it x => { s := fun r => bnd ((den P it).q r) fun q => match q with
                                        | .fix ds => forL (fun d r => bnd ((den P g).g d r) fun r2 => (den P x).s r2) ds r
                                        | .live n => forV (fun d r => bnd ((den P g).g d r) fun r2 => (den P x).s r2) n P.W 0 r }
  | .bad => {}
  | .aug k o x => { s := fun r => bnd (getV k r) fun p => bnd ((den P x).e r) fun q => bnd (opAug o p q) fun z => LC.ret (.nx (r.set k (some z))) }
  | .augs x y o z => { s := fun r => bnd ((den P x).e r) fun p => bnd ((den P y).e r) fun q => bnd (opGet p q) fun u => bnd ((den P z).e r) fun w => bnd (opAug o u w) fun h => bnd (opSet p q h) fun _ => LC.ret (.nx r) }
  | .try1 x => { s := fun r m => match (den P x).s r m with | .exc _ _ _ => .bad | o => o }
  | .set k x => { s := fun r => bnd ((den P x).e r) fun p => LC.ret (.nx (r.set k (some p))) }
  | .setc k x => { s := fun r => bnd ((den P x).e r) fun p => LC.ret (.nx (r.set k (some p))) }
  | .par ks es => { s := fun r => bnd ((den P es).a r) fun ds => bnd (setAll ks ds r) fun r' => LC.ret (.nx r') }
  | .asg g x => { s := fun r => bnd ((den P x).e r) fun p => bnd ((den P g).g p r) fun r' => LC.ret (.nx r') }

/-- a def: how many parameters, how many names, its body -/
structure DefI where
  np : Nat
  ns : Nat
  body : T
def runDef (P : Phi) (d : DefI) (as : List D) : M D := fun m =>
  if as.length = d.np then match (den P d.body).s (as.map some ++ List.replicate (d.ns - d.np) none) m with
    | .ok (.nx _) m' => .ok .non m'
    | .ok (.rt x) m' => .ok x m'
    | .ok _ _ => .bad
    | .exc C fs m' => .exc C fs m'
    | .bad => .bad
  else .bad
structure Prog where
  defs : List DefI
  cls : List Cls
  glob : List (Str × D)
  W : Nat
/-- the program, so many calls deep -/
def callD (G : Prog) : Nat → Nat → List D → M D
  | 0, _, _ => LC.bad
  | n + 1, k, as => match G.defs[k]? with
    | some d => runDef ⟨callD G n, G.W, G.cls, G.glob⟩ d as
    | none => LC.bad
def phi (G : Prog) (n : Nat) : Phi := ⟨callD G n, G.W, G.cls, G.glob⟩
end LC

/-! # LcC: how values and the store stand in the model's heap -/
namespace LC
open PySem PySem.Spec PyProof.Rows L2

/-- a list of ints that is only read: known to the object, or of the written part -/
def SqRead (K : PySem.W.Frag) (H : Hp) (a : Addr) (xs : List V) : Prop :=
  (∃ o, H a = some (.frz o (.lst xs))) ∨
    ∃ (o : Obj) (its : Array Value) (n : Nat), K.lookup a = some o ∧ o.cls = .type "list" ∧ o.dict = none ∧ o.data = .seq its n ∧ its.size ≤ sizeLine ∧ Vals xs its.toList
theorem SqRead.sq {K : PySem.W.Frag} {H : Hp} {a : Addr} {xs : List V} (h : SqRead K H a xs) : SqL K H a xs := by
  rcases h with h | h
  · exact .inl (.inr h)
  · exact .inr h

/-- where the places of the store lie, and lists that are being made -/
structure Pl where
  f : Nat → Addr
  z : Addr → Prop
instance : CoeFun Pl fun _ => Nat → Addr := ⟨Pl.f⟩
section
variable (K : PySem.W.Frag) (mg : Str → Option Value) (io : Pl) (N : Nat) (H : Hp)
/-- no place, no list that is being made -/
def Nowhere (a : Addr) : Prop := (∀ n, n < N → a ≠ io n) ∧ ¬ io.z a
mutual
def RepV : D → V → Prop
  | .non, v => v = .non
  | .bl b, v => v = .bl b
  | .int i, v => v = .int i
  | .str s, v => v = .str s
  | .tup ds, v => ∃ a vs, v = .ref a ∧ SqT K H a vs ∧ RepVs ds vs
  | .lst ds, v => ∃ a vs, v = .ref a ∧ H a = some (.lst vs) ∧ Nowhere io N a ∧ RepVs ds vs
  | .scr ns, v => ∃ a, v = .ref a ∧ SqRead K H a (ns.map V.int)
  | .ref n, v => n < N ∧ v = .ref (io n)
  | .glb x, v => ∃ a, mg x = some (.ref a) ∧ v = .ref a
  | .ty n, v => v = .ty n
def RepVs : List D → List V → Prop
  | [], vs => vs = []
  | d :: ds, vs => ∃ v r, vs = v :: r ∧ RepV d v ∧ RepVs ds r
end
def RepF : List (Str × D) → List (Str × V) → Prop
  | [], l => l = []
  | p :: ps, l => ∃ v r, l = (p.1, v) :: r ∧ RepV K mg io N H p.2 v ∧ RepF ps r
def RepO (a : Addr) : Ob → Prop
  | .lst ds => ∃ vs, H a = some (.lst vs) ∧ RepVs K mg io N H ds vs
  | .ins C fs => ∃ Ca dx fvs, mg C = some (.ref Ca) ∧ H a = some (.ins Ca dx fvs) ∧ RepF K mg io N H fs fvs
end

structure ExtW (io : Pl) (N : Nat) (H : Hp) (io' : Pl) (N' : Nat) (H' : Hp) : Prop where
  le : N ≤ N'
  ag : ∀ n, n < N → io' n = io n
  fr : ∀ n, N ≤ n → n < N' → H (io' n) = none
  kp : ∀ a o, H a = some o → Nowhere io N a → H' a = some o
  zf : ∀ a, io'.z a → io.z a ∨ H a = none
structure Ext (io : Pl) (N : Nat) (H : Hp) (io' : Pl) (N' : Nat) (H' : Hp) : Prop extends ExtW io N H io' N' H' where
  th : ∀ n, n < N → H (io n) ≠ none → H' (io n) ≠ none
  kz : ∀ a, io.z a → H a ≠ none → H' a = H a
  zz : io'.z = io.z

section
variable {K : PySem.W.Frag} {mg : Str → Option Value} {io io' io2 : Pl} {N N' N2 : Nat} {H H' H2 : Hp} {m m' : Sto}
theorem Ext.refl : Ext io N H io N H := ⟨⟨Nat.le_refl _, fun _ _ => rfl, fun n a b => absurd a (by omega), fun _ _ e _ => e, fun _ z => .inl z⟩, fun _ _ e => e, fun _ _ _ => rfl, rfl⟩
theorem Ext.trans (x : Ext io N H io' N' H') (y : Ext io' N' H' io2 N2 H2) : Ext io N H io2 N2 H2 where
  le := Nat.le_trans x.le y.le
  ag := fun n h => (y.ag n (by have := x.le; omega)).trans (x.ag n h)
  fr := fun n h1 h2 => by
    by_cases hn : n < N'
    · rw [y.ag n hn]; exact x.fr n h1 hn
    · have z := y.fr n (by omega) h2
      cases e : H (io2 n) with
      | none => rfl
      | some o =>
        by_cases hm : ∃ k, k < N ∧ io2 n = io k
        · obtain ⟨k, hk, ek⟩ := hm
          have t := x.th k hk (by rw [← ek, e]; simp)
          rw [← ek] at t; exact absurd z t
        · by_cases hz : io.z (io2 n)
          · have q := x.kz _ hz (by rw [e]; simp)
            rw [q, e] at z; cases z
          · have q := x.kp _ _ e ⟨fun k hk ek => hm ⟨k, hk, ek⟩, hz⟩
            rw [q] at z; cases z
  zz := y.zz.trans x.zz
  zf := fun a z => .inl (by rw [← x.zz, ← y.zz]; exact z)
  kz := fun a h e => by
    have e1 := x.kz a h e
    exact (y.kz a (by rw [x.zz]; exact h) (by rw [e1]; exact e)).trans e1
  kp := fun a o e h => y.kp a o (x.kp a o e h) ⟨(fun n hn en => by
    by_cases hm : n < N
    · exact h.1 n hm (en.trans (x.ag n hm))
    · have z := x.fr n (by omega) hn
      rw [← en, e] at z; cases z), (by rw [x.zz]; exact h.2)⟩
  th := fun n h e => by
    have z := x.th n h e
    have y' := y.th n (by have := x.le; omega)
    rw [x.ag n h] at y'
    exact y' z

structure SRel (K : PySem.W.Frag) (mg : Str → Option Value) (io : Pl) (m : Sto) (H : Hp) : Prop where
  inj : ∀ j k, j < m.length → k < m.length → io j = io k → j = k
  ob : ∀ k o, m[k]? = some o → RepO K mg io m.length H (io k) o
  zl : ∀ a, io.z a → ∃ vs, H a = some (.lst vs)
  zn : ∀ n, n < m.length → ¬ io.z (io n)

/-- what stands at a place is a list or an instance -/
theorem SRel.at (S : SRel K mg io m H) {n : Nat} (h : n < m.length) : (∃ vs, H (io n) = some (.lst vs)) ∨ ∃ C dx fs, H (io n) = some (.ins C dx fs) := by
  have r := S.ob n m[n] (List.getElem?_eq_getElem h)
  cases e : m[n] with
  | lst ds => rw [e] at r; obtain ⟨vs, h1, _⟩ := r; exact .inl ⟨vs, h1⟩
  | ins C fs => rw [e] at r; obtain ⟨Ca, dx, fvs, _, h1, _⟩ := r; exact .inr ⟨Ca, dx, fvs, h1⟩
def isPl : HO → Bool
  | .lst _ => true
  | .ins _ _ _ => true
  | _ => false
theorem SRel.ne_tup (S : SRel K mg io m H) {a : Addr} {u : HO} (h : H a = some u) (hu : isPl u = false) : Nowhere io m.length a := by
 refine ⟨fun n hn e => ?_, fun hz => ?_⟩
 rotate_left
 · obtain ⟨vs, q⟩ := S.zl a hz
   rw [h] at q
   rw [Option.some.inj q] at hu
   exact absurd hu (by simp [isPl])
 · rcases S.at hn with ⟨vs, q⟩ | ⟨C, dx, fs, q⟩
   · rw [← e, h] at q
     rw [Option.some.inj q] at hu
     exact absurd hu (by simp [isPl])
   · rw [← e, h] at q
     rw [Option.some.inj q] at hu
     exact absurd hu (by simp [isPl])
theorem SRel.some (S : SRel K mg io m H) {n : Nat} (h : n < m.length) : H (io n) ≠ none := by
  rcases S.at h with ⟨vs, q⟩ | ⟨C, dx, fs, q⟩ <;> (rw [q]; simp)

theorem SqT.keepW (S : SRel K mg io m H) (x : ExtW io m.length H io' N' H') {a : Addr} {vs : List V} (h : SqT K H a vs) : SqT K H' a vs := by
  rcases h with (h | ⟨o, h⟩) | h
  · exact .inl (.inl (x.kp _ _ h (S.ne_tup h rfl)))
  · exact .inl (.inr ⟨o, x.kp _ _ h (S.ne_tup h rfl)⟩)
  · exact .inr h
theorem SqRead.keepW (S : SRel K mg io m H) (x : ExtW io m.length H io' N' H') {a : Addr} {vs : List V} (h : SqRead K H a vs) : SqRead K H' a vs := by
  rcases h with ⟨o, h⟩ | h
  · exact .inl ⟨o, x.kp _ _ h (S.ne_tup h rfl)⟩
  · exact .inr h
mutual
theorem RepV.keepW (S : SRel K mg io m H) (x : ExtW io m.length H io' N' H') : ∀ (d : D) (v : V), RepV K mg io m.length H d v → RepV K mg io' N' H' d v
  | .non, v, h => h
  | .bl b, v, h => h
  | .int i, v, h => h
  | .str s, v, h => h
  | .tup ds, v, h => by
    obtain ⟨a, vs, e, q, r⟩ := h
    exact ⟨a, vs, e, SqT.keepW S x q, RepVs.keepW S x ds vs r⟩
  | .lst ds, v, h => by
    obtain ⟨a, vs, e, q, ne, r⟩ := h
    refine ⟨a, vs, e, x.kp _ _ q ne, ⟨fun n hn en => ?_, fun hz => (x.zf a hz).elim ne.2 fun w => by rw [q] at w; cases w⟩, RepVs.keepW S x ds vs r⟩
    by_cases hm : n < m.length
    · exact ne.1 n hm (en.trans (x.ag n hm))
    · have z := x.fr n (by omega) hn
      rw [← en, q] at z; cases z
  | .scr ns, v, h => by
    obtain ⟨a, e, q⟩ := h
    exact ⟨a, e, SqRead.keepW S x q⟩
  | .ref n, v, h => by
    obtain ⟨hn, e⟩ := h
    exact ⟨Nat.lt_of_lt_of_le hn x.le, by rw [x.ag n hn]; exact e⟩
  | .glb y, v, h => h
  | .ty n, v, h => h
theorem RepVs.keepW (S : SRel K mg io m H) (x : ExtW io m.length H io' N' H') : ∀ (ds : List D) (vs : List V), RepVs K mg io m.length H ds vs → RepVs K mg io' N' H' ds vs
  | [], vs, h => h
  | d :: ds, vs, h => by
    obtain ⟨v, r, e, h1, h2⟩ := h
    exact ⟨v, r, e, RepV.keepW S x d v h1, RepVs.keepW S x ds r h2⟩
end
theorem RepF.keepW (S : SRel K mg io m H) (x : ExtW io m.length H io' N' H') : ∀ (ds : List (Str × D)) (vs : List (Str × V)), RepF K mg io m.length H ds vs → RepF K mg io' N' H' ds vs
  | [], vs, h => h
  | p :: ds, vs, h => by
    obtain ⟨v, r, e, h1, h2⟩ := h
    exact ⟨v, r, e, RepV.keepW S x _ v h1, RepF.keepW S x ds r h2⟩

theorem SqT.keep (S : SRel K mg io m H) (x : Ext io m.length H io' N' H') {a : Addr} {vs : List V} (h : SqT K H a vs) : SqT K H' a vs := SqT.keepW S x.toExtW h
theorem RepV.keep (S : SRel K mg io m H) (x : Ext io m.length H io' N' H') (d : D) (v : V) (h : RepV K mg io m.length H d v) : RepV K mg io' N' H' d v := RepV.keepW S x.toExtW d v h
theorem RepVs.keep (S : SRel K mg io m H) (x : Ext io m.length H io' N' H') (d : List D) (v : List V) (h : RepVs K mg io m.length H d v) : RepVs K mg io' N' H' d v := RepVs.keepW S x.toExtW d v h
theorem RepF.keep (S : SRel K mg io m H) (x : Ext io m.length H io' N' H') (d : List (Str × D)) (v : List (Str × V)) (h : RepF K mg io m.length H d v) : RepF K mg io' N' H' d v := RepF.keepW S x.toExtW d v h

/-! ### lists of values -/
theorem RepVs.length : ∀ {ds : List D} {vs : List V}, RepVs K mg io N H ds vs → ds.length = vs.length
  | [], vs, h => by cases (show vs = [] from h); rfl
  | d :: ds, vs, h => by
    obtain ⟨v, r, e, _, h2⟩ := h
    rw [e, List.length_cons, List.length_cons, RepVs.length h2]
theorem RepVs.get : ∀ {ds : List D} {vs : List V} {k : Nat} {d : D}, RepVs K mg io N H ds vs → ds[k]? = some d → ∃ v, vs[k]? = some v ∧ RepV K mg io N H d v
  | [], _, _, _, _, e => by simp at e
  | d :: ds, vs, 0, d', h, e => by
    obtain ⟨v, r, rfl, h1, _⟩ := h
    simp at e; subst e; exact ⟨v, rfl, h1⟩
  | d :: ds, vs, k + 1, d', h, e => by
    obtain ⟨v, r, rfl, _, h2⟩ := h
    obtain ⟨u, e1, r1⟩ := RepVs.get (k := k) h2 (by simpa using e)
    exact ⟨u, by simpa using e1, r1⟩
theorem RepVs.getV : ∀ {ds : List D} {vs : List V} {k : Nat} {v : V}, RepVs K mg io N H ds vs → vs[k]? = some v → ∃ d, ds[k]? = some d ∧ RepV K mg io N H d v := fun {ds vs k v} h e => by
  have hk : k < vs.length := (List.getElem?_eq_some_iff.mp e).1
  rw [← h.length] at hk
  obtain ⟨u, e1, r1⟩ := h.get (List.getElem?_eq_getElem hk)
  rw [e] at e1; cases e1
  exact ⟨_, List.getElem?_eq_getElem hk, r1⟩
theorem RepVs.none {ds : List D} {vs : List V} {k : Nat} (h : RepVs K mg io N H ds vs) (e : ds[k]? = none) : vs.length ≤ k := by
  rw [← h.length]; exact List.getElem?_eq_none_iff.mp e
theorem RepVs.append : ∀ {ds es : List D} {vs us : List V}, RepVs K mg io N H ds vs → RepVs K mg io N H es us → RepVs K mg io N H (ds ++ es) (vs ++ us)
  | [], es, vs, us, h, q => by rw [show vs = [] from h]; exact q
  | d :: ds, es, vs, us, h, q => by
    obtain ⟨v, r, rfl, h1, h2⟩ := h
    exact ⟨v, r ++ us, rfl, h1, RepVs.append h2 q⟩
theorem RepVs.take : ∀ {ds : List D} {vs : List V} (k : Nat), RepVs K mg io N H ds vs → RepVs K mg io N H (ds.take k) (vs.take k)
  | ds, vs, 0, _ => by simp [RepVs]
  | [], vs, k + 1, h => by cases (show vs = [] from h); rfl
  | d :: ds, vs, k + 1, h => by
    obtain ⟨v, r, rfl, h1, h2⟩ := h
    exact ⟨v, r.take k, rfl, h1, RepVs.take k h2⟩
theorem RepVs.drop : ∀ {ds : List D} {vs : List V} (k : Nat), RepVs K mg io N H ds vs → RepVs K mg io N H (ds.drop k) (vs.drop k)
  | ds, vs, 0, h => h
  | [], vs, k + 1, h => by cases (show vs = [] from h); rfl
  | d :: ds, vs, k + 1, h => by
    obtain ⟨v, r, rfl, h1, h2⟩ := h
    exact RepVs.drop k h2
theorem RepVs.set : ∀ {ds : List D} {vs : List V} {d : D} {v : V} (k : Nat), RepV K mg io N H d v → RepVs K mg io N H ds vs → RepVs K mg io N H (ds.set k d) (vs.set k v)
  | [], vs, d, v, k, _, h => by cases (show vs = [] from h); rfl
  | d' :: ds, vs, d, v, 0, q, h => by
    obtain ⟨v', r, rfl, h1, h2⟩ := h
    exact ⟨v, r, rfl, q, h2⟩
  | d' :: ds, vs, d, v, k + 1, q, h => by
    obtain ⟨v', r, rfl, h1, h2⟩ := h
    exact ⟨v', r.set k v, rfl, h1, RepVs.set k q h2⟩
theorem RepVs.reverse {ds : List D} {vs : List V} (h : RepVs K mg io N H ds vs) : RepVs K mg io N H ds.reverse vs.reverse := by
  induction ds generalizing vs with
  | nil => cases (show vs = [] from h); rfl
  | cons d ds ih =>
    obtain ⟨v, r, rfl, h1, h2⟩ := h
    rw [List.reverse_cons, List.reverse_cons]
    exact RepVs.append (ih h2) ⟨v, [], rfl, h1, rfl⟩
theorem RepVs.replicate {ds : List D} {vs : List V} (h : RepVs K mg io N H ds vs) : ∀ k : Nat, RepVs K mg io N H (List.replicate k ds).flatten (List.replicate k vs).flatten
  | 0 => rfl
  | k + 1 => by
    rw [List.replicate_succ, List.replicate_succ, List.flatten_cons, List.flatten_cons]
    exact RepVs.append h (RepVs.replicate h k)
theorem RepVs.ints : ∀ ns : List Int, RepVs K mg io N H (ns.map D.int) (ns.map V.int)
  | [] => rfl
  | n :: ns => ⟨.int n, ns.map V.int, rfl, rfl, RepVs.ints ns⟩

theorem RepF.look : ∀ {fs : List (Str × D)} {vs : List (Str × V)} {f : Str} {d : D}, RepF K mg io N H fs vs → fs.lookup f = some d → ∃ v, vs.lookup f = some v ∧ RepV K mg io N H d v
  | [], _, _, _, _, e => by simp at e
  | (g, d') :: fs, vs, f, d, h, e => by
    obtain ⟨v, r, rfl, h1, h2⟩ := h
    simp only [List.lookup_cons] at e ⊢
    cases hb : f == g with
    | true => simp only [hb] at e ⊢; cases e; exact ⟨v, rfl, h1⟩
    | false => simp only [hb] at e ⊢; exact RepF.look h2 e
theorem RepF.none : ∀ {fs : List (Str × D)} {vs : List (Str × V)} {f : Str}, RepF K mg io N H fs vs → fs.lookup f = none → vs.lookup f = none
  | [], vs, _, h, _ => by cases (show vs = [] from h); rfl
  | (g, d') :: fs, vs, f, h, e => by
    obtain ⟨v, r, rfl, h1, h2⟩ := h
    simp only [List.lookup_cons] at e ⊢
    cases hb : f == g with
    | true => simp only [hb] at e; cases e
    | false => simp only [hb] at e ⊢; exact RepF.none h2 e
theorem RepF.length : ∀ {ds : List (Str × D)} {vs : List (Str × V)}, RepF K mg io N H ds vs → ds.length = vs.length
  | [], vs, h => by cases (show vs = [] from h); rfl
  | d :: ds, vs, h => by
    obtain ⟨v, r, e, _, h2⟩ := h
    rw [e, List.length_cons, List.length_cons, RepF.length h2]
theorem RepF.put : ∀ {fs : List (Str × D)} {vs : List (Str × V)} {f : Str} {d : D} {v : V}, RepV K mg io N H d v → RepF K mg io N H fs vs → RepF K mg io N H (putF f d fs) (L2.putF f v vs)
  | [], vs, f, d, v, q, h => by cases (show vs = [] from h); exact ⟨v, [], rfl, q, rfl⟩
  | (g, d') :: fs, vs, f, d, v, q, h => by
    obtain ⟨v', r, rfl, h1, h2⟩ := h
    unfold putF L2.putF
    by_cases hg : g = f
    · rw [if_pos hg, if_pos hg]; exact ⟨v, r, rfl, q, h2⟩
    · rw [if_neg hg, if_neg hg]; exact ⟨v', _, rfl, h1, RepF.put q h2⟩

/-! ### a new object, a changed object -/
theorem Ext.new {p : Addr} {o : HO} (h : H p = none) : Ext io N H io N (upd H p o) :=
  ⟨⟨Nat.le_refl _, fun _ _ => rfl, fun n a b => absurd a (by omega), fun a u e _ => by rw [upd_ne (ne_of_none e h)]; exact e, fun _ z => .inl z⟩, fun n _ e => by
    by_cases z : io n = p
    · rw [z, upd_same]; simp
    · rw [upd_ne z]; exact e, fun a _ e => upd_ne fun z => e (by rw [z]; exact h), rfl⟩
theorem SRel.keep (S : SRel K mg io m H) (x : Ext io m.length H io m.length H') (h : ∀ n, n < m.length → H' (io n) = H (io n)) : SRel K mg io m H' where
  inj := S.inj
  ob := fun k o e => by
    have hk : k < m.length := (List.getElem?_eq_some_iff.mp e).1
    have r := S.ob k o e
    cases o with
    | lst ds => obtain ⟨vs, h1, h2⟩ := r; exact ⟨vs, by rw [h k hk]; exact h1, RepVs.keep S x _ _ h2⟩
    | ins C fs => obtain ⟨Ca, dx, fvs, h0, h1, h2⟩ := r; exact ⟨Ca, dx, fvs, h0, by rw [h k hk]; exact h1, RepF.keep S x _ _ h2⟩
  zl := fun a hz => by
    obtain ⟨vs, e⟩ := S.zl a hz
    exact ⟨vs, by rw [x.kz a hz (by rw [e]; simp)]; exact e⟩
  zn := S.zn
theorem SRel.new {p : Addr} {o : HO} (S : SRel K mg io m H) (h : H p = none) : SRel K mg io m (upd H p o) :=
  S.keep (Ext.new h) fun n hn => upd_ne fun e => S.some hn (by rw [e]; exact h)
/-- a new place of the store -/
def ioN (io : Pl) (N : Nat) (p : Addr) : Pl := ⟨fun n => if n = N then p else io n, io.z⟩
theorem ioN_lt {p : Addr} {n : Nat} (h : n < N) : ioN io N p n = io n := if_neg (by omega)
theorem ioN_eq {p : Addr} : ioN io N p N = p := if_pos rfl
theorem Ext.place {p : Addr} {o : HO} (h : H p = none) : Ext io N H (ioN io N p) (N + 1) (upd H p o) where
  le := Nat.le_succ _
  ag := fun n hn => ioN_lt hn
  fr := fun n h1 h2 => by
    have e : n = N := by omega
    subst e
    rw [ioN_eq]; exact h
  kp := fun a u e _ => by rw [upd_ne (ne_of_none e h)]; exact e
  zz := rfl
  zf := fun _ z => .inl z
  th := fun n _ e => by
    by_cases z : io n = p
    · rw [z, upd_same]; simp
    · rw [upd_ne z]; exact e
  kz := fun a _ e => upd_ne fun z => e (by rw [z]; exact h)
theorem RepO.keep (S : SRel K mg io m H) (x : ExtW io m.length H io' N' H') {a : Addr} {o : Ob} (h : RepO K mg io m.length H a o) (ha : H' a = H a) : RepO K mg io' N' H' a o := by
  cases o with
  | lst ds => obtain ⟨vs, h1, h2⟩ := h; exact ⟨vs, ha.trans h1, RepVs.keepW S x _ _ h2⟩
  | ins C fs => obtain ⟨Ca, dx, fvs, h0, h1, h2⟩ := h; exact ⟨Ca, dx, fvs, h0, ha.trans h1, RepF.keepW S x _ _ h2⟩
theorem SRel.place {p : Addr} {u : HO} {o : Ob} (S : SRel K mg io m H) (h : H p = none) (r : RepO K mg (ioN io m.length p) (m.length + 1) (upd H p u) p o) : SRel K mg (ioN io m.length p) (m ++ [o]) (upd H p u) where
  inj := fun j k hj hk e => by
    rw [List.length_append, List.length_singleton] at hj hk
    have old : ∀ n, n < m.length → io n ≠ p := fun n hn z => S.some hn (by rw [z]; exact h)
    by_cases h1 : j < m.length
    · rw [ioN_lt h1] at e
      by_cases h2 : k < m.length
      · rw [ioN_lt h2] at e; exact S.inj j k h1 h2 e
      · have e2 : k = m.length := by omega
        subst e2
        rw [ioN_eq] at e; exact absurd e (old j h1)
    · have e1 : j = m.length := by omega
      subst e1
      rw [ioN_eq] at e
      by_cases h2 : k < m.length
      · rw [ioN_lt h2] at e; exact absurd e.symm (old k h2)
      · omega
  ob := fun k o' e => by
    rw [List.length_append, List.length_singleton]
    by_cases hk : k < m.length
    · rw [List.getElem?_append_left hk] at e
      rw [ioN_lt hk]
      exact RepO.keep S (Ext.place h).toExtW (S.ob k o' e) (upd_ne fun z => S.some hk (by rw [z]; exact h))
    · have hl : k < (m ++ [o]).length := (List.getElem?_eq_some_iff.mp e).1
      rw [List.length_append, List.length_singleton] at hl
      have ek : k = m.length := by omega
      subst ek
      rw [List.getElem?_append_right (Nat.le_refl _), Nat.sub_self] at e
      have e' : o = o' := Option.some.inj e
      subst e'
      rw [ioN_eq]; exact r
  zl := fun a hz => by
    obtain ⟨vs, e⟩ := S.zl a hz
    exact ⟨vs, by rw [upd_ne (ne_of_none e h)]; exact e⟩
  zn := fun n hn hz => by
    rw [List.length_append, List.length_singleton] at hn
    by_cases hk : n < m.length
    · rw [ioN_lt hk] at hz; exact S.zn n hk hz
    · have ek : n = m.length := by omega
      subst ek
      rw [ioN_eq] at hz
      obtain ⟨vs, e⟩ := S.zl _ hz
      rw [h] at e; cases e
/-- the object at a place is changed -/
theorem Ext.write {n : Nat} {u : HO} (S : SRel K mg io m H) (hn : n < m.length) : Ext io m.length H io m.length (upd H (io n) u) :=
  ⟨⟨Nat.le_refl _, fun _ _ => rfl, fun n a b => absurd a (by omega), fun a u e h => by rw [upd_ne (h.1 n hn)]; exact e, fun _ z => .inl z⟩, fun k _ e => by
    by_cases z : io k = io n
    · rw [z, upd_same]; simp
    · rw [upd_ne z]; exact e, fun a hz _ => upd_ne fun e => S.zn n hn (by rw [← e]; exact hz), rfl⟩
theorem SRel.write {n : Nat} {u : HO} {o : Ob} (S : SRel K mg io m H) (hn : n < m.length) (r : RepO K mg io m.length (upd H (io n) u) (io n) o) : SRel K mg io (m.set n o) (upd H (io n) u) where
  inj := fun j k hj hk e => by
    rw [List.length_set] at hj hk
    exact S.inj j k hj hk e
  ob := fun k o' e => by
    rw [List.length_set]
    by_cases hk : k = n
    · subst hk
      rw [List.getElem?_set_self hn] at e
      cases e; exact r
    · rw [List.getElem?_set_ne (Ne.symm hk)] at e
      have hl : k < m.length := (List.getElem?_eq_some_iff.mp e).1
      exact RepO.keep S (Ext.write S hn).toExtW (S.ob k o' e) (upd_ne fun z => hk (S.inj k n hl hn z))
  zl := fun a hz => by
    obtain ⟨vs, e⟩ := S.zl a hz
    exact ⟨vs, by rw [(Ext.write S hn).kz a hz (by rw [e]; simp)]; exact e⟩
  zn := fun k hk => S.zn k (by rw [List.length_set] at hk; exact hk)

/-! ### a list that is being made: it is no place, no value knows it -/
def hide (io : Pl) (p : Addr) : Pl := ⟨io.f, fun a => io.z a ∨ a = p⟩
def bare (io : Pl) (z : Addr → Prop) : Pl := ⟨io.f, z⟩
theorem SqT.hide {p a : Addr} {u : HO} {vs : List V} (h : H p = none) (q : SqT K H a vs) : SqT K (upd H p u) a vs := by
  rcases q with (q | ⟨o, q⟩) | q
  · exact .inl (.inl (by rw [upd_ne (ne_of_none q h)]; exact q))
  · exact .inl (.inr ⟨o, by rw [upd_ne (ne_of_none q h)]; exact q⟩)
  · exact .inr q
theorem SqRead.hide {p a : Addr} {u : HO} {vs : List V} (h : H p = none) (q : SqRead K H a vs) : SqRead K (upd H p u) a vs := by
  rcases q with ⟨o, q⟩ | q
  · exact .inl ⟨o, by rw [upd_ne (ne_of_none q h)]; exact q⟩
  · exact .inr q
mutual
theorem RepV.hide {p : Addr} {u : HO} (h : H p = none) : ∀ (d : D) (v : V), RepV K mg io N H d v → RepV K mg (hide io p) N (upd H p u) d v
  | .non, v, r => r
  | .bl b, v, r => r
  | .int i, v, r => r
  | .str s, v, r => r
  | .tup ds, v, r => by
    obtain ⟨a, vs, e, q, r⟩ := r
    exact ⟨a, vs, e, SqT.hide h q, RepVs.hide h ds vs r⟩
  | .lst ds, v, r => by
    obtain ⟨a, vs, e, q, ne, r⟩ := r
    have nd : a ≠ p := ne_of_none q h
    exact ⟨a, vs, e, by rw [upd_ne nd]; exact q, ⟨ne.1, fun z => z.elim ne.2 nd⟩, RepVs.hide h ds vs r⟩
  | .scr ns, v, r => by
    obtain ⟨a, e, q⟩ := r
    exact ⟨a, e, SqRead.hide h q⟩
  | .ref n, v, r => r
  | .glb y, v, r => r
  | .ty n, v, r => r
theorem RepVs.hide {p : Addr} {u : HO} (h : H p = none) : ∀ (ds : List D) (vs : List V), RepVs K mg io N H ds vs → RepVs K mg (LC.hide io p) N (upd H p u) ds vs
  | [], vs, r => r
  | d :: ds, vs, r => by
    obtain ⟨v, q, e, h1, h2⟩ := r
    exact ⟨v, q, e, RepV.hide h d v h1, RepVs.hide h ds q h2⟩
end
theorem RepF.hide {p : Addr} {u : HO} (h : H p = Option.none) : ∀ (fs : List (Str × D)) (vs : List (Str × V)), RepF K mg io N H fs vs → RepF K mg (LC.hide io p) N (upd H p u) fs vs
  | [], vs, r => r
  | d :: ds, vs, r => by
    obtain ⟨v, q, e, h1, h2⟩ := r
    exact ⟨v, q, e, RepV.hide h _ v h1, RepF.hide h ds q h2⟩
/-- begun -/
theorem SRel.hide {p : Addr} {ws : List V} (S : SRel K mg io m H) (h : H p = none) : SRel K mg (LC.hide io p) m (upd H p (.lst ws)) where
  inj := S.inj
  ob := fun k o e => by
    have hk : k < m.length := (List.getElem?_eq_some_iff.mp e).1
    have ne : io k ≠ p := fun z => S.some hk (by rw [z]; exact h)
    have r := S.ob k o e
    show RepO K mg (LC.hide io p) m.length (upd H p (.lst ws)) (io k) o
    cases o with
    | lst ds => obtain ⟨vs, h1, h2⟩ := r; exact ⟨vs, by rw [upd_ne ne]; exact h1, RepVs.hide h _ _ h2⟩
    | ins C fs => obtain ⟨Ca, dx, fvs, h0, h1, h2⟩ := r; exact ⟨Ca, dx, fvs, h0, by rw [upd_ne ne]; exact h1, RepF.hide h _ _ h2⟩
  zl := fun a hz => by
    rcases hz with hz | hz
    · obtain ⟨vs, e⟩ := S.zl a hz
      exact ⟨vs, by rw [upd_ne (ne_of_none e h)]; exact e⟩
    · subst hz; exact ⟨ws, upd_same⟩
  zn := fun n hn hz => by
    rcases hz with hz | hz
    · exact S.zn n hn hz
    · exact S.some hn (by rw [show io n = p from hz]; exact h)
/-- written -/
theorem ExtW.over {p : Addr} {u : HO} (hp : io.z p) : ExtW io N H io N (upd H p u) :=
  ⟨Nat.le_refl _, fun _ _ => rfl, fun n a b => absurd a (by omega), fun a o e h => by rw [upd_ne fun z => h.2 (by rw [z]; exact hp)]; exact e, fun _ z => .inl z⟩
theorem SRel.over {p : Addr} {ws : List V} (S : SRel K mg io m H) (hp : io.z p) : SRel K mg io m (upd H p (.lst ws)) where
  inj := S.inj
  ob := fun k o e => by
    have hk : k < m.length := (List.getElem?_eq_some_iff.mp e).1
    exact RepO.keep S (ExtW.over hp) (S.ob k o e) (upd_ne fun z => S.zn k hk (by rw [z]; exact hp))
  zl := fun a hz => by
    by_cases e : a = p
    · subst e; exact ⟨ws, upd_same⟩
    · obtain ⟨vs, q⟩ := S.zl a hz
      exact ⟨vs, by rw [upd_ne e]; exact q⟩
  zn := S.zn
mutual
theorem RepV.bare {z : Addr → Prop} (h : ∀ a, z a → io.z a) : ∀ (d : D) (v : V), RepV K mg io N H d v → RepV K mg (bare io z) N H d v
  | .non, v, r => r
  | .bl b, v, r => r
  | .int i, v, r => r
  | .str s, v, r => r
  | .tup ds, v, r => by
    obtain ⟨a, vs, e, q, r⟩ := r
    exact ⟨a, vs, e, q, RepVs.bare h ds vs r⟩
  | .lst ds, v, r => by
    obtain ⟨a, vs, e, q, ne, r⟩ := r
    exact ⟨a, vs, e, q, ⟨ne.1, fun z => ne.2 (h a z)⟩, RepVs.bare h ds vs r⟩
  | .scr ns, v, r => r
  | .ref n, v, r => r
  | .glb y, v, r => r
  | .ty n, v, r => r
theorem RepVs.bare {z : Addr → Prop} (h : ∀ a, z a → io.z a) : ∀ (ds : List D) (vs : List V), RepVs K mg io N H ds vs → RepVs K mg (LC.bare io z) N H ds vs
  | [], vs, r => r
  | d :: ds, vs, r => by
    obtain ⟨v, q, e, h1, h2⟩ := r
    exact ⟨v, q, e, RepV.bare h d v h1, RepVs.bare h ds q h2⟩
end
theorem RepF.bare {z : Addr → Prop} (h : ∀ a, z a → io.z a) : ∀ (fs : List (Str × D)) (vs : List (Str × V)), RepF K mg io N H fs vs → RepF K mg (LC.bare io z) N H fs vs
  | [], vs, r => r
  | d :: ds, vs, r => by
    obtain ⟨v, q, e, h1, h2⟩ := r
    exact ⟨v, q, e, RepV.bare h _ v h1, RepF.bare h ds q h2⟩
theorem SRel.bare {z : Addr → Prop} (S : SRel K mg io m H) (h : ∀ a, z a → io.z a) : SRel K mg (LC.bare io z) m H where
  inj := S.inj
  ob := fun k o e => by
    have r := S.ob k o e
    show RepO K mg (LC.bare io z) m.length H (io k) o
    cases o with
    | lst ds => obtain ⟨vs, h1, h2⟩ := r; exact ⟨vs, h1, RepVs.bare h _ _ h2⟩
    | ins C fs => obtain ⟨Ca, dx, fvs, h0, h1, h2⟩ := r; exact ⟨Ca, dx, fvs, h0, h1, RepF.bare h _ _ h2⟩
  zl := fun a hz => S.zl a (h a hz)
  zn := fun n hn hz => S.zn n hn (h _ hz)
/-- from before it was begun: other things are kept -/
theorem Ext.bare {z : Addr → Prop} (x : Ext io N H io' N' H') (h : ∀ a, z a → io.z a) : Ext (LC.bare io z) N H (LC.bare io' z) N' H' :=
  ⟨⟨x.le, x.ag, x.fr, fun a o e q => by
    by_cases hz : io.z a
    · rw [x.kz a hz (by rw [e]; simp)]; exact e
    · exact x.kp a o e ⟨q.1, hz⟩, fun _ z => .inl z⟩, x.th, fun a hz e => x.kz a (h a hz) e, rfl⟩
theorem Ext.begin {p : Addr} {u : HO} (h : H p = none) : Ext io N H (LC.bare (LC.hide io p) io.z) N (upd H p u) := Ext.new h
theorem Ext.over {p : Addr} {u : HO} (x : Ext io N H io' N' H') (h : H p = none) (hn : ∀ n, n < N → io n ≠ p) : Ext io N H io' N' (upd H' p u) :=
  ⟨⟨x.le, x.ag, x.fr, fun a o e q => by rw [upd_ne (ne_of_none e h)]; exact x.kp a o e q, x.zf⟩, fun n hl e => by rw [upd_ne (hn n hl)]; exact x.th n hl e, fun a hz e => by
    rw [upd_ne fun w => e (by rw [w]; exact h)]; exact x.kz a hz e, x.zz⟩
end
/-! ### environments -/
def RelE (K : PySem.W.Frag) (mg : Str → Option Value) (io : Pl) (N : Nat) (H : Hp) (r : Env) (st : L2.St) : Prop :=
  r.length = st.length ∧ ∀ (k : Nat) (d : D), r[k]? = some (some d) → ∃ v, st[k]? = some (some v) ∧ RepV K mg io N H d v
section
variable {K : PySem.W.Frag} {mg : Str → Option Value} {io io' io2 : Pl} {N N' N2 : Nat} {H H' H2 : Hp} {m m' : Sto} {r : Env} {st : L2.St}
theorem RelE.keep (S : SRel K mg io m H) (x : Ext io m.length H io' N' H') (e : RelE K mg io m.length H r st) : RelE K mg io' N' H' r st :=
  ⟨e.1, fun k d q => let ⟨v, h1, h2⟩ := e.2 k d q; ⟨v, h1, RepV.keep S x d v h2⟩⟩
theorem RelE.set {k : Nat} {d : D} {v : V} (e : RelE K mg io N H r st) (q : RepV K mg io N H d v) : RelE K mg io N H (r.set k (some d)) (st.set k (some v)) := by
  refine ⟨by rw [List.length_set, List.length_set]; exact e.1, fun j d' h => ?_⟩
  by_cases hj : j = k
  · subst hj
    by_cases hl : j < r.length
    · rw [List.getElem?_set_self hl] at h
      cases h
      exact ⟨v, List.getElem?_set_self (by rw [← e.1]; exact hl), q⟩
    · rw [List.getElem?_eq_none (by rw [List.length_set]; omega)] at h; cases h
  · rw [List.getElem?_set_ne (Ne.symm hj)] at h
    rw [List.getElem?_set_ne (Ne.symm hj)]
    exact e.2 j d' h
theorem RelE.wipe (e : RelE K mg io N H r st) : ∀ ks : List Nat, RelE K mg io N H (wipeE r ks) (L2.wipe st ks)
  | [] => e
  | k :: ks => by
    have ih := RelE.wipe e ks
    refine ⟨by unfold wipeE L2.wipe; rw [List.length_set, List.length_set]; exact ih.1, fun j d h => ?_⟩
    unfold wipeE at h
    unfold L2.wipe
    by_cases hj : j = k
    · subst hj
      by_cases hl : j < (wipeE r ks).length
      · rw [List.getElem?_set_self hl] at h; cases h
      · rw [List.getElem?_eq_none (by rw [List.length_set]; omega)] at h; cases h
    · rw [List.getElem?_set_ne (Ne.symm hj)] at h
      rw [List.getElem?_set_ne (Ne.symm hj)]
      exact ih.2 j d h
theorem RelE.start {as : List D} {vs : List V} (h : RepVs K mg io N H as vs) (n k : Nat) (hk : k = n - vs.length) : RelE K mg io N H (as.map some ++ List.replicate k none) (vs.map some ++ List.replicate (n - vs.length) none) := by
  subst hk
  refine ⟨by simp [h.length], fun j d e => ?_⟩
  by_cases hj : j < as.length
  · rw [List.getElem?_append_left (by simpa using hj), List.getElem?_map] at e
    cases q : as[j]? with
    | none => rw [q] at e; cases e
    | some d' =>
      rw [q] at e
      cases e
      obtain ⟨v, h1, h2⟩ := h.get q
      refine ⟨v, ?_, h2⟩
      rw [List.getElem?_append_left (by rw [List.length_map, ← h.length]; exact hj), List.getElem?_map, h1]
      rfl
  · rw [List.getElem?_append_right (by simpa using hj), List.getElem?_replicate] at e
    split at e <;> cases e
end
end LC

/-! # LcD: readings, operators -/
namespace LC
open PySem PySem.Spec PyProof.Rows L2

def Post {α : Type} (o : Out α) (F : α → Sto → Prop) : Prop := match o with
  | .ok a m => F a m
  | _ => False
theorem Post.mono {α : Type} {o : Out α} {F F' : α → Sto → Prop} (h : Post o F) (k : ∀ a m, F a m → F' a m) : Post o F' := by
  cases o with
  | ok a m => exact k a m h
  | exc C fs m => exact h
  | bad => exact h
theorem Post.of_bnd {α β : Type} {x : M α} {f : α → M β} {m : Sto} {F : β → Sto → Prop} (h : Post (bnd x f m) F) : Post (x m) fun a m1 => Post (f a m1) F := by
  unfold bnd at h
  cases e : x m with
  | ok a m1 => rw [e] at h; exact h
  | exc C fs m1 => rw [e] at h; exact h
  | bad => rw [e] at h; exact h
theorem Post.of_ret {α : Type} {a : α} {m : Sto} {F : α → Sto → Prop} (h : Post (ret a m) F) : F a m := h

structure S0 (K : PySem.W.Frag) (mg : Str → Option Value) (io : Pl) (r : Env) (m : Sto) (st : L2.St) (H : Hp) : Prop where
  s : SRel K mg io m H
  e : RelE K mg io m.length H r st
theorem S0.next {K : PySem.W.Frag} {mg : Str → Option Value} {io io' : Pl} {r : Env} {m m' : Sto} {st : L2.St} {H H' : Hp} (x : S0 K mg io r m st H) (y : Ext io m.length H io' m'.length H') (S : SRel K mg io' m' H') : S0 K mg io' r m' st H' :=
  ⟨S, x.e.keep x.s y⟩

/-- only these slots are others -/
def Off (ws : List Nat) (st st' : L2.St) : Prop := st'.length = st.length ∧ ∀ k, k ∉ ws → st'[k]? = st[k]?
theorem Off.refl {ws : List Nat} {st : L2.St} : Off ws st st := ⟨rfl, fun _ _ => rfl⟩
section
variable (K : PySem.W.Frag) (mg : Str → Option Value)
/-- what is wanted of a value, of a test's answer, of several values -/
def WV (io : Pl) (m : Sto) (H : Hp) (Q : VK) : D → Sto → Prop := fun d m' => ∀ io' H' v, Ext io m.length H io' m'.length H' → SRel K mg io' m' H' → RepV K mg io' m'.length H' d v → Q v H'
def WB (io : Pl) (m : Sto) (H : Hp) (Q : Bool → Hp → Prop) : Bool → Sto → Prop := fun b m' => ∀ io' H', Ext io m.length H io' m'.length H' → SRel K mg io' m' H' → Q b H'
def WL (io : Pl) (m : Sto) (H : Hp) (Q : List V → Hp → Prop) : List D → Sto → Prop := fun ds m' => ∀ io' H' vs, Ext io m.length H io' m'.length H' → SRel K mg io' m' H' → RepVs K mg io' m'.length H' ds vs → Q vs H'
def WE (io : Pl) (m : Sto) (H : Hp) (st : L2.St) (ws : List Nat) (Q : L2.St → Hp → Prop) : Env → Sto → Prop := fun r' m' => ∀ io' st' H', Ext io m.length H io' m'.length H' → SRel K mg io' m' H' → RelE K mg io' m'.length H' r' st' → Off ws st st' → Q st' H'
def WF (io : Pl) (m : Sto) (H : Hp) (D : Ends) : Flow → Sto → Prop := fun fl m' => match fl with
  | .nx r => ∀ io' st' H', Ext io m.length H io' m'.length H' → SRel K mg io' m' H' → RelE K mg io' m'.length H' r st' → D.nx st' H'
  | .rt d => ∀ io' H' v, Ext io m.length H io' m'.length H' → SRel K mg io' m' H' → RepV K mg io' m'.length H' d v → D.rt v H'
  | .bk r => ∀ io' st' H', Ext io m.length H io' m'.length H' → SRel K mg io' m' H' → RelE K mg io' m'.length H' r st' → D.bk st' H'
  | .ct r => ∀ io' st' H', Ext io m.length H io' m'.length H' → SRel K mg io' m' H' → RelE K mg io' m'.length H' r st' → D.ct st' H'
def tM (x : Env → M D) : TE := fun st H Q => ∃ io r m, S0 K mg io r m st H ∧ Post (x r m) (WV K mg io m H Q)
def tT (x : Env → M Bool) : TT := fun st H Q => ∃ io r m, S0 K mg io r m st H ∧ Post (x r m) (WB K mg io m H Q)
def tL (x : Env → M (List D)) : TA := fun st H Q => ∃ io r m, S0 K mg io r m st H ∧ Post (x r m) (WL K mg io m H Q)
def tS (x : Env → M Flow) : TS := fun D st H => ∃ io r m, S0 K mg io r m st H ∧ Post (x r m) (WF K mg io m H D)
def tG (x : D → Env → M Env) (ws : List Nat) : TG := fun v st H Q => ∃ io r m d, S0 K mg io r m st H ∧ RepV K mg io m.length H d v ∧ Post (x d r m) (WE K mg io m H st ws Q)
def tGs (x : List D → Env → M Env) (ws : List Nat) : TGs := fun vs st H Q => ∃ io r m ds, S0 K mg io r m st H ∧ RepVs K mg io m.length H ds vs ∧ Post (x ds r m) (WE K mg io m H st ws Q)
/-- operations by values -/
def rOp (f : D → D → M D) : R2 := fun x y H Q => ∃ io m p q, SRel K mg io m H ∧ RepV K mg io m.length H p x ∧ RepV K mg io m.length H q y ∧ Post (f p q m) (WV K mg io m H Q)
end
section
variable {K : PySem.W.Frag} {mg : Str → Option Value} {io io' io2 : Pl} {m m' m2 : Sto} {H H' H2 : Hp}
theorem WV.from {Q : VK} {d : D} (x : Ext io m.length H io' m'.length H') (h : WV K mg io m H Q d m2) : WV K mg io' m' H' Q d m2 := fun io2 H2 v y S r => h io2 H2 v (x.trans y) S r
theorem WB.from {Q : Bool → Hp → Prop} {d : Bool} (x : Ext io m.length H io' m'.length H') (h : WB K mg io m H Q d m2) : WB K mg io' m' H' Q d m2 := fun io2 H2 y S => h io2 H2 (x.trans y) S
theorem WL.from {Q : List V → Hp → Prop} {d : List D} (x : Ext io m.length H io' m'.length H') (h : WL K mg io m H Q d m2) : WL K mg io' m' H' Q d m2 := fun io2 H2 v y S r => h io2 H2 v (x.trans y) S r
theorem WF.from {D : Ends} {d : Flow} (x : Ext io m.length H io' m'.length H') (h : WF K mg io m H D d m2) : WF K mg io' m' H' D d m2 := by
  cases d with
  | nx r => exact fun io2 st2 H2 y S e => h io2 st2 H2 (x.trans y) S e
  | rt d => exact fun io2 H2 v y S e => h io2 H2 v (x.trans y) S e
  | bk r => exact fun io2 st2 H2 y S e => h io2 st2 H2 (x.trans y) S e
  | ct r => exact fun io2 st2 H2 y S e => h io2 st2 H2 (x.trans y) S e
/-- the value as it stands -/
theorem WV.here {Q : VK} {d : D} {v : V} (h : WV K mg io m H Q d m) (S : SRel K mg io m H) (r : RepV K mg io m.length H d v) : Q v H := h io H v Ext.refl S r
/-- a new frozen object -/
theorem WV.frozen {Q : VK} {d : D} {p : Addr} {u : HO} (h : WV K mg io m H Q d m) (S : SRel K mg io m H) (hp : H p = none) (r : RepV K mg io m.length (upd H p u) d (.ref p)) : Q (.ref p) (upd H p u) :=
  h io _ _ (Ext.new hp) (S.new hp) r
theorem repLst {ds : List D} {vs : List V} {p : Addr} (S : SRel K mg io m H) (hp : H p = none) (r : RepVs K mg io m.length H ds vs) : RepV K mg io m.length (upd H p (.lst vs)) (.lst ds) (.ref p) :=
  ⟨p, vs, rfl, upd_same, ⟨fun n hn e => S.some hn (by rw [← e]; exact hp), fun z => by obtain ⟨ws, e⟩ := S.zl p z; rw [hp] at e; cases e⟩, r.keep S (Ext.new hp)⟩
theorem repTup {ds : List D} {vs : List V} {p : Addr} (S : SRel K mg io m H) (hp : H p = none) (r : RepVs K mg io m.length H ds vs) : RepV K mg io m.length (upd H p (.tup vs)) (.tup ds) (.ref p) :=
  ⟨p, vs, rfl, .inl (.inl upd_same), r.keep S (Ext.new hp)⟩
/-- a new list at a place of the store -/
theorem WV.place {Q : VK} {ds : List D} {vs : List V} {p : Addr} (h : WV K mg io m H Q (.ref m.length) (m ++ [.lst ds])) (S : SRel K mg io m H) (hp : H p = none) (r : RepVs K mg io m.length H ds vs) : Q (.ref p) (upd H p (.lst vs)) := by
  have x : Ext io m.length H (ioN io m.length p) (m ++ [Ob.lst ds]).length (upd H p (.lst vs)) := by
    rw [List.length_append, List.length_singleton]; exact Ext.place hp
  refine h (ioN io m.length p) _ _ x (S.place hp ⟨vs, upd_same, ?_⟩) ⟨by simp, by rw [ioN_eq]⟩
  have q := r.keep S x
  rw [List.length_append, List.length_singleton] at q
  exact q
theorem Post.lst {Q : VK} {ds : List D} {vs : List V} {p : Addr} {mu : Bool} (h : Post (if mu then new (.lst ds) m else .ok (.lst ds) m) (WV K mg io m H Q)) (S : SRel K mg io m H) (hp : H p = none) (r : RepVs K mg io m.length H ds vs) : Q (.ref p) (upd H p (.lst vs)) := by
  cases mu with
  | true => exact WV.place h S hp r
  | false => exact WV.frozen h S hp (repLst S hp r)
/-- a list that can be read at x -/
theorem topLst {d : D} {x : V} {ds : List D} (S : SRel K mg io m H) (r : RepV K mg io m.length H d x) (e : top m d = .lst ds) : ∃ a vs, x = .ref a ∧ H a = some (.lst vs) ∧ RepVs K mg io m.length H ds vs := by
  cases d with
  | lst xs =>
    have e' : D.lst xs = D.lst ds := e
    cases e'
    obtain ⟨a, vs, h1, h2, _, h3⟩ := r
    exact ⟨a, vs, h1, h2, h3⟩
  | ref n =>
    obtain ⟨hn, rfl⟩ := r
    have e : topR (.ref n) m[n]? = .lst ds := e
    have z := List.getElem?_eq_getElem hn
    rw [z] at e
    cases q : m[n] with
    | lst xs =>
      rw [q] at e z
      have e' : D.lst xs = D.lst ds := e
      cases e'
      obtain ⟨vs, h1, h2⟩ := S.ob n _ z
      exact ⟨io n, vs, rfl, h1, h2⟩
    | ins C fs => rw [q] at e; cases e
  | non => cases e
  | bl b => cases e
  | int i => cases e
  | str s => cases e
  | tup xs => cases e
  | scr ns => cases e
  | glb x => cases e
  | ty n => cases e
/-- what is no place stands for itself -/
theorem top_tup {d : D} {ds : List D} (e : top m d = .tup ds) : d = .tup ds := by
  cases d with
  | ref n =>
    unfold top at e
    dsimp only at e
    cases q : m[n]? with
    | none => rw [q] at e; cases e
    | some o => cases o <;> (rw [q] at e; cases e)
  | _ => exact e
theorem top_scr {d : D} {ds : List Int} (e : top m d = .scr ds) : d = .scr ds := by
  cases d with
  | ref n =>
    unfold top at e
    dsimp only at e
    cases q : m[n]? with
    | none => rw [q] at e; cases e
    | some o => cases o <;> (rw [q] at e; cases e)
  | _ => exact e
theorem top_str {d : D} {s : Str} (e : top m d = .str s) : d = .str s := by
  cases d with
  | ref n =>
    unfold top at e
    dsimp only at e
    cases q : m[n]? with
    | none => rw [q] at e; cases e
    | some o => cases o <;> (rw [q] at e; cases e)
  | _ => exact e
theorem lim : LIM = sizeLine := sizeLine_eq.symm
end

section
variable {X : Cx}
theorem rOp.of {f : Value → Value → Sem Value} {g : D → D → M D}
    (h : ∀ (pins : List (Addr × Obj)) (s : Shared) (st : L2.St) (H : Hp) (x y : V) (v u : Value) (Q : VK) (io : Pl) (m : Sto) (p q : D), Inv X pins st H s → RelV x v → RelV y u → SRel X.K X.mg io m H →
      RepV X.K X.mg io m.length H p x → RepV X.K X.mg io m.length H q y → Post (g p q m) (WV X.K X.mg io m H Q) → wpAny (model X.prog X.w) X.A (f v u) (EP X pins st Q) X.xe s) : OpR X f (rOp X.K X.mg g) :=
  fun pins s st H x y v u Q I rx ry ⟨io, m, p, q, S, hp, hq, h'⟩ => h pins s st H x y v u Q io m p q I rx ry S hp hq h'

theorem op_bin {mu : Bool} {o : Operator} : OpR X (binaryOp o) (rOp X.K X.mg (opBin mu o)) := by
  refine rOp.of fun pins s st H x y v u Q io m p q I rx ry S hp hq h => ?_
  unfold opBin at h
  split at h
  · subst hp; subst hq; exact op_add pins s st H _ _ v u Q I rx ry ⟨_, _, rfl, rfl, WV.here h S rfl⟩
  · subst hp; subst hq; exact op_sub pins s st H _ _ v u Q I rx ry ⟨_, _, rfl, rfl, WV.here h S rfl⟩
  · subst hp; subst hq
    split at h
    · rename_i hm
      unfold mulOk at hm
      simp only [Bool.or_eq_true, decide_eq_true_eq] at hm
      rcases hm with (hm | hm) | hm
      · exact op_mul pins s st H _ _ v u Q I rx ry ⟨_, _, rfl, rfl, .inl hm, WV.here h S rfl⟩
      · exact op_mul pins s st H _ _ v u Q I rx ry ⟨_, _, rfl, rfl, .inr hm, WV.here h S rfl⟩
      · exact op_mulW pins s st H _ _ v u Q I rx ry ⟨_, _, rfl, rfl, hm, WV.here h S rfl⟩
    · exact h.elim
  · subst hp; subst hq
    split at h
    · rename_i hm
      unfold divOk at hm
      simp only [Bool.and_eq_true, decide_eq_true_eq] at hm
      exact op_fdivW pins s st H _ _ v u Q I rx ry ⟨_, _, rfl, rfl, hm, WV.here h S rfl⟩
    · exact h.elim
  · subst hp; subst hq
    split at h
    · rename_i hm
      exact op_mod pins s st H _ _ v u Q I rx ry ⟨_, _, rfl, rfl, of_decide_eq_true hm, WV.here h S rfl⟩
    · exact h.elim
  · subst hp; subst hq
    split at h
    · rename_i hm
      have hc := of_decide_eq_true hm
      exact op_pow pins s st H _ _ v u Q I rx ry ⟨_, _, rfl, rfl, hc, WV.here h S rfl⟩
    · exact h.elim
  · subst hp; subst hq
    split at h
    · rename_i hm
      exact op_add_str pins s st H _ _ v u Q I rx ry ⟨_, _, rfl, rfl, by rw [← lim]; exact of_decide_eq_true hm, WV.here h S rfl⟩
    · exact h.elim
  · split at h
    · rename_i hm
      obtain ⟨a1, vs, rfl, q1, r1⟩ := hp
      obtain ⟨b1, us, rfl, q2, r2⟩ := hq
      refine op_catA pins s st H _ _ v u Q I rx ry ⟨a1, b1, vs, us, rfl, rfl, q1, q2, ?_, ?_⟩
      · rw [← lim, ← r1.length, ← r2.length]; exact of_decide_eq_true hm
      · have key : ∀ (zs : List V) (c : Addr) (H' : Hp), zs = vs ++ us → SRel X.K X.mg io m H' → Ext io m.length H io m.length H' → SqT X.K H' c zs → Q (.ref c) H' := fun zs c H' e S' x q => by
          subst e
          exact h io H' _ x S' ⟨c, _, rfl, q, (r1.append r2).keep S x⟩
        refine ⟨fun e => ?_, fun _ e => ?_, fun _ _ p hp => ?_⟩
        · subst e; exact key us b1 H rfl S Ext.refl q2
        · subst e; exact key vs a1 H (by simp) S Ext.refl q1
        · exact key _ p _ rfl (S.new hp) (Ext.new hp) (.inl (.inl upd_same))
    · exact h.elim
  · split at h
    · rename_i e1 e2
      split at h
      · rename_i hm
        obtain ⟨a1, vs, rfl, q1, r1⟩ := topLst S hp e1
        obtain ⟨b1, us, rfl, q2, r2⟩ := topLst S hq e2
        refine op_cat pins s st H _ _ v u Q I rx ry ⟨a1, b1, vs, us, rfl, rfl, q1, q2, ?_, fun p hp => Post.lst h S hp (r1.append r2)⟩
        rw [← lim, ← r1.length, ← r2.length]; exact of_decide_eq_true hm
      · exact h.elim
    · exact h.elim
  · subst hq
    split at h
    · rename_i e1
      split at h
      · rename_i hm
        obtain ⟨a1, vs, rfl, q1, r1⟩ := topLst S hp e1
        obtain ⟨h1, h2, h3⟩ := of_decide_eq_true hm
        exact op_rep pins s st H _ _ v u Q I rx ry ⟨a1, _, vs, rfl, rfl, q1, h1, h2, by rw [← lim, ← r1.length]; exact h3, fun p hp => Post.lst h S hp (r1.replicate _)⟩
      · exact h.elim
    · exact h.elim
  · exact h.elim
end
end LC

/-! # LcE: comparisons, subscripts, slices, truth -/
namespace LC
open PySem PySem.Spec PyProof.Rows L2
section
variable {K : PySem.W.Frag} {mg : Str → Option Value} {io : Pl} {N : Nat} {m : Sto} {H : Hp}
mutual
theorem RepV.dp : ∀ (d : D) (v : V) (p : PyData), RepV K mg io N H d v → d.py = some p → Dp K H v p
  | .non, v, p, h, e => by cases (show v = .non from h); cases e; exact .non
  | .bl b, v, p, h, e => by cases (show v = .bl b from h); cases e; exact .bl b
  | .int i, v, p, h, e => by cases (show v = .int i from h); cases e; exact .int i
  | .str s, v, p, h, e => by cases (show v = .str s from h); cases e; exact .str s
  | .tup ds, v, p, h, e => by
    obtain ⟨a, vs, rfl, q, r⟩ := h
    have e : (D.pys ds).map PyData.tuple = some p := e
    cases z : D.pys ds with
    | none => rw [z] at e; cases e
    | some ps => rw [z] at e; cases e; exact .tup q (RepVs.dp ds vs ps r z)
  | .lst ds, v, p, h, e => by
    obtain ⟨a, vs, rfl, q, _, r⟩ := h
    have e : (D.pys ds).map PyData.list = some p := e
    cases z : D.pys ds with
    | none => rw [z] at e; cases e
    | some ps => rw [z] at e; cases e; exact .lst (SqL.of q) (RepVs.dp ds vs ps r z)
  | .scr ns, v, p, h, e => by cases e
  | .ref n, v, p, h, e => by cases e
  | .glb y, v, p, h, e => by cases e
  | .ty n, v, p, h, e => by cases e
theorem RepVs.dp : ∀ (ds : List D) (vs : List V) (ps : List PyData), RepVs K mg io N H ds vs → D.pys ds = some ps → DpAll K H vs ps
  | [], vs, ps, h, e => by cases (show vs = [] from h); cases e; exact .nil
  | d :: ds, vs, ps, h, e => by
    obtain ⟨v, r, rfl, h1, h2⟩ := h
    unfold D.pys at e
    cases z : d.py with
    | none => rw [z] at e; cases e
    | some q =>
      cases z2 : D.pys ds with
      | none => rw [z, z2] at e; cases e
      | some qs =>
        rw [z, z2] at e
        cases e
        exact .cons (RepV.dp d v q h1 z) (RepVs.dp ds r qs h2 z2)
end
theorem dp_top {d : D} {v : V} {p : PyData} (S : SRel K mg io m H) (r : RepV K mg io m.length H d v) (e : (top m d).py = some p) : Dp K H v p := by
  cases z : top m d with
  | lst ds =>
    obtain ⟨a, vs, rfl, h1, h2⟩ := topLst S r z
    rw [z] at e
    have e : (D.pys ds).map PyData.list = some p := e
    cases z : D.pys ds with
    | none => rw [z] at e; cases e
    | some ps => rw [z] at e; cases e; exact .lst (SqL.of h1) (RepVs.dp ds vs ps h2 z)
  | _ =>
    have t : top m d = d := by
      cases d with
      | ref n =>
        unfold top at z ⊢
        dsimp only at z ⊢
        cases q : m[n]? with
        | none => rfl
        | some o => cases o with
          | lst xs => rw [q] at z; cases z
          | ins C fs => rfl
      | _ => rfl
    rw [t] at e
    exact RepV.dp d v p r e
theorem flat_rep {d : D} {v : V} (h : d.flat = true) (r : RepV K mg io N H d v) : flatV v = true := by
  cases d with
  | non => cases (show v = .non from r); rfl
  | bl b => cases (show v = .bl b from r); rfl
  | int i => cases (show v = .int i from r); rfl
  | str s => cases (show v = .str s from r); rfl
  | _ => cases h
theorem eqF_rep {d e : D} {v u : V} (hd : d.flat = true) (he : e.flat = true) (r : RepV K mg io N H d v) (q : RepV K mg io N H e u) : eqV v u = eqF d e := by
  cases d with
  | non => cases (show v = .non from r); cases e with
    | non => cases (show u = .non from q); rfl
    | bl b => cases (show u = .bl b from q); rfl
    | int i => cases (show u = .int i from q); rfl
    | str s => cases (show u = .str s from q); rfl
    | _ => cases he
  | bl b => cases (show v = .bl b from r); cases e with
    | non => cases (show u = .non from q); rfl
    | bl b => cases (show u = .bl b from q); rfl
    | int i => cases (show u = .int i from q); rfl
    | str s => cases (show u = .str s from q); rfl
    | _ => cases he
  | int i => cases (show v = .int i from r); cases e with
    | non => cases (show u = .non from q); rfl
    | bl b => cases (show u = .bl b from q); rfl
    | int i => cases (show u = .int i from q); rfl
    | str s => cases (show u = .str s from q); rfl
    | _ => cases he
  | str s => cases (show v = .str s from r); cases e with
    | non => cases (show u = .non from q); rfl
    | bl b => cases (show u = .bl b from q); rfl
    | int i => cases (show u = .int i from q); rfl
    | str s => cases (show u = .str s from q); rfl
    | _ => cases he
  | _ => cases hd
theorem flats_rep : ∀ {ds : List D} {vs : List V}, ds.all D.flat = true → RepVs K mg io N H ds vs → vs.all flatV = true
  | [], vs, _, r => by cases (show vs = [] from r); rfl
  | d :: ds, vs, h, r => by
    obtain ⟨v, us, rfl, h1, h2⟩ := r
    rw [List.all_cons, Bool.and_eq_true] at h ⊢
    exact ⟨flat_rep h.1 h1, flats_rep h.2 h2⟩
theorem inV_rep {d : D} {v : V} (hd : d.flat = true) (q : RepV K mg io N H d v) : ∀ {ds : List D} {vs : List V}, ds.all D.flat = true → RepVs K mg io N H ds vs → inV v vs = ds.any fun z => eqF z d
  | [], vs, _, r => by cases (show vs = [] from r); rfl
  | e :: ds, vs, h, r => by
    obtain ⟨u, us, rfl, h1, h2⟩ := r
    rw [List.all_cons, Bool.and_eq_true] at h
    have ih := inV_rep hd q h.2 h2
    unfold inV at ih ⊢
    rw [List.any_cons, List.any_cons, ih, eqF_rep h.1 hd h1 q]
end

section
variable {X : Cx}
theorem bOut_post {o : Option Bool} {m : Sto} {F : D → Sto → Prop} (h : Post (bOut o m) F) : ∃ b, o = some b ∧ F (.bl b) m := by
  unfold bOut at h
  cases o with
  | none => exact h.elim
  | some b => exact ⟨b, rfl, h⟩
theorem oOut_post {o : Option D} {m : Sto} {F : D → Sto → Prop} (h : Post (oOut o m) F) : ∃ b, o = some b ∧ F b m := by
  unfold oOut at h
  cases o with
  | none => exact h.elim
  | some b => exact ⟨b, rfl, h⟩
theorem eqD_some {m : Sto} {x y : D} {b : Bool} (h : eqD m x y = some b) : ∃ p q, (top m x).py = some p ∧ (top m y).py = some q ∧ fitD p = true ∧ fitD q = true ∧ b = PyData.eqv p q := by
  unfold eqD at h
  split at h
  · rename_i p q e1 e2
    split at h
    · rename_i hf
      rw [Bool.and_eq_true] at hf
      cases h
      exact ⟨p, q, e1, e2, hf.1, hf.2, rfl⟩
    · cases h
  · cases h
theorem str_one {a : Str} (h : a.cps.size = 1) : a = ⟨#[a.cps.getD 0 0]⟩ := by
  obtain ⟨⟨l⟩⟩ := a
  match l, h with
  | [c], _ => rfl
theorem inD_rule {neg : Bool} (pins : List (Addr × Obj)) (s : Shared) (st : L2.St) (H : Hp) (x y : V) (v u : Value) (Q : VK) (io : Pl) (m : Sto) (p q : D) (b : Bool) (I : Inv X pins st H s) (rx : RelV x v) (ry : RelV y u) (S : SRel X.K X.mg io m H)
    (hp : RepV X.K X.mg io m.length H p x) (hq : RepV X.K X.mg io m.length H q y) (h : inD m p q = some b) (k : Q (.bl (if neg then !b else b)) H) :
    wpAny (model X.prog X.w) X.A (compareOp (if neg then .NotIn else .In) v u) (EP X pins st Q) X.xe s := by
  have seq : ∀ (ys : List D) (a : Addr) (vs : List V), y = .ref a → (SqL X.K H a vs ∨ SqT X.K H a vs) → RepVs X.K X.mg io m.length H ys vs → (if (p.flat && ys.all D.flat) = true then some (ys.any fun z => eqF z p) else none) = some b →
      wpAny (model X.prog X.w) X.A (compareOp (if neg then .NotIn else .In) v u) (EP X pins st Q) X.xe s := by
    intro ys a vs ey hs r e
    split at e
    · rename_i hf
      rw [Bool.and_eq_true] at hf
      have e := Option.some.inj e
      have z : inV x vs = b := (inV_rep hf.1 hp hf.2 r).trans e
      cases neg with
      | false => exact op_in_seq pins s st H _ _ v u Q I rx ry ⟨a, vs, ey, hs, flat_rep hf.1 hp, flats_rep hf.2 r, by rw [z]; exact k⟩
      | true => exact op_notIn_seq pins s st H _ _ v u Q I rx ry ⟨a, vs, ey, hs, flat_rep hf.1 hp, flats_rep hf.2 r, by rw [z]; exact k⟩
    · cases e
  unfold inD at h
  split at h
  · rename_i a z
    subst hp
    subst hq
    split at h
    · rename_i h1
      cases h
      rw [str_one h1] at rx
      cases neg with
      | false => exact op_in_sign pins s st H _ _ v u Q I rx ry ⟨_, z, rfl, rfl, k⟩
      | true => exact op_notIn_sign pins s st H _ _ v u Q I rx ry ⟨_, z, rfl, rfl, k⟩
    · cases h
      cases neg with
      | false => exact op_in_str pins s st H _ _ v u Q I rx ry ⟨a, z, rfl, rfl, k⟩
      | true => exact op_notin_str pins s st H _ _ v u Q I rx ry ⟨a, z, rfl, rfl, k⟩
  · split at h
    · rename_i ys e
      rw [top_tup e] at hq
      obtain ⟨a, vs, rfl, q1, r⟩ := hq
      exact seq ys a vs rfl (.inr q1) r h
    · rename_i ys e
      obtain ⟨a, vs, rfl, q1, r⟩ := topLst S hq e
      exact seq ys a vs rfl (.inl (SqL.of q1)) r h
    · cases h
theorem op_cmp {o : CmpOp} (hu : X.A.units + 64 < cLine) : OpR X (compareOp o) (rOp X.K X.mg (opCmp o)) := by
  refine rOp.of fun pins s st H x y v u Q io m p q I rx ry S hp hq h => ?_
  unfold opCmp at h
  cases o with
  | Eq =>
    obtain ⟨b, e, h⟩ := bOut_post h
    obtain ⟨d1, d2, e1, e2, f1, f2, rfl⟩ := eqD_some e
    exact op_eqD hu pins s st H _ _ v u Q I rx ry ⟨d1, d2, dp_top S hp e1, dp_top S hq e2, f1, f2, WV.here h S rfl⟩
  | NotEq =>
    obtain ⟨b, e, h⟩ := bOut_post h
    obtain ⟨b', e0, rfl⟩ := Option.map_eq_some_iff.mp e
    obtain ⟨d1, d2, e1, e2, f1, f2, rfl⟩ := eqD_some e0
    exact op_neD hu pins s st H _ _ v u Q I rx ry ⟨d1, d2, dp_top S hp e1, dp_top S hq e2, f1, f2, WV.here h S rfl⟩
  | Lt =>
    dsimp only at h
    split at h
    · subst hp; subst hq; exact op_lt pins s st H _ _ v u Q I rx ry ⟨_, _, rfl, rfl, WV.here h S rfl⟩
    · subst hp; subst hq; exact op_lt_str pins s st H _ _ v u Q I rx ry ⟨_, _, rfl, rfl, WV.here h S rfl⟩
    · exact h.elim
  | LtE =>
    dsimp only at h
    split at h
    · subst hp; subst hq; exact op_le pins s st H _ _ v u Q I rx ry ⟨_, _, rfl, rfl, WV.here h S rfl⟩
    · exact h.elim
  | Gt =>
    dsimp only at h
    split at h
    · subst hp; subst hq; exact op_gt pins s st H _ _ v u Q I rx ry ⟨_, _, rfl, rfl, WV.here h S rfl⟩
    · exact h.elim
  | GtE =>
    dsimp only at h
    split at h
    · subst hp; subst hq; exact op_ge pins s st H _ _ v u Q I rx ry ⟨_, _, rfl, rfl, WV.here h S rfl⟩
    · exact h.elim
  | Is =>
    dsimp only at h
    split at h
    · subst hq
      refine op_isN pins s st H _ _ v u Q I rx ry ⟨rfl, ?_⟩
      split at h
      · subst hp; exact WV.here h S rfl
      · rename_i hn
        have z : decide (x = .non) = false := by
          refine decide_eq_false fun e => ?_
          subst e
          cases p with
          | non => exact hn rfl
          | bl b => cases hp
          | int b => cases hp
          | str b => cases hp
          | tup b => obtain ⟨a, vs, e, _⟩ := hp; cases e
          | lst b => obtain ⟨a, vs, e, _⟩ := hp; cases e
          | scr b => obtain ⟨a, e, _⟩ := hp; cases e
          | ref n => obtain ⟨_, e⟩ := hp; cases e
          | glb n => obtain ⟨a, _, e⟩ := hp; cases e
          | ty n => cases hp
        rw [z]; exact WV.here h S rfl
    · exact h.elim
  | IsNot =>
    dsimp only at h
    split at h
    · subst hq
      refine op_notN pins s st H _ _ v u Q I rx ry ⟨rfl, ?_⟩
      split at h
      · subst hp; exact WV.here h S rfl
      · rename_i hn
        have z : decide (x = .non) = false := by
          refine decide_eq_false fun e => ?_
          subst e
          cases p with
          | non => exact hn rfl
          | bl b => cases hp
          | int b => cases hp
          | str b => cases hp
          | tup b => obtain ⟨a, vs, e, _⟩ := hp; cases e
          | lst b => obtain ⟨a, vs, e, _⟩ := hp; cases e
          | scr b => obtain ⟨a, e, _⟩ := hp; cases e
          | ref n => obtain ⟨_, e⟩ := hp; cases e
          | glb n => obtain ⟨a, _, e⟩ := hp; cases e
          | ty n => cases hp
        rw [z]; exact WV.here h S rfl
    · exact h.elim
  | In =>
    obtain ⟨b, e, h⟩ := bOut_post h
    exact inD_rule (neg := false) pins s st H x y v u Q io m p q b I rx ry S hp hq e (WV.here h S rfl)
  | NotIn =>
    obtain ⟨b, e, h⟩ := bOut_post h
    obtain ⟨b', e0, rfl⟩ := Option.map_eq_some_iff.mp e
    exact inD_rule (neg := true) pins s st H x y v u Q io m p q b' I rx ry S hp hq e0 (WV.here h S rfl)

/-! ### subscripts -/
theorem ixN_eq (n : Nat) (i : Int) : LC.ixN n i = L2.ixN n i := rfl
theorem atI_rep {K : PySem.W.Frag} {mg : Str → Option Value} {io : Pl} {N : Nat} {H : Hp} {ds : List D} {vs : List V} {i : Int} {d : D} (r : RepVs K mg io N H ds vs) (e : atI ds i = some d) : ∃ v, L2.atI vs i = some v ∧ RepV K mg io N H d v := by
  unfold atI at e
  unfold L2.atI
  rw [← r.length, ← ixN_eq]
  cases z : LC.ixN ds.length i with
  | none => rw [z] at e; cases e
  | some j =>
    rw [z] at e
    exact r.get e
theorem ix_any : IxR X (rOp X.K X.mg opIx) := by
  intro value slice pins s st H x y v u Q I rx ry h hs
  obtain ⟨io, m, p, q, S, hp, hq, h⟩ := h
  unfold opIx at h
  split at h
  · rename_i xs i e
    rw [top_tup e] at hp
    subst hq
    obtain ⟨a, vs, rfl, q1, r⟩ := hp
    obtain ⟨d, e2, h⟩ := oOut_post h
    obtain ⟨w, e3, rw⟩ := atI_rep r e2
    exact ix_tup value slice pins s st H _ _ v u Q I rx ry ⟨a, vs, i, w, rfl, rfl, q1, e3, WV.here h S rw⟩ hs
  · rename_i xs i e
    subst hq
    obtain ⟨a, vs, rfl, q1, r⟩ := topLst S hp e
    obtain ⟨d, e2, h⟩ := oOut_post h
    obtain ⟨w, e3, rw⟩ := atI_rep r e2
    exact ix_list value slice pins s st H _ _ v u Q I rx ry ⟨a, vs, i, w, rfl, rfl, SqL.of q1, e3, WV.here h S rw⟩ hs
  · rename_i ns i e
    rw [top_scr e] at hp
    subst hq
    obtain ⟨a, rfl, q1⟩ := hp
    obtain ⟨d, e2, h⟩ := oOut_post h
    obtain ⟨k, e3, rfl⟩ := Option.map_eq_some_iff.mp e2
    have e4 : L2.atI (ns.map V.int) i = some (.int k) := by
      unfold atI at e3
      unfold L2.atI
      rw [List.length_map, ← ixN_eq]
      cases z : LC.ixN ns.length i with
      | none => rw [z] at e3; cases e3
      | some j =>
        rw [z] at e3
        show (ns.map V.int)[j]? = _
        rw [List.getElem?_map, show ns[j]? = some k from e3]
        rfl
    exact ix_list value slice pins s st H _ _ v u Q I rx ry ⟨a, _, i, _, rfl, rfl, q1.sq, e4, WV.here h S rfl⟩ hs
  · rename_i z i e
    rw [top_str e] at hp
    subst hp
    subst hq
    split at h
    · rename_i hz
      obtain ⟨d, e2, h⟩ := oOut_post h
      obtain ⟨k, e3, rfl⟩ := Option.map_eq_some_iff.mp e2
      exact ix_str value slice pins s st H _ _ v u Q I rx ry ⟨z, i, k, rfl, rfl, by rw [← lim]; exact of_decide_eq_true hz, e3, WV.here h S rfl⟩ hs
    · exact h.elim
  · exact h.elim
theorem sIx_eq (n d : Nat) (i : Option Int) : sIx n d i = HT.sIx n d i := by
  cases i with
  | none => rfl
  | some i => unfold sIx HT.sIx; rfl
end
end LC

/-! # LcF: slices, truth, built-in functions -/
namespace LC
open PySem PySem.Spec PyProof.Rows L2
section
variable {X : Cx}
theorem RepVs.cut {K : PySem.W.Frag} {mg : Str → Option Value} {io : Pl} {N : Nat} {H : Hp} {ds : List D} {vs : List V} (lo hi : Option Int) (r : RepVs K mg io N H ds vs) : RepVs K mg io N H (cut ds lo hi) (cutV vs lo hi) := by
  unfold LC.cut L2.cutV
  rw [sIx_eq, sIx_eq, r.length]
  exact (r.drop _).take _
def rSl (K : PySem.W.Frag) (mg : Str → Option Value) (f : D → Option Int → Option Int → M D) : V → Option Int → Option Int → Hp → VK → Prop := fun x lo hi H Q =>
  ∃ io m p, SRel K mg io m H ∧ RepV K mg io m.length H p x ∧ Post (f p lo hi m) (WV K mg io m H Q)
theorem sl_any {mu : Bool} : SlR X (rSl X.K X.mg (opSl mu)) := by
  intro pins s st H x v vl vu lo hi sl Q I rx hs pl pu h
  obtain ⟨io, m, p, S, hp, h⟩ := h
  unfold opSl at h
  split at h
  · rename_i xs e
    rw [top_tup e] at hp
    obtain ⟨a, vs, rfl, q1, r⟩ := hp
    have key : ∀ (c : Addr) (H' : Hp), SRel X.K X.mg io m H' → LC.Ext io m.length H io m.length H' → SqT X.K H' c (cutV vs lo hi) → Q (.ref c) H' := fun c H' S' x q =>
      h io H' _ x S' ⟨c, _, rfl, q, (r.cut lo hi).keep S x⟩
    refine sl_tupA pins s st H _ v vl vu lo hi sl Q I rx hs pl pu ⟨a, vs, rfl, q1, fun ⟨e1, e2⟩ => ?_, fun _ p hp => ?_⟩
    · refine key a H S LC.Ext.refl ?_
      have z : cutV vs lo hi = vs := by
        unfold L2.cutV
        rw [e1, e2]
        simp
      rw [z]; exact q1
    · exact key p _ (S.new hp) (LC.Ext.new hp) (.inl (.inl upd_same))
  · rename_i xs e
    obtain ⟨a, vs, rfl, q1, r⟩ := topLst S hp e
    exact sl_list pins s st H _ v vl vu lo hi sl Q I rx hs pl pu ⟨a, vs, rfl, SqL.of q1, fun p hp => Post.lst h S hp (r.cut lo hi)⟩
  · rename_i ns e
    rw [top_scr e] at hp
    obtain ⟨a, rfl, q1⟩ := hp
    exact sl_list pins s st H _ v vl vu lo hi sl Q I rx hs pl pu ⟨a, _, rfl, q1.sq, fun p hp => WV.frozen h S hp (repLst S hp ((RepVs.ints ns).cut lo hi))⟩
  · rename_i z e
    rw [top_str e] at hp
    subst hp
    split at h
    · rename_i hz
      refine sl_str pins s st H _ v vl vu lo hi sl Q I rx hs pl pu ⟨z, rfl, by rw [← lim]; exact of_decide_eq_true hz, WV.here h S ?_⟩
      show _ = V.str _
      unfold L2.cutS LC.cut
      rw [sIx_eq, sIx_eq]
      simp only [Array.length_toList]
      rfl
    · exact h.elim
  · exact h.elim

/-! ### truth -/
theorem tru_rule (H : Hp) (x : V) (Q : Bool → Hp → Prop) (io : Pl) (m : Sto) (p : D) (S : SRel X.K X.mg io m H)
    (hp : RepV X.K X.mg io m.length H p x) (h : Post (tru p m) (WB X.K X.mg io m H Q)) : ∃ k, TruV X.K x H k ∧ Q k H := by
  unfold tru at h
  have fin : ∀ b, WB X.K X.mg io m H Q b m → Q b H := fun b z => z io H LC.Ext.refl S
  have flt : ∀ {d : D}, top m p = d → (∀ n, p ≠ .ref n) → p = d := fun {d} e hn => by
    cases p with
    | ref n => exact absurd rfl (hn n)
    | _ => exact e
  have nr : ∀ {d : D}, top m p = d → (∀ xs, d ≠ .lst xs) → (∀ n, d ≠ .ref n) → p = d := fun {d} e h1 h2 => by
    cases p with
    | ref n =>
      unfold top at e
      dsimp only at e
      cases q : m[n]? with
      | none => rw [q] at e; exact e
      | some o => cases o with
        | lst xs => rw [q] at e; exact absurd e.symm (h1 xs)
        | ins C fs => rw [q] at e; exact e
    | _ => exact e
  split at h
  · rename_i e
    have e := nr e (fun _ z => nomatch z) (fun _ z => nomatch z)
    subst e; subst hp; exact ⟨_, rfl, fin _ h⟩
  · rename_i b e
    have e := nr e (fun _ z => nomatch z) (fun _ z => nomatch z)
    subst e; subst hp; exact ⟨_, rfl, fin _ h⟩
  · rename_i b e
    have e := nr e (fun _ z => nomatch z) (fun _ z => nomatch z)
    subst e; subst hp; exact ⟨_, rfl, fin _ h⟩
  · rename_i b e
    rw [top_str e] at hp
    subst hp
    split at h
    · rename_i hz
      exact ⟨_, ⟨by rw [← lim]; exact of_decide_eq_true hz, rfl⟩, fin _ h⟩
    · exact h.elim
  · rename_i xs e
    rw [top_tup e] at hp
    obtain ⟨a, vs, rfl, q1, r⟩ := hp
    refine ⟨_, .inr (.inl ⟨vs, q1, rfl⟩), ?_⟩
    have z : vs.isEmpty = xs.isEmpty := by
      have := r.length
      cases xs <;> cases vs <;> simp_all
    rw [z]; exact fin _ h
  · rename_i xs e
    obtain ⟨a, vs, rfl, q1, r⟩ := topLst S hp e
    refine ⟨_, .inl ⟨vs, SqL.of q1, rfl⟩, ?_⟩
    have z : vs.isEmpty = xs.isEmpty := by
      have := r.length
      cases xs <;> cases vs <;> simp_all
    rw [z]; exact fin _ h
  · exact h.elim

/-! ### x[y] = v -/
theorem set_rule (pins : List (Addr × Obj)) (s : Shared) (st : L2.St) (H : Hp) (o i v : V) (ov iv u : Value) (Q : Hp → Prop) (io : Pl) (m : Sto) (po pi pv : D) (I : Inv X pins st H s) (ro : RelV o ov) (ri : RelV i iv) (rv : RelV v u) (S : SRel X.K X.mg io m H)
    (ho : RepV X.K X.mg io m.length H po o) (hi : RepV X.K X.mg io m.length H pi i) (hv : RepV X.K X.mg io m.length H pv v)
    (h : Post (opSet po pi pv m) fun _ m' => ∀ H', LC.Ext io m.length H io m'.length H' → SRel X.K X.mg io m' H' → Q H') :
    wpAny (model X.prog X.w) X.A (setItem ov iv u) (fun _ s' => ∃ H', Inv X pins st H' s' ∧ Q H') X.xe s := by
  unfold opSet at h
  split at h
  · rename_i n k
    obtain ⟨hn, rfl⟩ := ho
    subst hi
    split at h
    · rename_i xs e
      split at h
      · rename_i j ej
        have r := S.ob n _ e
        obtain ⟨vs, h1, r1⟩ := r
        refine set_list pins s st H _ _ v ov iv u Q I ro ri rv ⟨io n, vs, k, j, rfl, rfl, h1, by rw [← r1.length, ← ixN_eq]; exact ej, ?_⟩
        refine h _ (by rw [List.length_set]; exact LC.Ext.write S hn) (S.write hn ⟨_, upd_same, ?_⟩)
        exact (r1.set j hv).keep S (LC.Ext.write S hn)
      · exact h.elim
    · exact h.elim
  · exact h.elim
end

/-! ### built-in functions -/
section
variable {K : PySem.W.Frag} {mg : Str → Option Value} {io : Pl} {N : Nat} {m : Sto} {H : Hp}
theorem ints_rep : ∀ {ds : List D} {vs : List V} {ns : List Int}, asInts ds = some ns → RepVs K mg io N H ds vs → vs = ns.map V.int
  | [], vs, ns, e, r => by cases (show vs = [] from r); cases e; rfl
  | d :: ds, vs, ns, e, r => by
    obtain ⟨v, us, rfl, h1, h2⟩ := r
    cases d with
    | int i =>
      cases (show v = .int i from h1)
      unfold asInts at e
      cases z : asInts ds with
      | none => rw [z] at e; cases e
      | some q => rw [z] at e; cases e; rw [ints_rep z h2]; rfl
    | _ => cases e
theorem bools_rep : ∀ {ds : List D} {vs : List V} {ns : List Bool}, asBools ds = some ns → RepVs K mg io N H ds vs → vs = ns.map V.bl
  | [], vs, ns, e, r => by cases (show vs = [] from r); cases e; rfl
  | d :: ds, vs, ns, e, r => by
    obtain ⟨v, us, rfl, h1, h2⟩ := r
    cases d with
    | bl i =>
      cases (show v = .bl i from h1)
      unfold asBools at e
      cases z : asBools ds with
      | none => rw [z] at e; cases e
      | some q => rw [z] at e; cases e; rw [bools_rep z h2]; rfl
    | _ => cases e
theorem most_ge : ∀ (ns : List Int) (n : Int), n ∈ ns → n ≤ most ns
  | [], _, h => by cases h
  | [x], n, h => by rw [List.mem_singleton] at h; rw [h]; exact Int.le_refl _
  | x :: y :: r, n, h => by
    show n ≤ max x (most (y :: r))
    rcases List.mem_cons.mp h with e | h
    · omega
    · have := most_ge (y :: r) n h; omega
theorem most_mem : ∀ (ns : List Int), 0 < ns.length → most ns ∈ ns
  | [], h => by cases h
  | [x], _ => List.mem_singleton.mpr rfl
  | x :: y :: r, _ => by
    have ih := most_mem (y :: r) (Nat.succ_pos _)
    show max x (most (y :: r)) ∈ _
    by_cases hx : most (y :: r) ≤ x
    · rw [Int.max_eq_left hx]; exact List.mem_cons_self
    · rw [Int.max_eq_right (by omega)]; exact List.mem_cons_of_mem _ ih
theorem least_le : ∀ (ns : List Int) (n : Int), n ∈ ns → least ns ≤ n
  | [], _, h => by cases h
  | [x], n, h => by rw [List.mem_singleton] at h; rw [h]; exact Int.le_refl _
  | x :: y :: r, n, h => by
    show min x (least (y :: r)) ≤ n
    rcases List.mem_cons.mp h with e | h
    · omega
    · have := least_le (y :: r) n h; omega
theorem least_mem : ∀ (ns : List Int), 0 < ns.length → least ns ∈ ns
  | [], h => by cases h
  | [x], _ => List.mem_singleton.mpr rfl
  | x :: y :: r, _ => by
    have ih := least_mem (y :: r) (Nat.succ_pos _)
    show min x (least (y :: r)) ∈ _
    by_cases hx : x ≤ least (y :: r)
    · rw [Int.min_eq_left hx]; exact List.mem_cons_self
    · rw [Int.min_eq_right (by omega)]; exact List.mem_cons_of_mem _ ih
theorem rep1 {d : D} {vs : List V} (h : RepVs K mg io N H [d] vs) : ∃ v, vs = [v] ∧ RepV K mg io N H d v := by
  obtain ⟨v, r, rfl, h1, h2⟩ := h
  cases (show r = [] from h2)
  exact ⟨v, rfl, h1⟩
theorem rep2 {d e : D} {vs : List V} (h : RepVs K mg io N H [d, e] vs) : ∃ v u, vs = [v, u] ∧ RepV K mg io N H d v ∧ RepV K mg io N H e u := by
  obtain ⟨v, r, rfl, h1, h2⟩ := h
  obtain ⟨u, rfl, h3⟩ := rep1 h2
  exact ⟨v, u, rfl, h1, h3⟩
end
def rCB (K : PySem.W.Frag) (mg : Str → Option Value) (f : List D → M D) : List V → Hp → VK → Prop := fun xs H Q => ∃ io m ps, SRel K mg io m H ∧ RepVs K mg io m.length H ps xs ∧ Post (f ps m) (WV K mg io m H Q)
section
variable {X : Cx}
theorem nref {m : Sto} {p d : D} (e : top m p = d) (h1 : ∀ xs, d ≠ .lst xs) (h2 : ∀ n, d ≠ .ref n) : p = d := by
  cases p with
  | ref n =>
    unfold top at e
    dsimp only at e
    cases q : m[n]? with
    | none => rw [q] at e; exact e
    | some o => cases o with
      | lst xs => rw [q] at e; exact absurd e.symm (h1 xs)
      | ins C fs => rw [q] at e; exact e
  | _ => exact e
theorem seq_rep {K : PySem.W.Frag} {mg : Str → Option Value} {io : Pl} {m : Sto} {H : Hp} {p : D} {x : V} {xs : List D} (S : SRel K mg io m H) (hp : RepV K mg io m.length H p x) (e : seqOf m p = some xs) :
    ∃ a vs, x = .ref a ∧ (SqL K H a vs ∨ SqT K H a vs) ∧ RepVs K mg io m.length H xs vs := by
  unfold seqOf at e
  split at e
  · rename_i ys z
    cases e
    rw [top_tup z] at hp
    obtain ⟨a, vs, rfl, q1, r⟩ := hp
    exact ⟨a, vs, rfl, .inr q1, r⟩
  · rename_i ys z
    cases e
    obtain ⟨a, vs, rfl, q1, r⟩ := topLst S hp z
    exact ⟨a, vs, rfl, .inl (SqL.of q1), r⟩
  · rename_i ns z
    cases e
    rw [top_scr z] at hp
    obtain ⟨a, rfl, q1⟩ := hp
    exact ⟨a, _, rfl, .inl q1.sq, RepVs.ints ns⟩
  · cases e

theorem cb_len : CallR X (.builtin "len") (rCB X.K X.mg bLen) := by
  intro pins s st H xs us Q I r ⟨io, m, ps, S, hp, h⟩
  unfold bLen at h
  split at h <;> first | exact h.elim | skip
  rename_i d
  obtain ⟨v, rfl, hv⟩ := rep1 hp
  split at h
  · rename_i z e
    rw [top_str e] at hv
    subst hv
    split at h
    · rename_i hz
      exact call_len_str pins s st H _ us Q I r ⟨z, rfl, by rw [← lim]; exact of_decide_eq_true hz, WV.here h S rfl⟩
    · exact h.elim
  · split at h
    · rename_i ys e
      obtain ⟨a, vs, rfl, q1, r1⟩ := seq_rep S hv e
      exact call_len_seq pins s st H _ us Q I r ⟨a, vs, rfl, q1, WV.here h S (by rw [r1.length]; rfl)⟩
    · exact h.elim
theorem cb_abs : CallR X (.builtin "abs") (rCB X.K X.mg bAbs) := by
  intro pins s st H xs us Q I r ⟨io, m, ps, S, hp, h⟩
  unfold bAbs at h
  split at h <;> first | exact h.elim | skip
  rename_i i
  obtain ⟨v, rfl, hv⟩ := rep1 hp
  subst hv
  exact call_abs pins s st H _ us Q I r ⟨i, rfl, WV.here h S rfl⟩
theorem cb_max (hc : X.calm = true) : CallR X (.builtin "max") (rCB X.K X.mg bMax) := by
  intro pins s st H xs us Q I r ⟨io, m, ps, S, hp, h⟩
  unfold bMax at h
  split at h <;> first | exact h.elim | skip
  · rename_i i j
    obtain ⟨v, u, rfl, hv, hu⟩ := rep2 hp
    subst hv; subst hu
    exact call_max2 hc pins s st H _ us Q I r ⟨i, j, rfl, WV.here h S rfl⟩
  · rename_i d
    obtain ⟨v, rfl, hv⟩ := rep1 hp
    split at h
    · rename_i ys e
      obtain ⟨a, vs, rfl, q1, r1⟩ := topLst S hv e
      split at h
      · rename_i n ns e2
        have ev := ints_rep e2 r1
        subst ev
        refine cr_max hc pins s st H _ us Q I r ⟨a, n :: ns, rfl, SqL.of q1, Nat.succ_pos _, fun k hk hle => ?_⟩
        have e3 : k = most (n :: ns) := Int.le_antisymm (most_ge _ _ hk) (hle _ (most_mem _ (Nat.succ_pos _)))
        rw [e3]; exact WV.here h S rfl
      · exact h.elim
    · exact h.elim
theorem cb_min (hc : X.calm = true) : CallR X (.builtin "min") (rCB X.K X.mg bMin) := by
  intro pins s st H xs us Q I r ⟨io, m, ps, S, hp, h⟩
  unfold bMin at h
  split at h <;> first | exact h.elim | skip
  · rename_i i j
    obtain ⟨v, u, rfl, hv, hu⟩ := rep2 hp
    subst hv; subst hu
    exact call_min2 hc pins s st H _ us Q I r ⟨i, j, rfl, WV.here h S rfl⟩
  · rename_i d
    obtain ⟨v, rfl, hv⟩ := rep1 hp
    split at h
    · rename_i ys e
      obtain ⟨a, vs, rfl, q1, r1⟩ := topLst S hv e
      split at h
      · rename_i n ns e2
        have ev := ints_rep e2 r1
        subst ev
        refine cr_min hc pins s st H _ us Q I r ⟨a, n :: ns, rfl, SqL.of q1, Nat.succ_pos _, fun k hk hle => ?_⟩
        have e3 : k = least (n :: ns) := Int.le_antisymm (hle _ (least_mem _ (Nat.succ_pos _))) (least_le _ _ hk)
        rw [e3]; exact WV.here h S rfl
      · exact h.elim
    · exact h.elim
theorem cb_sum (hc : X.calm = true) : CallR X (.builtin "sum") (rCB X.K X.mg bSum) := by
  intro pins s st H xs us Q I r ⟨io, m, ps, S, hp, h⟩
  unfold bSum at h
  split at h <;> first | exact h.elim | skip
  rename_i d
  obtain ⟨v, rfl, hv⟩ := rep1 hp
  split at h
  · rename_i ys e
    obtain ⟨a, vs, rfl, q1, r1⟩ := topLst S hv e
    split at h
    · rename_i ns e2
      have ev := ints_rep e2 r1
      subst ev
      exact cr_sum hc pins s st H _ us Q I r ⟨a, ns, rfl, SqL.of q1, WV.here h S rfl⟩
    · exact h.elim
  · exact h.elim
theorem cb_all (hc : X.calm = true) : CallR X (.builtin "all") (rCB X.K X.mg bAll) := by
  intro pins s st H xs us Q I r ⟨io, m, ps, S, hp, h⟩
  unfold bAll at h
  split at h <;> first | exact h.elim | skip
  rename_i d
  obtain ⟨v, rfl, hv⟩ := rep1 hp
  split at h
  · rename_i ys e
    obtain ⟨a, vs, rfl, q1, r1⟩ := topLst S hv e
    split at h
    · rename_i ns e2
      have ev := bools_rep e2 r1
      subst ev
      exact cr_all hc pins s st H _ us Q I r ⟨a, ns, rfl, SqL.of q1, WV.here h S rfl⟩
    · exact h.elim
  · exact h.elim
theorem cb_any (hc : X.calm = true) : CallR X (.builtin "any") (rCB X.K X.mg bAny) := by
  intro pins s st H xs us Q I r ⟨io, m, ps, S, hp, h⟩
  unfold bAny at h
  split at h <;> first | exact h.elim | skip
  rename_i d
  obtain ⟨v, rfl, hv⟩ := rep1 hp
  split at h
  · rename_i ys e
    obtain ⟨a, vs, rfl, q1, r1⟩ := topLst S hv e
    split at h
    · rename_i ns e2
      have ev := bools_rep e2 r1
      subst ev
      exact cr_any hc pins s st H _ us Q I r ⟨a, ns, rfl, SqL.of q1, WV.here h S rfl⟩
    · exact h.elim
  · exact h.elim
theorem cb_divmod : CallR X (.builtin "divmod") (rCB X.K X.mg bDivmod) := by
  intro pins s st H xs us Q I r ⟨io, m, ps, S, hp, h⟩
  unfold bDivmod at h
  split at h <;> first | exact h.elim | skip
  rename_i i j
  obtain ⟨v, u, rfl, hv, hu⟩ := rep2 hp
  subst hv; subst hu
  split at h
  · rename_i hd
    unfold divOk at hd
    simp only [Bool.and_eq_true, decide_eq_true_eq] at hd
    exact call_divmodW pins s st H _ us Q I r ⟨i, j, rfl, ⟨hd.1, PyProof.noPylong_of_log2 hd.2⟩, fun p hp => WV.frozen h S hp (repTup S hp ⟨_, _, rfl, rfl, _, _, rfl, rfl, rfl⟩)⟩
  · exact h.elim
end
end LC

/-! # LcG: rules of expressions -/
namespace LC
open PySem PySem.Spec PyProof.Rows L2
theorem PE.mono {X : Cx} {e : Expr} {t t' : TE} (h : PE X e t) (k : ∀ st H Q, t' st H Q → t st H Q) : PE X e t' := ⟨fun pins s st H Q I q => h.run pins s st H Q I (k _ _ _ q)⟩
theorem PT.mono {X : Cx} {e : Expr} {t t' : TT} (h : PT X e t) (k : ∀ st H Q, t' st H Q → t st H Q) : PT X e t' := ⟨fun pins s st H Q I q => h.run pins s st H Q I (k _ _ _ q)⟩
theorem PW.mono {X : Cx} {e : Expr} {t t' : TT} (h : PW X e t) (k : ∀ st H Q, t' st H Q → t st H Q) : PW X e t' := ⟨fun wh pins s st H Q I q => h.run wh pins s st H Q I (k _ _ _ q)⟩
theorem PA.mono {X : Cx} {e : List Expr} {t t' : TA} (h : PA X e t) (k : ∀ st H Q, t' st H Q → t st H Q) : PA X e t' := ⟨fun pos pins s st H Q I q => h.run pos pins s st H Q I (k _ _ _ q)⟩
theorem PS.mono {X : Cx} {e : Stmt} {t t' : TS} (h : PS X e t) (k : ∀ D st H, t' D st H → t D st H) : PS X e t' := ⟨fun pins s st H Q I q => h.run pins s st H Q I (k _ _ _ q)⟩
theorem PSs.mono {X : Cx} {e : List Stmt} {t t' : TS} (h : PSs X e t) (k : ∀ D st H, t' D st H → t D st H) : PSs X e t' := ⟨fun pins s st H Q I q => h.run pins s st H Q I (k _ _ _ q)⟩

section
variable {K : PySem.W.Frag} {mg : Str → Option Value} {io : Pl} {r : Env} {m : Sto} {st : L2.St} {H : Hp}
theorem tM.bind {β : Type} {ma : Env → M D} {k : D → M β} {F : β → Sto → Prop} {R : VK} (s : S0 K mg io r m st H) (h : Post (bnd (ma r) k m) F)
    (c : ∀ io' H' m' p x, Ext io m.length H io' m'.length H' → S0 K mg io' r m' st H' → RepV K mg io' m'.length H' p x → Post (k p m') F → R x H') : tM K mg ma st H R :=
  ⟨io, r, m, s, (Post.of_bnd h).mono fun p m' q io' H' x e S rp => c io' H' m' p x e (s.next e S) rp q⟩
theorem tT.bind {β : Type} {ma : Env → M Bool} {k : Bool → M β} {F : β → Sto → Prop} {R : Bool → Hp → Prop} (s : S0 K mg io r m st H) (h : Post (bnd (ma r) k m) F)
    (c : ∀ io' H' m' p, Ext io m.length H io' m'.length H' → S0 K mg io' r m' st H' → Post (k p m') F → R p H') : tT K mg ma st H R :=
  ⟨io, r, m, s, (Post.of_bnd h).mono fun p m' q io' H' e S => c io' H' m' p e (s.next e S) q⟩
theorem tL.bind {β : Type} {ma : Env → M (List D)} {k : List D → M β} {F : β → Sto → Prop} {R : List V → Hp → Prop} (s : S0 K mg io r m st H) (h : Post (bnd (ma r) k m) F)
    (c : ∀ io' H' m' p x, Ext io m.length H io' m'.length H' → S0 K mg io' r m' st H' → RepVs K mg io' m'.length H' p x → Post (k p m') F → R x H') : tL K mg ma st H R :=
  ⟨io, r, m, s, (Post.of_bnd h).mono fun p m' q io' H' x e S rp => c io' H' m' p x e (s.next e S) rp q⟩
theorem tM.of {ma : Env → M D} {Q : VK} (s : S0 K mg io r m st H) (h : Post (ma r m) (WV K mg io m H Q)) : tM K mg ma st H Q := ⟨io, r, m, s, h⟩
theorem tT.of {ma : Env → M Bool} {Q : Bool → Hp → Prop} (s : S0 K mg io r m st H) (h : Post (ma r m) (WB K mg io m H Q)) : tT K mg ma st H Q := ⟨io, r, m, s, h⟩
theorem rOp.mk {f : D → D → M D} {p q : D} {x y : V} {Q : VK} (S : SRel K mg io m H) (hp : RepV K mg io m.length H p x) (hq : RepV K mg io m.length H q y) (h : Post (f p q m) (WV K mg io m H Q)) : rOp K mg f x y H Q := ⟨io, m, p, q, S, hp, hq, h⟩
theorem WVpost.from {o : Out D} {io' : Pl} {m' : Sto} {H' : Hp} {Q : VK} (x : Ext io m.length H io' m'.length H') (h : Post o (WV K mg io m H Q)) : Post o (WV K mg io' m' H' Q) := h.mono fun _ _ z => WV.from x z
theorem WBpost.from {o : Out Bool} {io' : Pl} {m' : Sto} {H' : Hp} {Q : Bool → Hp → Prop} (x : Ext io m.length H io' m'.length H') (h : Post o (WB K mg io m H Q)) : Post o (WB K mg io' m' H' Q) := h.mono fun _ _ z => WB.from x z
theorem WLpost.from {o : Out (List D)} {io' : Pl} {m' : Sto} {H' : Hp} {Q : List V → Hp → Prop} (x : Ext io m.length H io' m'.length H') (h : Post o (WL K mg io m H Q)) : Post o (WL K mg io' m' H' Q) := h.mono fun _ _ z => WL.from x z
theorem WFpost.from {o : Out Flow} {io' : Pl} {m' : Sto} {H' : Hp} {Q : Ends} (x : Ext io m.length H io' m'.length H') (h : Post o (WF K mg io m H Q)) : Post o (WF K mg io' m' H' Q) := h.mono fun _ _ z => WF.from x z
theorem WEpost.from {o : Out Env} {io' : Pl} {m' : Sto} {H' : Hp} {ws : List Nat} {Q : L2.St → Hp → Prop} (x : Ext io m.length H io' m'.length H') (h : Post o (WE K mg io m H st ws Q)) : Post o (WE K mg io' m' H' st ws Q) := h.mono fun _ _ z io2 st2 H2 y S e w => z io2 st2 H2 (x.trans y) S e w
theorem two {ma mb : Env → M D} {g : D → D → M D} {Q : VK} (s : S0 K mg io r m st H) (h : Post (bnd (ma r) (fun p => bnd (mb r) fun q => g p q) m) (WV K mg io m H Q)) : tOp (rOp K mg g) (tM K mg ma) (tM K mg mb) st H Q :=
  tM.bind s h fun io1 H1 m1 p x e1 s1 r1 h1 => tM.bind s1 h1 fun io2 H2 m2 q y e2 s2 r2 h2 => rOp.mk s2.s (r1.keep s1.s e2) r2 (WVpost.from (e1.trans e2) h2)
theorem asB_post {d : D} {F : Bool → Sto → Prop} (h : Post (asB d m) F) : ∃ b, d = .bl b ∧ F b m := by
  cases d with
  | bl b => exact ⟨b, rfl, h⟩
  | _ => exact h.elim
theorem asI_post {d : D} {F : Option Int → Sto → Prop} (h : Post (asI d m) F) : ∃ b, d = .int b ∧ F (some b) m := by
  cases d with
  | int b => exact ⟨b, rfl, h⟩
  | _ => exact h.elim
theorem asS_post {d : D} {F : Str → Sto → Prop} (h : Post (asS d m) F) : ∃ b, d = .str b ∧ F b m := by
  cases d with
  | str b => exact ⟨b, rfl, h⟩
  | _ => exact h.elim
theorem repBl {b : Bool} {N : Nat} {v : V} (h : RepV K mg io N H (.bl b) v) : v = .bl b := h
theorem repInt {b : Int} {N : Nat} {v : V} (h : RepV K mg io N H (.int b) v) : v = .int b := h
theorem repStr {b : Str} {N : Nat} {v : V} (h : RepV K mg io N H (.str b) v) : v = .str b := h
end

section
variable {X : Cx} {a b c : Expr} {ma mb mc : Env → M D} {ta tb : Env → M Bool} {pos : Pos}
local macro_rules | `(tactic| walk_at "pe") => `(tactic| (refine PE.mono ?h fun st H Q hw => ?k; (case k => obtain ⟨io, r, m, s, h⟩ := hw)))

theorem se_var {k : Nat} {x : Str} (hN : X.N[k]? = some x) (hv : Vis X.env.scope x) (hd : (x == ("__debug__" : Str)) = false) (hc : (x == ("__classdict__" : Str)) = false) : PE X (.Name x pos) (tM X.K X.mg (getV k)) :=
  PE.mono (pe_var hN hv hd hc) fun st H Q ⟨io, r, m, s, h⟩ => by
    unfold getV at h
    split at h
    · rename_i d e
      obtain ⟨v, h1, h2⟩ := s.e.2 k d e
      exact ⟨v, h1, WV.here h s.s h2⟩
    · exact h.elim
theorem se_glob {x : Str} {gl : List (Str × D)} {u : Value} {v : V} (hg : Gl X x) (hm : X.mg x = some u) (rv : RelV v u) (hd : (x == ("__debug__" : Str)) = false)
    (hr : ∀ d, gl.lookup x = some d → ∀ io N H, RepV X.K X.mg io N H d v) : PE X (.Name x pos) (tM X.K X.mg fun _ => oOut (gl.lookup x)) :=
  PE.mono (pe_glob hg hm rv hd) fun st H Q ⟨io, r, m, s, h⟩ => by
    obtain ⟨d, e, h⟩ := oOut_post h
    exact WV.here h s.s (hr d e _ _ _)
theorem se_bt {x : String} (hg : Gl X x) (hm : X.mg x = none) (hv : bootBuiltins x = some (.type x)) (hn : (PySem.Str.ofString x) ≠ "__name__") (hd : ((x : Str) == ("__debug__" : Str)) = false) : PE X (.Name x pos) (tM X.K X.mg fun _ => LC.ret (.ty x)) :=
  PE.mono (pe_bltn (v := .ty x) hg hm hv rfl hn hd) fun st H Q ⟨io, r, m, s, h⟩ => WV.here (show WV X.K X.mg io m H Q (.ty x) m from h) s.s rfl
theorem se_int {i : Int} {j : Nat} : PE X (.Constant (.int i) j pos) (tM X.K X.mg fun _ => LC.ret (.int i)) :=
  PE.mono pe_int fun st H Q ⟨io, r, m, s, h⟩ => WV.here (show WV X.K X.mg io m H Q _ m from h) s.s rfl
theorem se_str {i : Str} {j : Nat} : PE X (.Constant (.str i) j pos) (tM X.K X.mg fun _ => LC.ret (.str i)) :=
  PE.mono pe_str fun st H Q ⟨io, r, m, s, h⟩ => WV.here (show WV X.K X.mg io m H Q _ m from h) s.s rfl
theorem se_bl {i : Bool} {j : Nat} : PE X (.Constant (.bool i) j pos) (tM X.K X.mg fun _ => LC.ret (.bl i)) :=
  PE.mono pe_bl fun st H Q ⟨io, r, m, s, h⟩ => WV.here (show WV X.K X.mg io m H Q _ m from h) s.s rfl
theorem se_non {j : Nat} : PE X (.Constant .none j pos) (tM X.K X.mg fun _ => LC.ret .non) :=
  PE.mono pe_non fun st H Q ⟨io, r, m, s, h⟩ => WV.here (show WV X.K X.mg io m H Q _ m from h) s.s rfl
theorem se_bin {mu : Bool} {o : Operator} (ha : PE X a (tM X.K X.mg ma)) (hb : PE X b (tM X.K X.mg mb)) : PE X (.BinOp a o b pos) (tM X.K X.mg fun r => bnd (ma r) fun p => bnd (mb r) fun q => opBin mu o p q) :=
  PE.mono (pe_op op_bin ha hb) fun st H Q ⟨io, r, m, s, h⟩ => two s h
theorem se_neg (ha : PE X a (tM X.K X.mg ma)) : PE X (.UnaryOp .USub a pos) (tM X.K X.mg fun r => bnd (ma r) fun p => bnd (asI p) fun k => LC.ret (.int (-(k.getD 0)))) :=
  PE.mono (pe_un un_neg ha) fun st H Q ⟨io, r, m, s, h⟩ => tM.bind s h fun io1 H1 m1 p x e1 s1 r1 h1 => by
    obtain ⟨i, rfl, h2⟩ := asI_post (Post.of_bnd h1)
    cases repInt r1
    exact ⟨i, rfl, WV.here (WV.from e1 (show WV X.K X.mg io m H Q _ m1 from h2)) s1.s rfl⟩
theorem se_cmp {o : CmpOp} (hu : X.A.units + 64 < cLine) (hm : behindInMarks o b = false) (ha : PE X a (tM X.K X.mg ma)) (hb : PE X b (tM X.K X.mg mb)) : PE X (.Compare a [o] [b] pos) (tM X.K X.mg fun r => bnd (ma r) fun p => bnd (mb r) fun q => opCmp o p q) :=
  PE.mono (pe_cmpR (op_cmp hu) ha hb hm) fun st H Q ⟨io, r, m, s, h⟩ => two s h
theorem st_cmp {o : CmpOp} (hu : X.A.units + 64 < cLine) (hm : behindInMarks o b = false) (ha : PE X a (tM X.K X.mg ma)) (hb : PE X b (tM X.K X.mg mb)) : PT X (.Compare a [o] [b] pos) (tT X.K X.mg fun r => bnd (ma r) fun p => bnd (mb r) fun q => bnd (opCmp o p q) asB) :=
  PT.mono (pt_cmpR (op_cmp hu) ha hb hm) fun st H Q ⟨io, r, m, s, h⟩ =>
    tM.bind s h fun io1 H1 m1 p x e1 s1 r1 h1 => tM.bind s1 h1 fun io2 H2 m2 q y e2 s2 r2 h2 => rOp.mk s2.s (r1.keep s1.s e2) r2 <| (Post.of_bnd h2).mono fun d m3 h3 io3 H3 v e3 S3 r3 => by
      obtain ⟨k, rfl, h4⟩ := asB_post h3
      exact ⟨k, repBl r3, h4 io3 H3 ((e1.trans e2).trans e3) S3⟩
theorem se_chain {o o2 : CmpOp} (hu : X.A.units + 64 < cLine) (hm : lastMarks [o, o2] [b, c] = false) (ha : PE X a (tM X.K X.mg ma)) (hb : PE X b (tM X.K X.mg mb)) (hc : PE X c (tM X.K X.mg mc)) :
    PE X (.Compare a [o, o2] [b, c] pos) (tM X.K X.mg fun r => bnd (ma r) fun p => bnd (mb r) fun q => bnd (opCmp o p q) fun c => bnd (asB c) fun k => if k then bnd (mc r) fun u => opCmp o2 q u else LC.ret (.bl false)) :=
  PE.mono (pe_chain (op_cmp hu) (op_cmp hu) ha hb hc hm) fun st H Q ⟨io, r, m, s, h⟩ =>
    tM.bind s h fun io1 H1 m1 p x e1 s1 r1 h1 => tM.bind s1 h1 fun io2 H2 m2 q y e2 s2 r2 h2 => rOp.mk s2.s (r1.keep s1.s e2) r2 <| (Post.of_bnd h2).mono fun d m3 h3 io3 H3 v e3 S3 r3 => by
      obtain ⟨k, rfl, h4⟩ := asB_post (Post.of_bnd h3)
      refine ⟨k, repBl r3, ?_⟩
      have s3 := s2.next e3 S3
      cases k with
      | true =>
        refine iteT (tM.bind s3 h4 fun io4 H4 m4 u w e4 s4 r4 h5 => ?_)
        exact rOp.mk s4.s ((r2.keep s2.s e3).keep s3.s e4) r4 (WVpost.from (((e1.trans e2).trans e3).trans e4) h5)
      | false => exact iteF (WV.here (WV.from ((e1.trans e2).trans e3) (show WV X.K X.mg io m H Q _ m3 from h4)) S3 rfl)
theorem st_chain {o o2 : CmpOp} (hu : X.A.units + 64 < cLine) (hm : lastMarks [o, o2] [b, c] = false) (ha : PE X a (tM X.K X.mg ma)) (hb : PE X b (tM X.K X.mg mb)) (hc : PE X c (tM X.K X.mg mc)) :
    PT X (.Compare a [o, o2] [b, c] pos) (tT X.K X.mg fun r => bnd (ma r) fun p => bnd (mb r) fun q => bnd (opCmp o p q) fun c => bnd (asB c) fun k => if k then bnd (mc r) fun u => bnd (opCmp o2 q u) asB else LC.ret false) :=
  PT.mono (pt_chain (op_cmp hu) (op_cmp hu) ha hb hc hm) fun st H Q ⟨io, r, m, s, h⟩ =>
    tM.bind s h fun io1 H1 m1 p x e1 s1 r1 h1 => tM.bind s1 h1 fun io2 H2 m2 q y e2 s2 r2 h2 => rOp.mk s2.s (r1.keep s1.s e2) r2 <| (Post.of_bnd h2).mono fun d m3 h3 io3 H3 v e3 S3 r3 => by
      obtain ⟨k, rfl, h4⟩ := asB_post (Post.of_bnd h3)
      refine ⟨k, repBl r3, ?_⟩
      have s3 := s2.next e3 S3
      cases k with
      | true =>
        refine iteT (tM.bind s3 h4 fun io4 H4 m4 u w e4 s4 r4 h5 => ?_)
        refine rOp.mk s4.s ((r2.keep s2.s e3).keep s3.s e4) r4 ((Post.of_bnd h5).mono fun d m5 h6 io5 H5 v e5 S5 r5 => ?_)
        obtain ⟨k, rfl, h7⟩ := asB_post h6
        exact ⟨k, repBl r5, h7 io5 H5 ((((e1.trans e2).trans e3).trans e4).trans e5) S5⟩
      | false => exact iteF ⟨false, rfl, (show WB X.K X.mg io m H Q false m3 from h4) io3 H3 ((e1.trans e2).trans e3) S3⟩
theorem se_and {rest : List Expr} (ha : PE X a (tM X.K X.mg ma)) (hb : PE X (.BoolOp .And (b :: rest) pos) (tM X.K X.mg mb)) : PE X (.BoolOp .And (a :: b :: rest) pos) (tM X.K X.mg fun r => bnd (ma r) fun p => bnd (asB p) fun k => if k then mb r else LC.ret (.bl false)) :=
  PE.mono (pe_and ha hb) fun st H Q ⟨io, r, m, s, h⟩ => tM.bind s h fun io1 H1 m1 p x e1 s1 r1 h1 => by
    obtain ⟨k, rfl, h2⟩ := asB_post (Post.of_bnd h1)
    refine ⟨k, repBl r1, ?_⟩
    cases k with
    | true => exact iteT (tM.of s1 (WVpost.from e1 h2))
    | false => exact iteF (WV.here (WV.from e1 (show WV X.K X.mg io m H Q _ m1 from h2)) s1.s rfl)
theorem se_or {rest : List Expr} (ha : PE X a (tM X.K X.mg ma)) (hb : PE X (.BoolOp .Or (b :: rest) pos) (tM X.K X.mg mb)) : PE X (.BoolOp .Or (a :: b :: rest) pos) (tM X.K X.mg fun r => bnd (ma r) fun p => bnd (asB p) fun k => if k then LC.ret (.bl true) else mb r) :=
  PE.mono (pe_or ha hb) fun st H Q ⟨io, r, m, s, h⟩ => tM.bind s h fun io1 H1 m1 p x e1 s1 r1 h1 => by
    obtain ⟨k, rfl, h2⟩ := asB_post (Post.of_bnd h1)
    refine ⟨k, repBl r1, ?_⟩
    cases k with
    | true => exact iteT (WV.here (WV.from e1 (show WV X.K X.mg io m H Q _ m1 from h2)) s1.s rfl)
    | false => exact iteF (tM.of s1 (WVpost.from e1 h2))
theorem se_not (ha : PE X a (tM X.K X.mg ma)) : PE X (.UnaryOp .Not a pos) (tM X.K X.mg fun r => bnd (ma r) fun p => bnd (asB p) fun k => LC.ret (.bl (!k))) :=
  PE.mono (pe_not ha) fun st H Q ⟨io, r, m, s, h⟩ => tM.bind s h fun io1 H1 m1 p x e1 s1 r1 h1 => by
    obtain ⟨k, rfl, h2⟩ := asB_post (Post.of_bnd h1)
    exact ⟨k, repBl r1, WV.here (WV.from e1 (show WV X.K X.mg io m H Q _ m1 from h2)) s1.s rfl⟩
theorem se_if (hc : PT X c (tT X.K X.mg ta)) (ha : PE X a (tM X.K X.mg ma)) (hb : PE X b (tM X.K X.mg mb)) : PE X (.IfExp c a b pos) (tM X.K X.mg fun r => bnd (ta r) fun k => if k then ma r else mb r) :=
  PE.mono (pe_ifExp hc ha hb) fun st H Q ⟨io, r, m, s, h⟩ => tT.bind s h fun io1 H1 m1 k e1 s1 h1 => by
    cases k with
    | true => exact iteT (tM.of s1 (WVpost.from e1 h1))
    | false => exact iteF (tM.of s1 (WVpost.from e1 h1))
theorem sw_and {rest : List Expr} (ha : PT X a (tT X.K X.mg ta)) (hb : PW X (.BoolOp .And (b :: rest) pos) (tT X.K X.mg tb)) : PW X (.BoolOp .And (a :: b :: rest) pos) (tT X.K X.mg fun r => bnd (ta r) fun k => if k then tb r else LC.ret false) :=
  PW.mono (pw_and ha hb) fun st H Q ⟨io, r, m, s, h⟩ => tT.bind s h fun io1 H1 m1 k e1 s1 h1 => by
    cases k with
    | true => exact iteT (tT.of s1 (WBpost.from e1 h1))
    | false => exact iteF ((WB.from e1 (show WB X.K X.mg io m H Q _ m1 from h1)) io1 H1 Ext.refl s1.s)
theorem sw_or {rest : List Expr} (ha : PT X a (tT X.K X.mg ta)) (hb : PW X (.BoolOp .Or (b :: rest) pos) (tT X.K X.mg tb)) : PW X (.BoolOp .Or (a :: b :: rest) pos) (tT X.K X.mg fun r => bnd (ta r) fun k => if k then LC.ret true else tb r) :=
  PW.mono (pw_or ha hb) fun st H Q ⟨io, r, m, s, h⟩ => tT.bind s h fun io1 H1 m1 k e1 s1 h1 => by
    cases k with
    | true => exact iteT ((WB.from e1 (show WB X.K X.mg io m H Q _ m1 from h1)) io1 H1 Ext.refl s1.s)
    | false => exact iteF (tT.of s1 (WBpost.from e1 h1))
theorem st_not (ha : PT X a (tT X.K X.mg ta)) : PT X (.UnaryOp .Not a pos) (tT X.K X.mg fun r => bnd (ta r) fun k => LC.ret (!k)) :=
  PT.mono (pt_not ha) fun st H Q ⟨io, r, m, s, h⟩ => tT.bind s h fun io1 H1 m1 k e1 s1 h1 => (WB.from e1 (show WB X.K X.mg io m H Q _ m1 from h1)) io1 H1 Ext.refl s1.s
theorem st_val (ha : PE X a (tM X.K X.mg ma)) (he : ∀ whole, isTrue a X.env whole = (do let v ← whole; standAt a.pos; holding [v] (truthy v))) : PT X a (tT X.K X.mg fun r => bnd (ma r) tru) :=
  PT.mono (pt_truth ha he) fun st H Q ⟨io, r, m, s, h⟩ => tM.bind s h fun io1 H1 m1 p x e1 s1 r1 h1 => tru_rule H1 x Q io1 m1 p s1.s r1 (WBpost.from e1 h1)
end
end LC

/-! # LcH: defs called where no text of a value is being made -/
namespace LC
open PySem PySem.Spec PyProof.Rows L2
/-- a def keeps its promise, called at most k deep, with no guard up -/
structure FnG (P : Program) (w : World) (K : PySem.W.Frag) (mg : Str → Option Value) (base : Heap) (k : Nat) (f : Addr) (fd : FuncData) (ps : List Str) (sp : Sp) : Prop where
  len : ∀ vs H Q E, sp vs H Q E → vs.length = ps.length
  go : ∀ (A : Around) (outer : List PySem.Env) (s : Shared) (H : Hp) (args : Args) (us : List Value) (vs : List V) (Q : VK), A.guards = some [] → Room k A → Env0 P w K mg base A outer s H → BindsTo s fd args (ps.zip us) → Vals vs us → sp vs H Q E0 →
    codeAny (model P w) A (.call (.ref f) args) (CR CX0 outer P w H s Q E0) s
theorem FnG.mono {P : Program} {w : World} {K : PySem.W.Frag} {mg : Str → Option Value} {base : Heap} {j k : Nat} {f : Addr} {fd : FuncData} {ps : List Str} {sp : Sp} (F : FnG P w K mg base j f fd ps sp) (h : j ≤ k) : FnG P w K mg base k f fd ps sp :=
  ⟨F.len, fun A outer s H args us vs Q hg hr => F.go A outer s H args us vs Q hg (hr.mono h)⟩

theorem FnG.of_body {P : Program} {w : World} {K : PySem.W.Frag} {mg : Str → Option Value} {base : Heap} {k : Nat} {f : Addr} {fd : FuncData} {x qual : Str} {d : Stmt} {N ps : List Str} {sp : Sp} (F : Fun K x qual d f fd) (S : FnScope N ps (defScope d))
    (len : ∀ vs H Q E, sp vs H Q E → vs.length = ps.length)
    (body : ∀ (cdv : Value) (A : Around) (outer : List PySem.Env) (s : Shared) (H : Hp) (vs : List V) (Q : VK), A.guards = some [] → Room k (A.deeper (envOfC qual (defScope d) s.heap.objs.size f cdv)) → sp vs H Q E0 →
      ∃ t, PSs (cxOf CX0 P w K mg base N qual (defScope d) f cdv A outer s H E0).nox (defBody d) t ∧ t { nx := fun _ H' => Q .non H', rt := Q } (start N vs) H) : FnG P w K mg base (k + 1) f fd ps sp := by
  obtain ⟨oc, od, kV, doc, pm, an, cdv, ct, osl, rfl, lk, hcd⟩ := F.ex
  refine ⟨len, fun A outer s H args us vs Q hg hr e0 hb rel hsp => ?_⟩
  have inH : ∀ b o, base.get? b = some o → s.heap.get? b = some o := fun b o e => (e0.bs b o e).1
  have KX : K.In s.heap := e0.mod.kin.keeps inH
  have nl : s.heap.NoLimit := e0.mod.nolimit.keeps inH
  have lv := len vs H Q E0 hsp
  have kinds : ∀ y ∈ ps.zip us, (defScope d).names.lookup y.1 = some .local ∨ ((defScope d).names.lookup y.1 = some .cell ∧ ((cellsFrom (s.heap.objs.size + 1) (defScope d).names []).lookup y.1).isSome = true) := by
    rintro ⟨n, v⟩ hy
    rcases S.par n (List.of_mem_zip hy).1 with q | q
    · exact Or.inl q
    · exact Or.inr ⟨q, PySem.W.cellsFrom_some (defScope d).names (s.heap.objs.size + 1) [] (Or.inl q)⟩
  refine codeAny_call_function hr.depth (KX _ _ lk) rfl S.co S.gen rfl (PySem.W.codeRec_of KX hcd) (hb _ _ _ _ ?_)
  refine wpAny_newFunctionEnv_cells S.kind kinds fun env he s1 inC => ?_
  subst he
  refine ⟨nl.keeps inC.toInCall.keep, codeAny_func ?_⟩
  obtain ⟨t, ht, hq⟩ := body cdv A outer s H vs Q hg (hr.deeper _) hsp
  have I : L2.Inv (cxOf CX0 P w K mg base N qual (defScope d) f cdv A outer s H E0) [] (start N vs) H s1 := inv_start S hr.hd e0 lv rel inC
  refine wpAny_mono (ht.nox.run [] s1 (start N vs) H _ I hq) (fun fl s' hs => ?_) fun _ _ z => z
  cases fl with
  | ret u =>
    obtain ⟨v, st', H', J, rv, q⟩ := hs
    exact ⟨v, H', J.os, J.bare, J.base, J.hok, rv, q⟩
  | next =>
    obtain ⟨st', H', J, q⟩ := hs
    exact ⟨V.non, H', J.os, J.bare, J.base, J.hok, rfl, q⟩
  | brk => exact False.elim hs.choose_spec.choose_spec.2
  | cont => exact False.elim hs.choose_spec.choose_spec.2

section
variable {X : Cx} {k : Nat} {f C : Addr} {fd : FuncData} {ps ks : List Str} {sp : Sp} {pins : List (Addr × Obj)} {st : L2.St} {H : Hp} {s : Shared} {Q : VK} {us ws : List Value} {vs zs : List V}
theorem CR.ends {r : Result} {s' : Shared} (I : L2.Inv X pins st H s) (h : CR CX0 X.stack X.prog X.w H s Q E0 r s') : ∃ u, r = .ok (.ret u) ∧ EP X pins st Q u s' := by
  cases r with
  | error e => exact False.elim h
  | ok fl =>
    cases fl with
    | ret u => exact ⟨u, rfl, I.after h⟩
    | next => exact False.elim h
    | brk => exact False.elim h
    | cont => exact False.elim h
/-- the callee runs -/
theorem FnG.call (F : FnG X.prog X.w X.K X.mg X.base k f fd ps sp) (hg : X.A.guards = some []) (hr : Room k X.A) (hb : Binds X.K fd ps []) (I : L2.Inv X pins st H s) (rl : Vals vs us) (h : sp vs H Q E0) :
    wpAny (model X.prog X.w) X.A (PySem.call (.ref f) us) (EP X pins st Q) X.xe s := by
  have hl : (us ++ []).length = ps.length := by rw [List.append_nil, ← rl.length]; exact F.len _ _ _ _ h
  have b := hb s us I.kIn hl
  rw [List.append_nil] at b
  refine wpAny_call (codeAny_mono (F.go X.A X.stack s H ⟨us, []⟩ us vs Q hg hr I.env0 b rl h) fun res s' z => ?_)
  obtain ⟨u, rfl, q⟩ := CR.ends I z
  exact q
/-- with keywords -/
theorem FnG.callK {g : List Value → List Value → List Value} {gV : List V → List V → List V} (F : FnG X.prog X.w X.K X.mg X.base k f fd ps sp) (hg : X.A.guards = some []) (hr : Room k X.A) (hb : KBinds X.K fd ps ks g gV) (I : L2.Inv X pins st H s) (rl : Vals vs us) (rz : Vals zs ws)
    (h : sp (gV vs zs) H Q E0) : wpAny (model X.prog X.w) X.A (PySem.call (.ref f) us (ks.zip ws)) (EP X pins st Q) X.xe s := by
  have r2 := hb.rel rl rz
  have hl : (g us ws).length = ps.length := by rw [← r2.length]; exact F.len _ _ _ _ h
  refine wpAny_call (codeAny_mono (F.go X.A X.stack s H ⟨us, ks.zip ws⟩ (g us ws) (gV vs zs) Q hg hr I.env0 (hb.to s us ws I.kIn hl) r2 h) fun res s' z => ?_)
  obtain ⟨u, rfl, q⟩ := CR.ends I z
  exact q
theorem guards_make {A : Around} {us : List Value} {kw : List (Str × Value)} (h : A.guards = some []) : (A.under (.builtin "type.__call__" ⟨.ref C :: us, kw⟩)).guards = some [] := by
  first
    | exact h
    | (simp [Around.under, Code.guards, Code.isGuard, guardIds, pushGuards, h])
/-- a new instance -/
theorem FnG.make (M : L2.Mk X.K C f) (F : FnG X.prog X.w X.K X.mg X.base k f fd ps sp) (hg : X.A.guards = some []) (hr : Room (k + 1) X.A) (hb : Binds X.K fd ps []) (I : L2.Inv X pins st H s) (rl : Vals vs us)
    (h : ∀ x dx, H x = none → H dx = none → dx ≠ x → sp (.ref x :: vs) (upd (upd H dx (.own x)) x (.ins C dx [])) (fun v H2 => v = .non ∧ Q (.ref x) H2) E0) :
    wpAny (model X.prog X.w) X.A (PySem.call (.ref C) us) (EP X pins st Q) X.xe s := by
  have hq := h (s.heap.objs.size + 1) s.heap.objs.size (I.hok.fresh (Nat.le_succ _)) (I.hok.fresh (Nat.le_refl _)) (Nat.ne_of_lt (Nat.lt_succ_self _))
  have I2 := Inv.made (C := C) I
  have r2 : Vals (V.ref (s.heap.objs.size + 1) :: vs) (Value.ref (s.heap.objs.size + 1) :: us) := .cons rfl rl
  have hl : ((Value.ref (s.heap.objs.size + 1) :: us) ++ []).length = ps.length := by rw [List.append_nil, ← r2.length]; exact F.len _ _ _ _ hq
  have b := hb _ (Value.ref (s.heap.objs.size + 1) :: us) I2.kIn hl
  rw [List.append_nil] at b
  refine wpAny_call (make_map (f := f) I.kIn M.makes M.init (beq_iff_eq.mp M.fn) (codeAny_mono (F.go _ X.stack _ _ ⟨Value.ref (s.heap.objs.size + 1) :: us, []⟩ _ _ _ (guards_make hg) (hr.make C us []) (I2.env0.make C us []) b r2 hq) fun res s' z => ?_))
  obtain ⟨u, rfl, v, H', I3, rv, ev, q3⟩ := CR.ends I2 z
  subst ev
  exact ⟨rv, ⟨V.ref (s.heap.objs.size + 1), H', I3, rfl, q3⟩⟩
theorem FnG.makeK {g : List Value → List Value → List Value} {gV : List V → List V → List V} (M : L2.Mk X.K C f) (F : FnG X.prog X.w X.K X.mg X.base k f fd ps sp) (hg : X.A.guards = some []) (hr : Room (k + 1) X.A) (hb : KBinds X.K fd ps ks g gV) (I : L2.Inv X pins st H s) (rl : Vals vs us) (rz : Vals zs ws)
    (h : ∀ x dx, H x = none → H dx = none → dx ≠ x → sp (gV (.ref x :: vs) zs) (upd (upd H dx (.own x)) x (.ins C dx [])) (fun v H2 => v = .non ∧ Q (.ref x) H2) E0) :
    wpAny (model X.prog X.w) X.A (PySem.call (.ref C) us (ks.zip ws)) (EP X pins st Q) X.xe s := by
  have hq := h (s.heap.objs.size + 1) s.heap.objs.size (I.hok.fresh (Nat.le_succ _)) (I.hok.fresh (Nat.le_refl _)) (Nat.ne_of_lt (Nat.lt_succ_self _))
  have I2 := Inv.made (C := C) I
  have r2 : Vals (V.ref (s.heap.objs.size + 1) :: vs) (Value.ref (s.heap.objs.size + 1) :: us) := .cons rfl rl
  have r3 := hb.rel r2 rz
  have hl : (g (Value.ref (s.heap.objs.size + 1) :: us) ws).length = ps.length := by rw [← r3.length]; exact F.len _ _ _ _ hq
  refine wpAny_call (make_map (f := f) I.kIn M.makes M.init (beq_iff_eq.mp M.fn) (codeAny_mono (F.go _ X.stack _ _ ⟨Value.ref (s.heap.objs.size + 1) :: us, ks.zip ws⟩ _ _ _ (guards_make hg) (hr.make C us (ks.zip ws)) (I2.env0.make C us (ks.zip ws)) (hb.to _ _ ws I2.kIn hl) r3 hq) fun res s' z => ?_))
  obtain ⟨u, rfl, v, H', I3, rv, ev, q3⟩ := CR.ends I2 z
  subst ev
  exact ⟨rv, ⟨V.ref (s.heap.objs.size + 1), H', I3, rfl, q3⟩⟩
/-- a property's getter -/
theorem FnG.prop {p a dx : Addr} {fs : List (Str × V)} {n : Str} {b : Bool} (hp : PropOf X.K C n p f) (c : L2.Cls X.K C) (F : FnG X.prog X.w X.K X.mg X.base k f fd ps sp) (hg : X.A.guards = some []) (hr : Room (k + 1) X.A) (hb : Binds X.K fd ps []) (I : L2.Inv X pins st H s)
    (ea : H a = some (.ins C dx fs)) (h : sp [.ref a] H Q E0) : wpAny (model X.prog X.w) X.A (getAttr (.ref a) n b) (EP X pins st Q) X.xe s := by
  obtain ⟨mA, O, _, _, _, _⟩ := ins_get I.hok ea
  obtain ⟨od, J, _⟩ := O.look
  obtain ⟨rest, hrec⟩ := hp.rec_
  have I1 := I.tok (s.toks + 1)
  have hl : ([Value.ref a] ++ []).length = ps.length := (F.len _ _ _ _ h)
  have hcs : (PySem.W.clsIn X.K C).isSome = true := by
    obtain ⟨cd, hc, _⟩ := PySem.W.any_some c.hd
    rw [hc]; rfl
  have bd := hb _ [.ref a] I1.kIn hl
  rw [List.append_nil] at bd
  refine PySem.W.get_bind I.kIn J (PySem.W.plainGet_of (c.get n)).1 (PySem.W.findObj_data hcs hp.at_ hp.get hp.tak) (PySem.W.plainGet_of (c.get n)).2 (wpAny_call (PySem.W.prop_get (s := { s with toks := s.toks + 1 }) I.kIn hrec ?_))
  refine codeAny_mono (F.go X.A.in1 X.stack { s with toks := s.toks + 1 } H ⟨[.ref a], []⟩ [.ref a] [.ref a] Q hg hr.in1 I1.env0.in1 bd (.cons rfl .nil) h) fun res s' z => ?_
  obtain ⟨u, rfl, v, H', I3, rv, q3⟩ := CR.ends I1 z
  show wpAny _ _ (handedOut u) _ _ _
  rw [PySem.W.handedOut_of (handed_of rv)]
  exact wpAny_pure ⟨v, H', I3, rv, q3⟩
end
end LC

/-! # LcI: the forms of expressions; displays, subscripts, texts -/
namespace HT
open PySem PySem.Spec PyProof.Rows
section
variable {prog : Program} {w : World} {A : Around} {E : Value → Shared → Prop} {s : Shared}
theorem sliceApplied_rev {sl : Addr} {vl vu vs : Value} {n : Nat} {Q : Int × Int × Nat → Shared → Prop} (hs : s.heap.IsSliceOf sl vl vu vs) (pl : IsPart vl none) (pu : IsPart vu none) (ps : IsPart vs (some (-1)))
    (h : Q ((n : Int) - 1, -1, n) s) : wpAny (model prog w) A (Builtin.Slice.sliceApplied (.ref sl) (pure (n : Int))) Q E s := by
  obtain ⟨os, hos, hcs, hds⟩ := id hs
  unfold Builtin.Slice.sliceApplied Builtin.Slice.sliceFields
  refine wpAny_bind (wpAny_bind (wpAny_field hos hds (x := vl) rfl (wpAny_bind (wpAny_field hos hds (x := vu) rfl (wpAny_bind (wpAny_field hos hds (x := vs) rfl (wpAny_pure ?_)))))))
  refine wpAny_bind (slicePart_ ps ?_)
  show wpAny _ _ (if ((-1 : Int) == 0) = true then _ else _) _ _ s
  rw [if_neg (by decide)]
  refine wpAny_bind (slicePart_ pl (wpAny_bind (slicePart_ pu (wpAny_bind (wpAny_pure ?_)))))
  have e1 : Builtin.Slice.sliceAdjust none none (-1) (n : Int) = ((n : Int) - 1, -1) := by
    unfold Builtin.Slice.sliceAdjust
    simp
  have e2 : Builtin.Slice.slicePlaces ((n : Int) - 1) (-1) (-1) = n := by
    unfold Builtin.Slice.slicePlaces
    have h1 : ¬ ((-1 : Int) > 0) := by omega
    simp only [h1, if_false]
    simp
    try omega
  show wpAny _ _ (match Builtin.Slice.sliceAdjust none none (-1) (n : Int) with | (lo, hi) => pure (lo, (-1 : Int), Builtin.Slice.slicePlaces lo hi (-1))) _ _ s
  rw [e1]
  show wpAny _ _ (pure ((n : Int) - 1, (-1 : Int), Builtin.Slice.slicePlaces ((n : Int) - 1) (-1) (-1))) _ _ s
  rw [e2]
  exact wpAny_pure h
theorem pick_rev (xs : Array Value) : ((List.range xs.size).filterMap fun (m : Nat) => xs[(((xs.size : Int) - 1) + (m : Int) * (-1)).toNat]?).toArray = xs.toList.reverse.toArray := by
  have e : (fun (m : Nat) => xs[(((xs.size : Int) - 1) + (m : Int) * (-1)).toNat]?) = (fun x => xs[x]?) ∘ fun m => xs.size - 1 - m := by
    funext m
    have : (((xs.size : Int) - 1) + (m : Int) * (-1)).toNat = xs.size - 1 - m := by omega
    simp only [Function.comp, this]
  rw [e, ← List.filterMap_map, PySem.W.krv_range, List.filterMap_reverse, PySem.W.krv_all]
theorem getItem_tuple_rev {t sl : Addr} {items : Array Value} {vl vu vs : Value} {Q : Value → Shared → Prop} (ht : IsTup s.heap t items) (hs : s.heap.IsSliceOf sl vl vu vs) (pl : IsPart vl none) (pu : IsPart vu none) (ps : IsPart vs (some (-1)))
    (h : Q (.ref s.heap.objs.size) { s with heap := s.heap.push { cls := .type "tuple", data := .seq items.toList.reverse.toArray } })
    (hsz : items.size ≤ sizeLine) : wpAny (model prog w) A (getItem (.ref t) (.ref sl)) Q E s := by
  have htake : sizeOk (.seq items.toList.reverse.toArray) := by
    show items.toList.reverse.toArray.size ≤ sizeLine
    rw [List.size_toArray, List.length_reverse, Array.length_toList]
    exact hsz
  obtain ⟨os, hos, hcs, hds⟩ := id hs
  have hTs : s.TypeIs (.ref sl) "slice" := ⟨os, hos, hcs⟩
  unfold getItem
  try with_reducible refine wpAny_holding ?_
  first | refine wpAny_bind (wpAny_pure ?_) | skip
  refine wpAny_bind (wpAny_sequenceKey ht.typeIs (by decide) ?_)
  refine wpAny_bind (wpAny_callSpecial?_slot (name := Str.ofString "__getitem__") ht.typeIs PyProof.Rows.slot_tuple_getitem
    (wpAny_call_entry PyProof.Rows.slot_tuple_getitem ht.typeIs entry_tuple_getitem ?_ (args_tuple_getitem _ _)))
  show wpAny _ _ (Builtin.Tuple.tupleItemsOf (.ref t) >>= _) _ _ s
  refine wpAny_bind (tupleItemsOf_ ht ?_)
  refine wpAny_bind (wpAny_typeOf hTs ?_)
  rw [if_pos (by decide)]
  refine wpAny_bind (sliceApplied_rev hs pl pu ps ?_)
  have hno : ¬ ((((items.size : Int) - 1) == 0 && (-1 : Int) == 1 && items.size == items.size) = true) := by
    intro q
    rw [Bool.and_eq_true, Bool.and_eq_true] at q
    exact absurd q.1.2 (by decide)
  show wpAny _ _ (if (((items.size : Int) - 1) == 0 && (-1 : Int) == 1 && items.size == items.size) = true then _ else _) _ _ s
  rw [if_neg hno, pick_rev]
  first
    | exact wpAny_bind (m := Builtin.Tuple.tupleExact _) (wpAny_newObj_type (wpAny_pure ⟨_, rfl, wpAny_pure h⟩) htake)
    | exact wpAny_bind (m := Builtin.Tuple.tupleExact _) (wpAny_newObj_type (wpAny_bind (wpAny_pure (wpAny_pure ⟨_, rfl, wpAny_pure h⟩))) htake)
    | exact wpAny_bind (wpAny_bind (m := Builtin.Tuple.tupleExact _) (wpAny_newObj_type (wpAny_pure (wpAny_pure ⟨_, rfl, wpAny_pure h⟩)) htake))
    | exact wpAny_bind (wpAny_bind (m := Builtin.Tuple.tupleExact _) (wpAny_newObj_type (wpAny_pure ⟨_, rfl, wpAny_pure h⟩) htake))
end
end HT
namespace L2
open PySem PySem.Spec PyProof.Rows
def tRevLT (K : PySem.W.Frag) (te : TE) : TE := fun σ H Q => te σ H fun x H1 => (∃ a xs, x = .ref a ∧ SqL K H1 a xs ∧ ∀ p, H1 p = none → Q (.ref p) (upd H1 p (.lst xs.reverse))) ∨ (∃ a xs, x = .ref a ∧ SqT K H1 a xs ∧ ∀ p, H1 p = none → Q (.ref p) (upd H1 p (.tup xs.reverse)))
theorem pe_revLT {X : Cx} {e : Expr} {te : TE} {k : Nat} {p1 p2 p3 pos : Pos} (he : PE X e te) : PE X (.Subscript e (.Slice none none (some (.UnaryOp .USub (.Constant (.int 1) k p1) p2)) p3) pos) (tRevLT X.K te) := by
  refine ⟨fun pins s σ H Q I h => ?_⟩
  refine Subscript_ (thn (he.run pins s σ H _ I h) fun v s1 ⟨x, H1, I1, r1, q1⟩ => ?_)
  have hst : PO X (some (.UnaryOp .USub (.Constant (.int 1) k p1) p2)) (tPart (tUn (rU fun i => .int (-i)) (tC (.int 1)))) := po_some (pe_un un_neg pe_int)
  refine wpAny_Slice (thn (po_none.run pins s1 σ H1 (fun o H2 => o = none ∧ H2 = H1) I1 ⟨rfl, rfl⟩) fun vl s2 ⟨l, H2, I2, pl, el, e2⟩ => ?_)
  subst el e2
  refine thn (po_none.run pins s2 σ H2 (fun o H3 => o = none ∧ H3 = H2) I2 ⟨rfl, rfl⟩) fun vu s3 ⟨u, H3, I3, pu, eu, e3⟩ => ?_
  subst eu e3
  refine thn (hst.run pins s3 σ H3 (fun o H4 => o = some (-1) ∧ H4 = H3) I3 ⟨1, rfl, -1, rfl, rfl, rfl⟩) fun vs s4 ⟨o, H4, I4, ps, eo, e4⟩ => ?_
  subst eo e4
  have I5 : Inv X pins σ H4 { s4 with heap := s4.heap.push { cls := .type "slice", data := .fields #[vl, vu, vs] } } := I4.kept (t' := s4.toks) fun b ob q => Heap.get?_push_of_some _ q
  rcases q1 with ⟨a, xs, ex, hx, q⟩ | ⟨a, xs, ex, hx, q⟩
  · subst ex
    cases r1
    obtain ⟨its, r, ht, hz⟩ := I5.list hx
    have hlen := r.length
    show wpAny (model X.prog X.w) X.A (subscriptTail e (.Slice none none (some (.UnaryOp .USub (.Constant (.int 1) k p1) p2)) p3) (.ref a) (.ref s4.heap.objs.size)) (EP X pins σ Q) X.xe { s4 with heap := s4.heap.push { cls := .type "slice", data := .fields #[vl, vu, vs] } }
    refine tail_any (ops := [.ref a, .ref s4.heap.objs.size]) ht.isList.typeIs (PySem.slot_list_getitem.lookup) ?_ (by with_unfolding_all rfl)
    refine wpAny_getItem_list_slice ht.isList (Heap.IsSliceOf.new _ vl vu vs) pl pu ps (by decide) ?_ (by rw [List.size_toArray]; omega)
    rw [PySem.W.krv_pick]
    refine ⟨.ref _, _, I5.laid (t' := s4.toks) (o := .lst xs.reverse) (fun b ob q => Heap.get?_push_of_some _ q) (Nat.le_refl _) ?_, rfl, q _ (I5.hok.fresh (Nat.le_refl _))⟩
    exact ⟨by rw [List.length_reverse]; exact hz, _, 0, r.reverse, Heap.get?_push_size _ rfl⟩
  · subst ex
    cases r1
    obtain ⟨its, r, ht, hz⟩ := I5.tuple hx
    have hlen := r.length
    show wpAny (model X.prog X.w) X.A (subscriptTail e (.Slice none none (some (.UnaryOp .USub (.Constant (.int 1) k p1) p2)) p3) (.ref a) (.ref s4.heap.objs.size)) (EP X pins σ Q) X.xe { s4 with heap := s4.heap.push { cls := .type "slice", data := .fields #[vl, vu, vs] } }
    refine tail_any (ops := [.ref a, .ref s4.heap.objs.size]) ht.typeIs (PyProof.Rows.slot_tuple_getitem.lookup) ?_ (by with_unfolding_all rfl)
    refine HT.getItem_tuple_rev ht (Heap.IsSliceOf.new _ vl vu vs) pl pu ps ?_ (by rw [List.size_toArray]; omega)
    refine ⟨.ref _, _, I5.laid (t' := s4.toks) (o := .tup xs.reverse) (fun b ob q => Heap.get?_push_of_some _ q) (Nat.le_refl _) ?_, rfl, q _ (I5.hok.fresh (Nat.le_refl _))⟩
    exact ⟨by rw [List.length_reverse]; exact hz, _, r.reverse, IsTup.new _ _⟩
end L2
namespace LC
open PySem PySem.Spec PyProof.Rows L2

/-! ### forms -/
def nst : Expr → Bool
  | .Starred _ _ => false
  | _ => true
theorem each_nst {e : Expr} {es : List Expr} {env : PySem.Env} (h : nst e = true) : starEach (e :: es) env = (false, eval e env) :: starEach es env := by
  cases e <;> first | rfl | cases h
theorem nst_none : ∀ {es : List Expr} {env : PySem.Env} {pos : Pos}, es.all nst = true → (backTo pos (starEach es env)).any (·.1) = false
  | [], _, _, _ => rfl
  | e :: es, env, pos, h => by
    rw [List.all_cons, Bool.and_eq_true] at h
    rw [each_nst h.1]
    show (false || (backTo pos (starEach es env)).any (·.1)) = false
    rw [nst_none h.2] <;> rfl
theorem nst_all : ∀ {es : List Expr} {env : PySem.Env} {pos : Pos}, es.all nst = true → (backTo pos (starEach es env)).all (fun x => !x.1) = true
  | [], _, _, _ => rfl
  | e :: es, env, pos, h => by
    rw [List.all_cons, Bool.and_eq_true] at h
    rw [each_nst h.1]
    show (!false && (backTo pos (starEach es env)).all (fun x => !x.1)) = true
    rw [nst_all h.2] <;> rfl
theorem kw_all : ∀ {kws : List Keyword} {env : PySem.Env} {pos : Pos}, kws.all (fun k => k.arg.isSome) = true → (backToKw pos (keywordEach kws env)).all (·.1.isSome) = true
  | [], _, _, _ => rfl
  | ⟨n, v, p⟩ :: kws, env, pos, h => by
    rw [List.all_cons, Bool.and_eq_true] at h
    show (n.isSome && (backToKw pos (keywordEach kws env)).all (·.1.isSome)) = true
    rw [h.1, kw_all h.2] <;> rfl
theorem kw_none : ∀ {kws : List Keyword} {env : PySem.Env} {pos : Pos}, kws.all (fun k => k.arg.isSome) = true → (backToKw pos (keywordEach kws env)).any (·.1.isNone) = false
  | [], _, _, _ => rfl
  | ⟨n, v, p⟩ :: kws, env, pos, h => by
    rw [List.all_cons, Bool.and_eq_true] at h
    show (n.isNone || (backToKw pos (keywordEach kws env)).any (·.1.isNone)) = false
    rw [kw_none h.2]
    cases n with
    | none => cases h.1
    | some x => rfl
theorem kw_names : ∀ {kws : List Keyword} {env : PySem.Env} {pos : Pos}, (backToKw pos (keywordEach kws env)).filterMap (·.1) = kws.filterMap (·.arg)
  | [], _, _ => rfl
  | ⟨n, v, p⟩ :: kws, env, pos => by
    show List.filterMap (·.1) ((n, _) :: backToKw pos (keywordEach kws env)) = List.filterMap (·.arg) (⟨n, v, p⟩ :: kws)
    rw [List.filterMap_cons, List.filterMap_cons, kw_names]
/-- no call without arguments (super) -/
def nsup : Expr → Bool
  | .Call (.Name _ _) [] [] _ => false
  | _ => true
theorem base_nsup {o : Expr} {f : Str} {env : PySem.Env} (h : nsup o = true) : attributeBase o f env (eval o env) = eval o env := by
  unfold attributeBase
  split
  · cases h
  · rfl
def nsl : Expr → Bool
  | .Slice _ _ _ _ => false
  | _ => true
theorem plain_nsl {b : Expr} (h : nsl b = true) : PlainIx b := by
  intro o i
  cases b <;> first | rfl | cases h
/-- the test is the value's truth -/
def ntest : Expr → Bool
  | .UnaryOp .Not _ _ => false
  | .BoolOp _ _ _ => false
  | .IfExp _ _ _ _ => false
  | .Compare _ _ _ _ => false
  | _ => true
theorem true_ntest {a : Expr} {env : PySem.Env} (h : ntest a = true) : ∀ whole, isTrue a env whole = (do let v ← whole; standAt a.pos; holding [v] (truthy v)) := by
  intro whole
  cases a with
  | UnaryOp op x p => cases op <;> first | rfl | cases h
  | BoolOp _ _ _ => cases h
  | IfExp _ _ _ _ => cases h
  | Compare _ _ _ _ => cases h
  | _ => rfl
/-- no comprehension -/
def ncomp : Expr → Bool
  | .ListComp _ _ _ _ => false
  | .SetComp _ _ _ _ => false
  | .DictComp _ _ _ _ _ => false
  | _ => true
theorem swaps_ncomp {e : Expr} {t : Option Expr} {l : Nat} {env : PySem.Env} (h : ncomp e = true) : swapsWith e t l env = pure false := by
  cases e <;> first | rfl | cases h

section
variable {X : Cx} {a b o : Expr} {es : List Expr} {ma mb : Env → M D} {ml : Env → M (List D)} {pos : Pos}

/-! ### subscripts -/
theorem se_ix (hs : nsl b = true) (ha : PE X a (tM X.K X.mg ma)) (hb : PE X b (tM X.K X.mg mb)) : PE X (.Subscript a b pos) (tM X.K X.mg fun r => bnd (ma r) fun p => bnd (mb r) fun q => opIx p q) :=
  PE.mono (pe_ix ix_any ha hb (plain_nsl hs)) fun st H Q ⟨io, r, m, s, h⟩ => two s h
/-- a slice's end -/
def tO (K : PySem.W.Frag) (mg : Str → Option Value) (x : Env → M (Option Int)) : TO := fun st H Q => ∃ io r m, S0 K mg io r m st H ∧ Post (x r m) fun d m' => ∀ io' H', LC.Ext io m.length H io' m'.length H' → SRel K mg io' m' H' → Q d H'
theorem so_none : PO X none (tO X.K X.mg fun _ => LC.ret none) := ⟨fun pins s st H Q I ⟨io, r, m, s0, h⟩ => po_none.run pins s st H Q I ((Post.of_ret h) io H LC.Ext.refl s0.s)⟩
theorem so_some (ha : PE X a (tM X.K X.mg ma)) : PO X (some a) (tO X.K X.mg fun r => bnd (ma r) asI) := ⟨fun pins s st H Q I ⟨io, r, m, s0, h⟩ => (po_some ha).run pins s st H Q I <|
  tM.bind s0 h fun io1 H1 m1 p x e1 s1 r1 h1 => by
    obtain ⟨i, rfl, h2⟩ := asI_post h1
    exact ⟨i, repInt r1, h2 io1 H1 e1 s1.s⟩⟩
theorem se_sl {mu : Bool} {lo hi : Option Expr} {xl xh : Env → M (Option Int)} {p2 : Pos} (ha : PE X a (tM X.K X.mg ma)) (hl : PO X lo (tO X.K X.mg xl)) (hh : PO X hi (tO X.K X.mg xh)) :
    PE X (.Subscript a (.Slice lo hi none p2) pos) (tM X.K X.mg fun r => bnd (ma r) fun p => bnd (xl r) fun l => bnd (xh r) fun h => opSl mu p l h) :=
  PE.mono (pe_slice (sl_any (mu := mu)) ha hl hh) fun st H Q ⟨io, r, m, s, h⟩ => tM.bind s h fun io1 H1 m1 p x e1 s1 r1 h1 =>
    ⟨io1, r, m1, s1, (Post.of_bnd h1).mono fun l m2 h2 io2 H2 e2 S2 => ⟨io2, r, m2, s1.next e2 S2, (Post.of_bnd h2).mono fun u m3 h3 io3 H3 e3 S3 =>
      ⟨io3, m3, p, S3, (r1.keep s1.s e2).keep S2 e3, WVpost.from ((e1.trans e2).trans e3) h3⟩⟩⟩
theorem se_rv {mu : Bool} {k : Nat} {p1 p2 p3 : Pos} (ha : PE X a (tM X.K X.mg ma)) : PE X (.Subscript a (.Slice none none (some (.UnaryOp .USub (.Constant (.int 1) k p1) p2)) p3) pos) (tM X.K X.mg fun r => bnd (ma r) (opRv mu)) :=
  PE.mono (pe_revLT ha) fun st H Q ⟨io, r, m, s, h⟩ => tM.bind s h fun io1 H1 m1 p x e1 s1 r1 h1 => by
    unfold opRv at h1
    split at h1
    · rename_i xs e
      obtain ⟨c, vs, rfl, q1, r2⟩ := topLst s1.s r1 e
      exact .inl ⟨c, vs, rfl, SqL.of q1, fun p hp => Post.lst (WVpost.from e1 h1) s1.s hp r2.reverse⟩
    · rename_i xs e
      rw [top_tup e] at r1
      obtain ⟨c, vs, rfl, q1, r2⟩ := r1
      exact .inr ⟨c, vs, rfl, q1, fun p hp => (WVpost.from e1 h1) io1 _ _ (LC.Ext.new hp) (s1.s.new hp) ⟨p, _, rfl, .inl (.inl upd_same), r2.reverse.keep s1.s (LC.Ext.new hp)⟩⟩
    · exact h1.elim

/-! ### rows of values -/
theorem sa_nil : PA X [] (tL X.K X.mg fun _ => LC.ret []) := PA.mono pa_nil fun st H Q ⟨io, r, m, s, h⟩ => (Post.of_ret h) io H [] LC.Ext.refl s.s rfl
theorem sa_cons (hn : nst a = true) (ha : PE X a (tM X.K X.mg ma)) (hl : PA X es (tL X.K X.mg ml)) : PA X (a :: es) (tL X.K X.mg fun r => bnd (ma r) fun p => bnd (ml r) fun q => LC.ret (p :: q)) :=
  PA.mono (pa_cons ha hl (each_nst hn)) fun st H Q ⟨io, r, m, s, h⟩ => tM.bind s h fun io1 H1 m1 p x e1 s1 r1 h1 => tL.bind s1 h1 fun io2 H2 m2 q y e2 s2 r2 h2 =>
    (Post.of_ret h2) io2 H2 (x :: y) (e1.trans e2) s2.s ⟨x, y, rfl, r1.keep s1.s e2, r2⟩
theorem starred_rep {io : Pl} {m : Sto} {H : Hp} {p : D} {x : V} {F : List D → Sto → Prop} (S : SRel X.K X.mg io m H) (hp : RepV X.K X.mg io m.length H p x) (h : Post (starred p m) F) :
    ∃ (c : Addr) (ds : List D) (vs : List V), x = .ref c ∧ (SqL X.K H c vs ∨ SqT X.K H c vs) ∧ RepVs X.K X.mg io m.length H ds vs ∧ F ds m := by
  unfold starred at h
  split at h
  · rename_i ds e
    rw [top_tup e] at hp
    obtain ⟨c, vs, rfl, q1, r⟩ := hp
    exact ⟨c, ds, vs, rfl, .inr q1, r, h⟩
  · rename_i ds e
    obtain ⟨c, vs, rfl, q1, r⟩ := topLst S hp e
    exact ⟨c, ds, vs, rfl, .inl (SqL.of q1), r, h⟩
  · exact h.elim
theorem se_tup {j : Nat} (hl : PA X es (tL X.K X.mg ml)) : PE X (.Tuple es j pos) (tM X.K X.mg fun r => bnd (ml r) mkTup) :=
  PE.mono (pe_tup hl) fun st H Q ⟨io, r, m, s, h⟩ => tL.bind s h fun io1 H1 m1 p x e1 s1 r1 h1 => by
    unfold mkTup at h1
    split at h1
    · rename_i hz
      have hz := of_decide_eq_true hz
      refine ⟨by rw [← lim, ← r1.length]; exact hz, fun c hc => WV.frozen (WV.from e1 (show WV X.K X.mg io m H Q _ m1 from h1)) s1.s hc (repTup s1.s hc r1)⟩
    · exact h1.elim
theorem se_lst {mu : Bool} (hl : PA X es (tL X.K X.mg ml)) : PE X (.List es pos) (tM X.K X.mg fun r => bnd (ml r) (mkLst mu)) :=
  PE.mono (pe_lst hl) fun st H Q ⟨io, r, m, s, h⟩ => tL.bind s h fun io1 H1 m1 p x e1 s1 r1 h1 => by
    unfold mkLst at h1
    split at h1
    · rename_i hz
      have hz := of_decide_eq_true hz
      refine ⟨by rw [← lim, ← r1.length]; exact hz, fun c hc => Post.lst (WVpost.from e1 h1) s1.s hc r1⟩
    · exact h1.elim

/-! ### texts -/
theorem se_fmt (ha : PE X a (tM X.K X.mg ma)) : PE X (.FormattedValue a (-1) none pos) (tM X.K X.mg fun r => bnd (ma r) fmt) :=
  PE.mono (pe_fmt ha) fun st H Q ⟨io, r, m, s, h⟩ => tM.bind s h fun io1 H1 m1 p x e1 s1 r1 h1 => by
    unfold fmt at h1
    split at h1
    · rename_i y
      split at h1
      · rename_i hz
        exact .inl ⟨y, repStr r1, by rw [← lim]; exact of_decide_eq_true hz, WV.here (WV.from e1 (show WV X.K X.mg io m H Q _ m1 from h1)) s1.s rfl⟩
      · exact h1.elim
    · rename_i y
      split at h1
      · rename_i hz
        exact .inr ⟨y, repInt r1, of_decide_eq_true hz, WV.here (WV.from e1 (show WV X.K X.mg io m H Q _ m1 from h1)) s1.s rfl⟩
      · exact h1.elim
    · exact h1.elim
/-- the parts' readings -/
def jOf (P : Phi) : T → List (Env → M D)
  | .cons x y => (den P x).e :: jOf P y
  | _ => []
/-- a row of parts -/
def isRow : T → Bool
  | .nil => true
  | .cons _ y => isRow y
  | _ => false
def tJ (K : PySem.W.Frag) (mg : Str → Option Value) (x : Env → M Str) : L2.St → Hp → (Str → Hp → Prop) → Prop := fun st H Q => ∃ io r m, S0 K mg io r m st H ∧ Post (x r m) fun d m' => ∀ io' H', LC.Ext io m.length H io' m'.length H' → SRel K mg io' m' H' → Q d H'
theorem tJ_js {K : PySem.W.Frag} {mg : Str → Option Value} {P : Phi} : ∀ (t : T), isRow t = true → ∀ (acc : Str) (st : L2.St) (H : Hp) (Q : Str → Hp → Prop), tJ K mg ((den P t).j acc) st H Q → tJs ((jOf P t).map (tM K mg)) acc st H Q
  | .nil, _, acc, st, H, Q, ⟨io, r, m, s, h⟩ => (Post.of_ret h) io H LC.Ext.refl s.s
  | .cons x y, hr, acc, st, H, Q, ⟨io, r, m, s, h⟩ => by
    show tM K mg (den P x).e st H _
    have h : Post (bnd ((den P x).e r) (fun p => bnd (asS p) fun z => if decide ((acc ++ z).length ≤ LIM) then (den P y).j (acc ++ z) r else LC.bad) m) _ := h
    refine tM.bind s h fun io1 H1 m1 p v e1 s1 r1 h1 => ?_
    obtain ⟨z, rfl, h2⟩ := asS_post (Post.of_bnd h1)
    split at h2
    · rename_i hz
      refine ⟨z, repStr r1, by rw [← lim]; exact of_decide_eq_true hz, tJ_js y hr (acc ++ z) st H1 Q ⟨io1, r, m1, s1, h2.mono fun d m2 q io2 H2 e2 S2 => q io2 H2 (e1.trans e2) S2⟩⟩
    · exact h2.elim
theorem se_fs {P : Phi} {t : T} {v1 v2 : Expr} {rest : List Expr} (hr : isRow t = true) (h : PJ X (v1 :: v2 :: rest) ((jOf P t).map (tM X.K X.mg))) : PE X (.JoinedStr (v1 :: v2 :: rest) pos) (tM X.K X.mg fun r => bnd ((den P t).j Str.empty r) fun z => LC.ret (.str z)) :=
  PE.mono (pe_joined h) fun st H Q ⟨io, r, m, s, h⟩ => tJ_js t hr Str.empty st H _ ⟨io, r, m, s, (Post.of_bnd h).mono fun d m1 q io1 H1 e1 S1 => WV.here (WV.from e1 (show WV X.K X.mg io m H Q _ m1 from q)) S1 rfl⟩
end
section
variable {X : Cx} {a b o : Expr} {es : List Expr} {ma mb : Env → M D} {ml : Env → M (List D)} {pos p3 : Pos}
theorem sa_star (ha : PE X a (tM X.K X.mg ma)) (hl : PA X es (tL X.K X.mg ml)) : PA X (.Starred a p3 :: es) (tL X.K X.mg fun r => bnd (ma r) fun p => bnd (starred p) fun l => bnd (ml r) fun q => LC.ret (l ++ q)) :=
  PA.mono (StX.pa_star ha hl) fun st H Q ⟨io, r, m, s, h⟩ => tM.bind s h fun io1 H1 m1 p x e1 s1 r1 h1 => by
    obtain ⟨c, ds, vs, rfl, q1, r2, h2⟩ := starred_rep s1.s r1 (Post.of_bnd h1)
    have fin : tL X.K X.mg ml st H1 fun ys H2 => Q (vs ++ ys) H2 := tL.bind s1 h2 fun io2 H2 m2 q y e2 s2 r3 h3 =>
      (Post.of_ret h3) io2 H2 (vs ++ y) (e1.trans e2) s2.s ((r2.keep s1.s e2).append r3)
    exact ⟨c, vs, rfl, q1.symm, fin⟩
end
end LC

/-! # LcJ: attributes, calls of defs, methods, classes -/
namespace LC
open PySem PySem.Spec PyProof.Rows L2

/-- a def of the text: where it stands, what it is, its parameters -/
structure DefAt where
  ad : Addr
  fd : FuncData
  ps : List Str
structure ClsAt (K : PySem.W.Frag) (mg : Str → Option Value) (T : Nat → DefAt) (C : Str) (c : LC.Cls) (Ca : Addr) : Prop where
  mg : mg C = some (.ref Ca)
  cls : L2.Cls K Ca
  ini : ∀ k, c.init = some k → L2.Mk K Ca (T k).ad
  met : ∀ f k, c.meths.lookup f = some k → L2.Meth K Ca f (T k).ad
  pro : ∀ f k, c.props.lookup f = some k → ∃ p, L2.PropOf K Ca f p (T k).ad
  fld : ∀ f, c.flds.contains f = true → L2.NoAttr K Ca f
  kc : PySem.W.findIn K (.ref Ca) "__class__" = some (some (.builtin "object.__class__"))
  kg : PySem.W.specialIn K (.builtin "object.__class__") "__get__" = some (some (.builtin "getset_descriptor.__get__"))
  kt : PySem.W.takesIn K (.builtin "object.__class__") = some true
  ko : PySem.W.mroIn K Ca (.type "object") = some true
  kn : PySem.W.findIn K (.ref Ca) "__ne__" = some (some (.builtin "object.__ne__"))
  nt : ∀ T ∈ ["NoneType", "bool", "int", "str", "tuple", "list"], PySem.W.mroIn K Ca (.type T) = some false
def clOf (cls : List LC.Cls) (C : Str) : Option LC.Cls := cls.find? fun c => c.name == C
structure Top (K : PySem.W.Frag) (mg : Str → Option Value) (cls : List LC.Cls) (T : Nat → DefAt) (ca : Str → Addr) : Prop where
  one : ∀ C c, clOf cls C = some c → ClsAt K mg T C c (ca C)
  kk : ∀ C c C' c', clOf cls C = some c → clOf cls C' = some c' → PySem.W.kitOne K (.ref (ca C)) (.ref (ca C')) = some (C == C')
  kt : ∀ C c b, clOf cls C = some c → knownTy b = true → PySem.W.kitOne K (.ref (ca C)) (.type b) = some false
  tk : ∀ C c a, clOf cls C = some c → a ∈ ["NoneType", "bool", "int", "str", "tuple", "list"] → PySem.W.kitOne K (.type a) (.ref (ca C)) = some false
def spM (K : PySem.W.Frag) (mg : Str → Option Value) (f : List D → M D) : Sp := fun vs H Q _ => rCB K mg f vs H Q
def gOf {α : Type} (n m : Nat) (pm : List Nat) (us ws : List α) : List α := if us.length = n ∧ ws.length = m then (pick pm (us ++ ws)).getD [] else []
structure Wd (X : Cx) (P : Phi) (T : Nat → DefAt) (ca : Str → Addr) (kws : List (Nat × List Str × List Nat)) (n L : Nat) : Prop where
  top : Top X.K X.mg P.cls T ca
  bd : ∀ k, k < n → Binds X.K (T k).fd (T k).ps []
  kb : ∀ k ks pm, (k, ks, pm) ∈ kws → KBinds X.K (T k).fd (T k).ps ks (gOf (pm.length - ks.length) ks.length pm) (gOf (pm.length - ks.length) ks.length pm)
  fn : ∀ k, k < n → FnG X.prog X.w X.K X.mg X.base L (T k).ad (T k).fd (T k).ps (spM X.K X.mg (P.call k))
  out : ∀ k as m F, Post (P.call k as m) F → k < n
  gd : X.A.guards = some []
  rm : Room (L + 1) X.A
  cm : X.calm = true
  nd : X.N.Nodup

/-- one value in -/
def rU1 (K : PySem.W.Frag) (mg : Str → Option Value) (f : D → M D) : V → Hp → VK → Prop := fun x H Q => ∃ io m p, SRel K mg io m H ∧ RepV K mg io m.length H p x ∧ Post (f p m) (WV K mg io m H Q)
section
variable {K : PySem.W.Frag} {mg : Str → Option Value} {io : Pl} {r : Env} {m : Sto} {st : L2.St} {H : Hp}
theorem one {ma : Env → M D} {g : D → M D} {Q : VK} (s : S0 K mg io r m st H) (h : Post (bnd (ma r) g m) (WV K mg io m H Q)) : tM K mg ma st H fun x H1 => rU1 K mg g x H1 Q :=
  tM.bind s h fun io1 H1 m1 p x e1 s1 r1 h1 => ⟨io1, m1, p, s1.s, r1, WVpost.from e1 h1⟩
theorem many {ml : Env → M (List D)} {g : List D → M D} {Q : VK} (s : S0 K mg io r m st H) (h : Post (bnd (ml r) g m) (WV K mg io m H Q)) : tL K mg ml st H fun x H1 => rCB K mg g x H1 Q :=
  tL.bind s h fun io1 H1 m1 p x e1 s1 r1 h1 => ⟨io1, m1, p, s1.s, r1, WVpost.from e1 h1⟩
/-- an instance at a place -/
theorem ins_at {n : Nat} {C : Str} {fs : List (Str × D)} {v : V} (S : SRel K mg io m H) (hv : RepV K mg io m.length H (.ref n) v) (e : m[n]? = some (.ins C fs)) :
    ∃ Ca dx fvs, v = .ref (io n) ∧ mg C = some (.ref Ca) ∧ H (io n) = some (.ins Ca dx fvs) ∧ RepF K mg io m.length H fs fvs := by
  obtain ⟨hn, rfl⟩ := hv
  obtain ⟨Ca, dx, fvs, h0, h1, h2⟩ := S.ob n _ e
  exact ⟨Ca, dx, fvs, rfl, h0, h1, h2⟩
theorem ClsAt.same {T : Nat → DefAt} {C : Str} {c : LC.Cls} {Ca Cb : Addr} (a : ClsAt K mg T C c Ca) (e : mg C = some (.ref Cb)) : Cb = Ca := by
  rw [a.mg] at e; cases e; rfl
end

section
variable {X : Cx} {P : Phi} {T : Nat → DefAt} {ca : Str → Addr} {kws : List (Nat × List Str × List Nat)} {n L : Nat} {a o : Expr} {es : List Expr} {ma : Env → M D} {ml : Env → M (List D)} {pos apos np : Pos} {f C : Str}
theorem Wd.call0 (W : Wd X P T ca kws n L) {k : Nat} {us : List Value} {vs : List V} {pins : List (Addr × Obj)} {st : L2.St} {H : Hp} {s : Shared} {Q : VK} (hk : k < n) (I : L2.Inv X pins st H s) (rl : Vals vs us) (h : rCB X.K X.mg (P.call k) vs H Q) :
    wpAny (model X.prog X.w) X.A (PySem.call (.ref (T k).ad) us) (EP X pins st Q) X.xe s :=
  (W.fn k hk).call W.gd (W.rm.mono (Nat.le_succ _)) (W.bd k hk) I rl h
theorem rCB.lt (W : Wd X P T ca kws n L) {k : Nat} {vs : List V} {H : Hp} {Q : VK} (h : rCB X.K X.mg (P.call k) vs H Q) : k < n := by
  obtain ⟨io, m, ps, _, _, h⟩ := h
  exact W.out k _ _ _ h
theorem se_at (W : Wd X P T ca kws n L) (hn : nsup a = true) (ha : PE X a (tM X.K X.mg ma)) : PE X (.Attribute a f pos) (tM X.K X.mg fun r => bnd (ma r) (opAt P f)) :=
  ⟨fun pins s st H Q I ⟨io, r, m, s0, h⟩ => attr_of (base_nsup hn) (thn (ha.run pins s st H _ I (one s0 h)) fun u s1 ⟨x, H1, I1, rx, io1, m1, p, S1, hp, h1⟩ => by
    unfold opAt at h1
    split at h1 <;> first | exact h1.elim | skip
    rename_i j
    split at h1 <;> first | exact h1.elim | skip
    rename_i C fs e
    split at h1 <;> first | exact h1.elim | skip
    rename_i c ec
    obtain ⟨Ca, dx, fvs, rfl, h0, ea, rf⟩ := ins_at S1 hp e
    have A := W.top.one C c ec
    cases A.same h0
    cases (show u = Value.ref _ from rx)
    split at h1
    · rename_i hf
      obtain ⟨d, el, h2⟩ := oOut_post h1
      obtain ⟨v, ev, rv⟩ := rf.look el
      exact getattr_ok I1 ea A.cls (A.fld f hf) ev fun u' s2 I2 ru => ⟨v, H1, I2, ru, WV.here h2 S1 rv⟩
    · split at h1
      · rename_i k ek
        obtain ⟨p, hp2⟩ := A.pro f k ek
        have hr : rCB X.K X.mg (P.call k) [.ref (io1 j)] H1 Q := ⟨io1, m1, [.ref j], S1, ⟨_, _, rfl, hp, rfl⟩, h1⟩
        exact (W.fn k (rCB.lt W hr)).prop hp2 A.cls W.gd W.rm (W.bd k (rCB.lt W hr)) I1 ea hr
      · exact h1.elim)⟩

/-- what runs behind the callee's name -/
theorem se_run0 {x : Str} {fa : Addr} {g : List D → M D} (hg : Gl X x) (hm : X.mg x = some (.ref fa)) (hk : PySem.W.keepIn X.K (.ref fa) = true) (hd : (x == ("__debug__" : Str)) = false)
    (run : ∀ (pins : List (Addr × Obj)) (st : L2.St) (H : Hp) (s : Shared) (Q : VK) (us : List Value) (vs : List V), L2.Inv X pins st H s → Vals vs us → rCB X.K X.mg g vs H Q → wpAny (model X.prog X.w) X.A (PySem.call (.ref fa) us) (EP X pins st Q) X.xe s) :
    PE X (.Call (.Name x np) [] [] pos) (tM X.K X.mg fun r => bnd (LC.ret []) g) :=
  ⟨fun pins s st H Q I ⟨io, r, m, s0, h⟩ => wpAny_Call_Name_kw (ld_glob I hg hm (PySem.W.callWith_K0 I.kIn hk (run pins st H s Q [] [] I .nil ⟨io, m, [], s0.s, rfl, h⟩)) hd)⟩
theorem se_run {x : Str} {fa : Addr} {g : List D → M D} (hg : Gl X x) (hm : X.mg x = some (.ref fa)) (hk : PySem.W.keepIn X.K (.ref fa) = true) (hd : (x == ("__debug__" : Str)) = false) (hn : (a :: es).all nst = true) (hl : PA X (a :: es) (tL X.K X.mg ml))
    (run : ∀ (pins : List (Addr × Obj)) (st : L2.St) (H : Hp) (s : Shared) (Q : VK) (us : List Value) (vs : List V), L2.Inv X pins st H s → Vals vs us → rCB X.K X.mg g vs H Q → wpAny (model X.prog X.w) X.A (PySem.call (.ref fa) us) (EP X pins st Q) X.xe s) :
    PE X (.Call (.Name x np) (a :: es) [] pos) (tM X.K X.mg fun r => bnd (ml r) g) := by
  rw [List.all_cons, Bool.and_eq_true] at hn
  exact ⟨fun pins s st H Q I ⟨io, r, m, s0, h⟩ => wpAny_Call_Name_kw (ld_glob I hg hm (PySem.W.callWith_K (h₀ := X.base) I.ok.mod.kin hk (thn (hl.run pos pins s st H _ I (many s0 h)) fun us s1 ⟨vs, H1, I1, rl, q⟩ => ⟨I1.kIn, run pins st H1 s1 Q us vs I1 rl q⟩) (each_nst hn.1) (nst_none hn.2)) hd)⟩

/-! ### keywords -/
theorem PK.mono {ks : List Keyword} {t t' : TA} (h : PK X ks t) (k : ∀ st H Q, t' st H Q → t st H Q) : PK X ks t' := ⟨fun pos pins s st H Q I q => h.run pos pins s st H Q I (k _ _ _ q)⟩
theorem sk_nil : PK X [] (tL X.K X.mg fun _ => LC.ret []) := PK.mono pk_nil fun st H Q ⟨io, r, m, s, h⟩ => (Post.of_ret h) io H [] LC.Ext.refl s.s rfl
theorem sk_cons {nm : Option Str} {kp : Pos} {ks : List Keyword} (ha : PE X a (tM X.K X.mg ma)) (hl : PK X ks (tL X.K X.mg ml)) : PK X (⟨nm, a, kp⟩ :: ks) (tL X.K X.mg fun r => bnd (ma r) fun p => bnd (ml r) fun q => LC.ret (p :: q)) :=
  PK.mono (pk_cons ha hl) fun st H Q ⟨io, r, m, s, h⟩ => tM.bind s h fun io1 H1 m1 p x e1 s1 r1 h1 => tL.bind s1 h1 fun io2 H2 m2 q y e2 s2 r2 h2 =>
    (Post.of_ret h2) io2 H2 (x :: y) (e1.trans e2) s2.s ⟨x, y, rfl, r1.keep s1.s e2, r2⟩
/-- values by place, values by name -/
def rCK (K : PySem.W.Frag) (mg : Str → Option Value) (f : List D → List D → M D) : List V → List V → Hp → VK → Prop := fun xs zs H Q => ∃ io m ps qs, SRel K mg io m H ∧ RepVs K mg io m.length H ps xs ∧ RepVs K mg io m.length H qs zs ∧ Post (f ps qs m) (WV K mg io m H Q)
theorem manyK {mk : Env → M (List D)} {g : List D → List D → M D} {io : Pl} {r : Env} {m : Sto} {st : L2.St} {H : Hp} {Q : VK} (s : S0 X.K X.mg io r m st H) (h : Post (bnd (ml r) (fun as => bnd (mk r) fun bs => g as bs) m) (WV X.K X.mg io m H Q)) :
    tL X.K X.mg ml st H fun x H1 => tL X.K X.mg mk st H1 fun y H2 => rCK X.K X.mg g x y H2 Q :=
  tL.bind s h fun io1 H1 m1 p x e1 s1 r1 h1 => tL.bind s1 h1 fun io2 H2 m2 q y e2 s2 r2 h2 => ⟨io2, m2, p, q, s2.s, r1.keep s1.s e2, r2, WVpost.from (e1.trans e2) h2⟩
theorem se_runK0 {x : Str} {fa : Addr} {ks : List Keyword} {mk : Env → M (List D)} {g : List D → List D → M D} (hg : Gl X x) (hm : X.mg x = some (.ref fa)) (hk : PySem.W.keepIn X.K (.ref fa) = true) (hd : (x == ("__debug__" : Str)) = false) (hks : ks.all (fun k => k.arg.isSome) = true)
    (hl : PK X ks (tL X.K X.mg mk))
    (run : ∀ (pins : List (Addr × Obj)) (st : L2.St) (H : Hp) (s : Shared) (Q : VK) (us ws : List Value) (vs zs : List V), L2.Inv X pins st H s → Vals vs us → Vals zs ws → rCK X.K X.mg g vs zs H Q → wpAny (model X.prog X.w) X.A (PySem.call (.ref fa) us ((ks.filterMap (·.arg)).zip ws)) (EP X pins st Q) X.xe s) :
    PE X (.Call (.Name x np) [] ks pos) (tM X.K X.mg fun r => bnd (LC.ret []) fun as => bnd (mk r) fun bs => g as bs) :=
  ⟨fun pins s st H Q I ⟨io, r, m, s0, h⟩ => wpAny_Call_Name_kw (ld_glob I hg hm (PySem.W.callWith_KW0 (h₀ := X.base) I.ok.mod.kin hk (kw_all hks) (thn (hl.run pos pins s st H (fun zs H1 => rCK X.K X.mg g [] zs H1 Q) I
    (tL.bind s0 (show Post (bnd (mk r) (fun bs => g [] bs) m) _ from h) fun io2 H2 m2 q y e2 s2 r2 h2 => ⟨io2, m2, [], q, s2.s, rfl, r2, WVpost.from e2 h2⟩)) fun ws s1 ⟨zs, H1, I1, rl, q⟩ => ⟨I1.kIn, by rw [kw_names]; exact run pins st H1 s1 Q [] ws [] zs I1 .nil rl q⟩)
      (by rw [kw_none hks] <;> rfl)) hd)⟩
theorem se_runK {x : Str} {fa : Addr} {ks : List Keyword} {mk : Env → M (List D)} {g : List D → List D → M D} (hg : Gl X x) (hm : X.mg x = some (.ref fa)) (hk : PySem.W.keepIn X.K (.ref fa) = true) (hd : (x == ("__debug__" : Str)) = false) (hn : (a :: es).all nst = true) (hks : ks.all (fun k => k.arg.isSome) = true)
    (ha : PA X (a :: es) (tL X.K X.mg ml)) (hl : PK X ks (tL X.K X.mg mk))
    (run : ∀ (pins : List (Addr × Obj)) (st : L2.St) (H : Hp) (s : Shared) (Q : VK) (us ws : List Value) (vs zs : List V), L2.Inv X pins st H s → Vals vs us → Vals zs ws → rCK X.K X.mg g vs zs H Q → wpAny (model X.prog X.w) X.A (PySem.call (.ref fa) us ((ks.filterMap (·.arg)).zip ws)) (EP X pins st Q) X.xe s) :
    PE X (.Call (.Name x np) (a :: es) ks pos) (tM X.K X.mg fun r => bnd (ml r) fun as => bnd (mk r) fun bs => g as bs) := by
  have hn' := hn
  rw [List.all_cons, Bool.and_eq_true] at hn'
  exact ⟨fun pins s st H Q I ⟨io, r, m, s0, h⟩ => wpAny_Call_Name_kw (ld_glob I hg hm (PySem.W.callWith_KW (h₀ := X.base) I.ok.mod.kin hk (kw_all hks) (thn (ha.run pos pins s st H _ I (manyK s0 h)) fun us s1 ⟨vs, H1, I1, rl, q⟩ => thn (hl.run pos pins s1 st H1 _ I1 q) fun ws s2 ⟨zs, H2, I2, rl2, q2⟩ =>
    ⟨I2.kIn, by rw [kw_names]; exact run pins st H2 s2 Q us ws vs zs I2 rl rl2 q2⟩) (by rw [nst_none hn, kw_none hks] <;> rfl) (each_nst hn'.1)) hd)⟩

/-! ### a method -/
theorem meth_form {kws : List Keyword} {env : PySem.Env} (h1 : nsup o = true) (h2 : (es.all nst && kws.all (fun k => k.arg.isSome) && decide (es.length + kws.length + (if kws.isEmpty then 0 else 1) < 30)) = true) (h3 : (apos.endLine == pos.line) = true) :
    eval (.Call (.Attribute o f apos) es kws pos) env = (do
      let ov ← eval o env
      standAt apos.atName
      let (g, first) ← holding [ov] (getMethod ov f (do return (← importBound o env).getD true))
      callWith pos g first (backTo pos (starEach es env)) (backToKw pos (keywordEach kws env))) := by
  have few : methodCallForm (es.length + kws.length) (backTo pos (starEach es env)) (backToKw pos (keywordEach kws env)) = true := by
    simp only [Bool.and_eq_true, decide_eq_true_eq] at h2
    obtain ⟨⟨h4, h5⟩, h6⟩ := h2
    have e : (backToKw pos (keywordEach kws env)).isEmpty = kws.isEmpty := by
      cases kws with
      | nil => rfl
      | cons k r => cases k; rfl
    unfold methodCallForm
    rw [nst_all h4, kw_all h5, e]
    simp only [Bool.true_and, decide_eq_true_eq]
    exact h6
  have step : ∀ ov, methodCall o f apos pos env ov (es.length + kws.length) (backTo pos (starEach es env)) (backToKw pos (keywordEach kws env)) = (do
      let (g, first) ← holding [ov] (getMethod ov f (do return (← importBound o env).getD true))
      callWith pos g first (backTo pos (starEach es env)) (backToKw pos (keywordEach kws env))) := fun ov => by
    unfold methodCall
    rw [few]
    unfold methodCallPos calleeOf
    rw [h3] <;> rfl
  show (do
    let ov ← attributeBase o f env (eval o env)
    standAt apos.atName
    methodCall o f apos pos env ov (es.length + kws.length) (backTo pos (starEach es env)) (backToKw pos (keywordEach kws env))) = _
  rw [base_nsup h1]
  simp only [step]
end
end LC

/-! # LcK: methods, new instances, built-in functions -/
namespace LC
open PySem PySem.Spec PyProof.Rows L2
theorem gOf_rel {n m : Nat} {pm : List Nat} {vs : List V} {us : List Value} {zs : List V} {ws : List Value} (a : Vals vs us) (b : Vals zs ws) : Vals (gOf n m pm vs zs) (gOf n m pm us ws) := by
  unfold gOf
  rw [a.length, b.length]
  split
  · have ab := a.append b
    generalize vs ++ zs = xs at ab
    generalize us ++ ws = ys at ab
    unfold pick
    have key : ∀ pm : List Nat, (∃ l l', (pm.mapM fun k => xs[k]?) = some l ∧ (pm.mapM fun k => ys[k]?) = some l' ∧ Vals l l') ∨ ((pm.mapM fun k => xs[k]?) = none ∧ (pm.mapM fun k => ys[k]?) = none) := by
      intro pm
      induction pm with
      | nil => exact .inl ⟨[], [], rfl, rfl, .nil⟩
      | cons k r ih =>
        rw [List.mapM_cons, List.mapM_cons]
        cases e : xs[k]? with
        | none =>
          have : ys[k]? = none := by
            rw [List.getElem?_eq_none_iff] at e ⊢
            rw [← ab.length]; exact e
          rw [this]
          exact .inr ⟨rfl, rfl⟩
        | some v =>
          obtain ⟨u, e2, rv⟩ := ab.get e
          rw [e2]
          rcases ih with ⟨l, l', h1, h2, h3⟩ | ⟨h1, h2⟩
          · rw [h1, h2]; exact .inl ⟨v :: l, u :: l', rfl, rfl, .cons rv h3⟩
          · rw [h1, h2]; exact .inr ⟨rfl, rfl⟩
    rcases key pm with ⟨l, l', h1, h2, h3⟩ | ⟨h1, h2⟩
    · rw [h1, h2]; exact h3
    · rw [h1, h2]; exact .nil
  · exact .nil
section
variable {K : PySem.W.Frag} {mg : Str → Option Value} {io : Pl} {m : Sto} {H : Hp}
theorem pick_rep {N : Nat} {ds : List D} {vs : List V} (h : RepVs K mg io N H ds vs) : ∀ (pm : List Nat) (l : List D), pick pm ds = some l → ∃ l', pick pm vs = some l' ∧ RepVs K mg io N H l l'
  | [], l, e => by cases e; exact ⟨[], rfl, rfl⟩
  | k :: r, l, e => by
    unfold pick at e ⊢
    rw [List.mapM_cons] at e ⊢
    cases e1 : ds[k]? with
    | none => rw [e1] at e; cases e
    | some d =>
      rw [e1] at e
      obtain ⟨v, e2, rv⟩ := h.get e1
      rw [e2]
      cases e3 : (r.mapM fun k => ds[k]?) with
      | none => rw [e3] at e; cases e
      | some l2 =>
        rw [e3] at e
        cases e
        obtain ⟨l', h1, h2⟩ := pick_rep h r l2 e3
        unfold pick at h1
        rw [h1]
        exact ⟨v :: l', rfl, v, l', rfl, rv, h2⟩
/-- the arguments in the parameters' order -/
theorem permK_post {n k : Nat} {pm : List Nat} {as bs : List D} {vs zs : List V} {N : Nat} {F : List D → Sto → Prop} (ra : RepVs K mg io N H as vs) (rb : RepVs K mg io N H bs zs) (h : Post (permK n k pm as bs m) F) :
    ∃ l, RepVs K mg io N H l (gOf n k pm vs zs) ∧ F l m := by
  unfold permK at h
  split at h
  · rename_i hl
    split at h
    · rename_i l e
      obtain ⟨l', h1, h2⟩ := pick_rep (ra.append rb) pm l e
      refine ⟨l, ?_, h⟩
      unfold gOf
      rw [if_pos (by rw [← ra.length, ← rb.length]; exact hl), h1]
      exact h2
    · exact h.elim
  · exact h.elim
end
theorem preMe_post {P : Phi} {f : Str} {p : D} {m : Sto} {F : Nat → Sto → Prop} (h : Post (preMe P f p m) F) : ∃ j C fs c k, p = .ref j ∧ m[j]? = some (.ins C fs) ∧ P.cl C = some c ∧ c.meths.lookup f = some k ∧ fs.lookup f = none ∧ F k m := by
  unfold preMe at h
  split at h <;> first | exact h.elim | skip
  rename_i j
  split at h <;> first | exact h.elim | skip
  rename_i C fs e
  split at h <;> first | exact h.elim | skip
  rename_i c ec
  split at h <;> first | exact h.elim | skip
  rename_i k ek
  split at h <;> first | exact h.elim | skip
  rename_i hf
  exact ⟨j, C, fs, c, k, rfl, e, ec, ek, Option.isNone_iff_eq_none.mp hf, h⟩

section
variable {X : Cx} {P : Phi} {T : Nat → DefAt} {ca : Str → Addr} {kws : List (Nat × List Str × List Nat)} {n L : Nat} {a o : Expr} {es : List Expr} {ma : Env → M D} {ml mk : Env → M (List D)} {pos apos np : Pos} {f C : Str}

theorem se_me0 (W : Wd X P T ca kws n L) (ha : PE X o (tM X.K X.mg ma)) (hn : nsup o = true) (hline : (apos.endLine == pos.line) = true) :
    PE X (.Call (.Attribute o f apos) [] [] pos) (tM X.K X.mg fun r => bnd (ma r) fun p => bnd (preMe P f p) fun k => bnd (LC.ret []) fun as => P.call k (p :: as)) :=
  ⟨fun pins s st H Q I ⟨io, r, m, s0, h⟩ => PySem.W.methodCall_KW (thn (ha.run pins s st H (fun x H1 => ∃ io1 m1 p, Ext io m.length H io1 m1.length H1 ∧ S0 X.K X.mg io1 r m1 st H1 ∧ RepV X.K X.mg io1 m1.length H1 p x ∧ Post (bnd (preMe P f p) (fun k => bnd (LC.ret []) fun as => P.call k (p :: as)) m1) (WV X.K X.mg io m H Q)) I
      (tM.bind s0 h fun io1 H1 m1 p x e1 s1 r1 h1 => ⟨io1, m1, p, e1, s1, r1, h1⟩)) fun u s1 ⟨x, H1, I1, rx, io1, m1, p, e1, s2, r1, h1⟩ => by
    obtain ⟨j, C, fs, c, k, rfl, e2, ec, ek, ef, h2⟩ := preMe_post (Post.of_bnd h1)
    obtain ⟨Ca, dx, fvs, rfl, h0, ea, rf⟩ := ins_at s2.s r1 e2
    have A := W.top.one C c ec
    cases A.same h0
    cases (show u = Value.ref _ from rx)
    refine getmeth_ok I1 ea A.cls (A.met f k ek) (rf.none ef) ?_
    have hr : rCB X.K X.mg (P.call k) [.ref (io1 j)] H1 Q := ⟨io1, m1, [.ref j], s2.s, ⟨_, _, rfl, r1, rfl⟩, WVpost.from e1 h2⟩
    exact PySem.W.callWith_K0 (first := [.ref (io1 j)]) I1.kIn (A.met f k ek).kp (W.call0 (us := [.ref (io1 j)]) (vs := [.ref (io1 j)]) (rCB.lt W hr) I1 (.cons rfl .nil) hr)) (meth_form hn (by simp) hline)⟩
theorem se_me {e : Expr} (W : Wd X P T ca kws n L) (ha : PE X o (tM X.K X.mg ma)) (hn : nsup o = true) (hline : (apos.endLine == pos.line) = true) (hs : (e :: es).all nst = true) (hlt : decide ((e :: es).length < 29) = true) (hl : PA X (e :: es) (tL X.K X.mg ml)) :
    PE X (.Call (.Attribute o f apos) (e :: es) [] pos) (tM X.K X.mg fun r => bnd (ma r) fun p => bnd (preMe P f p) fun k => bnd (ml r) fun as => P.call k (p :: as)) :=
  ⟨fun pins s st H Q I ⟨io, r, m, s0, h⟩ => PySem.W.methodCall_KW (thn (ha.run pins s st H (fun x H1 => ∃ io1 m1 p, Ext io m.length H io1 m1.length H1 ∧ S0 X.K X.mg io1 r m1 st H1 ∧ RepV X.K X.mg io1 m1.length H1 p x ∧ Post (bnd (preMe P f p) (fun k => bnd (ml r) fun as => P.call k (p :: as)) m1) (WV X.K X.mg io m H Q)) I
      (tM.bind s0 h fun io1 H1 m1 p x e1 s1 r1 h1 => ⟨io1, m1, p, e1, s1, r1, h1⟩)) fun u s1 ⟨x, H1, I1, rx, io1, m1, p, e1, s2, r1, h1⟩ => by
    obtain ⟨j, C, fs, c, k, rfl, e2, ec, ek, ef, h2⟩ := preMe_post (Post.of_bnd h1)
    obtain ⟨Ca, dx, fvs, rfl, h0, ea, rf⟩ := ins_at s2.s r1 e2
    have A := W.top.one C c ec
    cases A.same h0
    cases (show u = Value.ref _ from rx)
    refine getmeth_ok I1 ea A.cls (A.met f k ek) (rf.none ef) ?_
    have hs' := hs
    rw [List.all_cons, Bool.and_eq_true] at hs'
    refine PySem.W.callWith_K (first := [.ref (io1 j)]) (h₀ := X.base) I.ok.mod.kin (A.met f k ek).kp (thn (hl.run pos pins s1 st H1 (fun vs H2 => rCB X.K X.mg (P.call k) (.ref (io1 j) :: vs) H2 Q) I1
      (tL.bind s2 h2 fun io3 H3 m3 q y e3 s3 r3 h3 => ⟨io3, m3, .ref j :: q, s3.s, ⟨_, _, rfl, r1.keep s2.s e3, r3⟩, WVpost.from (e1.trans e3) h3⟩)) fun us s4 ⟨vs, H4, I4, rl, hr⟩ => ⟨I4.kIn, ?_⟩) (each_nst hs'.1) (nst_none hs'.2)
    exact W.call0 (us := .ref (io1 j) :: us) (vs := .ref (io1 j) :: vs) (rCB.lt W hr) I4 (.cons rfl rl) hr) (meth_form hn (by
      have := of_decide_eq_true hlt
      rw [hs]
      simp only [List.all_nil, Bool.true_and, decide_eq_true_eq, List.isEmpty_nil, List.length_nil, if_true]
      omega) hline)⟩

/-! ### o.m(.., k = v, ..) -/
theorem se_mek0 {ks : List Str} {pm : List Nat} {kw : List Keyword} (W : Wd X P T ca kws n L) (ha : PE X o (tM X.K X.mg ma)) (hn : nsup o = true) (hline : (apos.endLine == pos.line) = true) (hlt : decide (kw.length < 28) = true) (hks : kw.all (fun k => k.arg.isSome) = true)
    (hnm : kw.filterMap (·.arg) = ks) (hkw : ∀ C c k, P.cl C = some c → c.meths.lookup f = some k → (k, ks, pm) ∈ kws) (hk : PK X kw (tL X.K X.mg mk)) :
    PE X (.Call (.Attribute o f apos) [] kw pos) (tM X.K X.mg fun r => bnd (ma r) fun p => bnd (preMe P f p) fun k => bnd (LC.ret []) fun as => bnd (mk r) fun bs => bnd (permK (pm.length - ks.length) ks.length pm (p :: as) bs) (P.call k)) :=
  ⟨fun pins s st H Q I ⟨io, r, m, s0, h⟩ => PySem.W.methodCall_KW (thn (ha.run pins s st H (fun x H1 => ∃ io1 m1 p, Ext io m.length H io1 m1.length H1 ∧ S0 X.K X.mg io1 r m1 st H1 ∧ RepV X.K X.mg io1 m1.length H1 p x ∧ Post (bnd (preMe P f p) (fun k => bnd (LC.ret []) fun as => bnd (mk r) fun bs => bnd (permK (pm.length - ks.length) ks.length pm (p :: as) bs) (P.call k)) m1) (WV X.K X.mg io m H Q)) I
      (tM.bind s0 h fun io1 H1 m1 p x e1 s1 r1 h1 => ⟨io1, m1, p, e1, s1, r1, h1⟩)) fun u s1 ⟨x, H1, I1, rx, io1, m1, p, e1, s2, r1, h1⟩ => by
    obtain ⟨j, C, fs, c, k, rfl, e2, ec, ek, ef, h2⟩ := preMe_post (Post.of_bnd h1)
    obtain ⟨Ca, dx, fvs, rfl, h0, ea, rf⟩ := ins_at s2.s r1 e2
    have A := W.top.one C c ec
    cases A.same h0
    cases (show u = Value.ref _ from rx)
    refine getmeth_ok I1 ea A.cls (A.met f k ek) (rf.none ef) ?_
    refine PySem.W.callWith_KW0 (first := [.ref (io1 j)]) (h₀ := X.base) I.ok.mod.kin (A.met f k ek).kp (kw_all hks) (thn (hk.run pos pins s1 st H1 (fun zs H2 => rCK X.K X.mg (fun as bs => bnd (permK (pm.length - ks.length) ks.length pm as bs) (P.call k)) [.ref (io1 j)] zs H2 Q) I1
      (tL.bind s2 (show Post (bnd (mk r) (fun bs => bnd (permK (pm.length - ks.length) ks.length pm [.ref j] bs) (P.call k)) m1) _ from h2) fun io3 H3 m3 q y e3 s3 r3 h3 => ⟨io3, m3, [.ref j], q, s3.s, ⟨_, _, rfl, r1.keep s2.s e3, rfl⟩, r3, WVpost.from (e1.trans e3) h3⟩)) fun ws s4 ⟨zs, H4, I4, rl, hr⟩ => ⟨I4.kIn, ?_⟩) (by rw [kw_none hks] <;> rfl)
    rw [kw_names, hnm]
    obtain ⟨io5, m5, ps5, qs5, S5, hp5, hq5, h5⟩ := hr
    obtain ⟨l, r6, h6⟩ := permK_post hp5 hq5 (Post.of_bnd h5)
    exact (W.fn k (W.out k _ _ _ h6)).callK (us := [.ref (io1 j)]) (vs := [.ref (io1 j)]) W.gd (W.rm.mono (Nat.le_succ _)) (W.kb k ks pm (hkw C c k ec ek)) I4 (.cons rfl .nil) rl ⟨io5, m5, l, S5, r6, h6⟩) (meth_form hn (by
      have := of_decide_eq_true hlt
      rw [hks]
      simp only [List.all_nil, Bool.true_and, decide_eq_true_eq, List.length_nil]
      split <;> omega) hline)⟩
theorem se_mek {e : Expr} {ks : List Str} {pm : List Nat} {kw : List Keyword} (W : Wd X P T ca kws n L) (ha : PE X o (tM X.K X.mg ma)) (hn : nsup o = true) (hline : (apos.endLine == pos.line) = true) (hs : (e :: es).all nst = true) (hlt : decide ((e :: es).length + kw.length < 28) = true) (hks : kw.all (fun k => k.arg.isSome) = true)
    (hnm : kw.filterMap (·.arg) = ks) (hkw : ∀ C c k, P.cl C = some c → c.meths.lookup f = some k → (k, ks, pm) ∈ kws) (hl : PA X (e :: es) (tL X.K X.mg ml)) (hk : PK X kw (tL X.K X.mg mk)) :
    PE X (.Call (.Attribute o f apos) (e :: es) kw pos) (tM X.K X.mg fun r => bnd (ma r) fun p => bnd (preMe P f p) fun k => bnd (ml r) fun as => bnd (mk r) fun bs => bnd (permK (pm.length - ks.length) ks.length pm (p :: as) bs) (P.call k)) :=
  ⟨fun pins s st H Q I ⟨io, r, m, s0, h⟩ => PySem.W.methodCall_KW (thn (ha.run pins s st H (fun x H1 => ∃ io1 m1 p, Ext io m.length H io1 m1.length H1 ∧ S0 X.K X.mg io1 r m1 st H1 ∧ RepV X.K X.mg io1 m1.length H1 p x ∧ Post (bnd (preMe P f p) (fun k => bnd (ml r) fun as => bnd (mk r) fun bs => bnd (permK (pm.length - ks.length) ks.length pm (p :: as) bs) (P.call k)) m1) (WV X.K X.mg io m H Q)) I
      (tM.bind s0 h fun io1 H1 m1 p x e1 s1 r1 h1 => ⟨io1, m1, p, e1, s1, r1, h1⟩)) fun u s1 ⟨x, H1, I1, rx, io1, m1, p, e1, s2, r1, h1⟩ => by
    obtain ⟨j, C, fs, c, k, rfl, e2, ec, ek, ef, h2⟩ := preMe_post (Post.of_bnd h1)
    obtain ⟨Ca, dx, fvs, rfl, h0, ea, rf⟩ := ins_at s2.s r1 e2
    have A := W.top.one C c ec
    cases A.same h0
    cases (show u = Value.ref _ from rx)
    refine getmeth_ok I1 ea A.cls (A.met f k ek) (rf.none ef) ?_
    have hs' := hs
    rw [List.all_cons, Bool.and_eq_true] at hs'
    refine PySem.W.callWith_KW (first := [.ref (io1 j)]) (h₀ := X.base) I.ok.mod.kin (A.met f k ek).kp (kw_all hks) (thn (hl.run pos pins s1 st H1 (fun vs H2 => tL X.K X.mg mk st H2 fun zs H3 => rCK X.K X.mg (fun as bs => bnd (permK (pm.length - ks.length) ks.length pm as bs) (P.call k)) (.ref (io1 j) :: vs) zs H3 Q) I1
      (tL.bind s2 h2 fun io3 H3 m3 q y e3 s3 r3 h3 => tL.bind s3 h3 fun io4 H4 m4 q4 y4 e4 s4 r4 h4 => ⟨io4, m4, .ref j :: q, q4, s4.s, ⟨_, _, rfl, (r1.keep s2.s e3).keep s3.s e4, r3.keep s3.s e4⟩, r4, WVpost.from ((e1.trans e3).trans e4) h4⟩)) fun us s4 ⟨vs, H4, I4, rl, hr0⟩ => thn (hk.run pos pins s4 st H4 _ I4 hr0) fun ws s5 ⟨zs, H5, I5, rl5, hr⟩ => ⟨I5.kIn, ?_⟩)
        (by rw [nst_none hs, kw_none hks] <;> rfl) (each_nst hs'.1)
    rw [kw_names, hnm]
    obtain ⟨io5, m5, ps5, qs5, S5, hp5, hq5, h5⟩ := hr
    obtain ⟨l, r6, h6⟩ := permK_post hp5 hq5 (Post.of_bnd h5)
    exact (W.fn k (W.out k _ _ _ h6)).callK (us := .ref (io1 j) :: us) (vs := .ref (io1 j) :: vs) W.gd (W.rm.mono (Nat.le_succ _)) (W.kb k ks pm (hkw C c k ec ek)) I5 (.cons rfl rl) rl5 ⟨io5, m5, l, S5, r6, h6⟩) (meth_form hn (by
      have := of_decide_eq_true hlt
      rw [hs, hks]
      simp only [Bool.true_and, decide_eq_true_eq]
      split <;> omega) hline)⟩

/-! ### C(..) -/
theorem se_mkRun (W : Wd X P T ca kws n L) {c : LC.Cls} {k : Nat} (hc : P.cl C = some c) (hk : c.init = some k) (pins : List (Addr × Obj)) (st : L2.St) (H : Hp) (s : Shared) (Q : VK) (us : List Value) (vs : List V) (I : L2.Inv X pins st H s) (rl : Vals vs us)
    (h : rCB X.K X.mg (opMk P C) vs H Q) : wpAny (model X.prog X.w) X.A (PySem.call (.ref (ca C)) us) (EP X pins st Q) X.xe s := by
  obtain ⟨io, m, ps, S, hp, h⟩ := h
  unfold opMk opMkK at h
  rw [hc] at h
  simp only [hk] at h
  have A := W.top.one C c hc
  have h2 : Post (bnd (P.call k (.ref m.length :: ps)) (fun d m' => match d with
        | .non => .ok (.ref m.length) m'
        | _ => .bad) (m ++ [.ins C []])) (WV X.K X.mg io m H Q) := h
  have hkn : k < n := W.out k _ _ _ (Post.of_bnd h2)
  refine (W.fn k hkn).make (A.ini k hk) W.gd W.rm (W.bd k hkn) I rl fun x dx hx hdx ne => ?_
  have S1 := S.new (o := .own x) hdx
  have e1 : Ext io m.length H io m.length (upd H dx (.own x)) := Ext.new hdx
  have hx' : upd H dx (.own x) x = none := by rw [upd_ne (Ne.symm ne)]; exact hx
  have e2 : Ext io m.length (upd H dx (.own x)) (ioN io m.length x) (m.length + 1) (upd (upd H dx (.own x)) x (.ins (ca C) dx [])) := Ext.place hx'
  have S2 : SRel X.K X.mg (ioN io m.length x) (m ++ [.ins C []]) (upd (upd H dx (.own x)) x (.ins (ca C) dx [])) := S1.place hx' ⟨ca C, dx, [], A.mg, upd_same, rfl⟩
  have e3 := e1.trans e2
  have rx : RepV X.K X.mg (ioN io m.length x) (m.length + 1) (upd (upd H dx (.own x)) x (.ins (ca C) dx [])) (.ref m.length) (.ref x) := ⟨Nat.lt_succ_self _, by rw [ioN_eq]⟩
  refine ⟨ioN io m.length x, m ++ [.ins C []], .ref m.length :: ps, S2, ?_, (Post.of_bnd h2).mono fun d m3 h3 io3 H3 v e4 S3 r3 => ?_⟩
  · rw [List.length_append, List.length_singleton]
    exact ⟨_, _, rfl, rx, hp.keep S e3⟩
  · split at h3
    · rw [List.length_append, List.length_singleton] at e4
      have h3 : WV X.K X.mg io m H Q (.ref m.length) m3 := h3
      refine ⟨r3, h3 io3 H3 _ (e3.trans e4) S3 ?_⟩
      refine ⟨Nat.lt_of_lt_of_le (Nat.lt_succ_self _) e4.le, ?_⟩
      rw [e4.ag _ (Nat.lt_succ_self _), ioN_eq]
    · exact h3.elim
theorem se_mkRunK (W : Wd X P T ca kws n L) {c : LC.Cls} {k : Nat} {ks : List Str} {pm : List Nat} (hc : P.cl C = some c) (hk : c.init = some k) (hkw : (k, ks, pm) ∈ kws) (pins : List (Addr × Obj)) (st : L2.St) (H : Hp) (s : Shared) (Q : VK) (us ws : List Value) (vs zs : List V) (I : L2.Inv X pins st H s) (rl : Vals vs us) (rz : Vals zs ws)
    (h : rCK X.K X.mg (opMkK P C (permK (pm.length - ks.length) ks.length pm)) vs zs H Q) : wpAny (model X.prog X.w) X.A (PySem.call (.ref (ca C)) us (ks.zip ws)) (EP X pins st Q) X.xe s := by
  obtain ⟨io, m, ps, qs, S, hp, hq, h⟩ := h
  unfold opMkK at h
  rw [hc] at h
  simp only [hk] at h
  have A := W.top.one C c hc
  obtain ⟨l0, hrun⟩ : ∃ l, Post (P.call k l (m ++ [.ins C []])) (fun _ _ => True) := by
    have z := Post.of_bnd (Post.of_bnd h)
    unfold permK at z
    split at z
    · split at z
      · rename_i l e
        exact ⟨l, Post.mono z fun _ _ _ => trivial⟩
      · exact z.elim
    · exact z.elim
  have hkn : k < n := W.out k _ _ _ hrun
  refine (W.fn k hkn).makeK (A.ini k hk) W.gd W.rm (W.kb k ks pm hkw) I rl rz fun x dx hx hdx ne => ?_
  have S1 := S.new (o := .own x) hdx
  have e1 : Ext io m.length H io m.length (upd H dx (.own x)) := Ext.new hdx
  have hx' : upd H dx (.own x) x = none := by rw [upd_ne (Ne.symm ne)]; exact hx
  have e2 : Ext io m.length (upd H dx (.own x)) (ioN io m.length x) (m.length + 1) (upd (upd H dx (.own x)) x (.ins (ca C) dx [])) := Ext.place hx'
  have S2 : SRel X.K X.mg (ioN io m.length x) (m ++ [.ins C []]) (upd (upd H dx (.own x)) x (.ins (ca C) dx [])) := S1.place hx' ⟨ca C, dx, [], A.mg, upd_same, rfl⟩
  have e3 := e1.trans e2
  have rx : RepV X.K X.mg (ioN io m.length x) (m.length + 1) (upd (upd H dx (.own x)) x (.ins (ca C) dx [])) (.ref m.length) (.ref x) := ⟨Nat.lt_succ_self _, by rw [ioN_eq]⟩
  have ra : RepVs X.K X.mg (ioN io m.length x) (m.length + 1) (upd (upd H dx (.own x)) x (.ins (ca C) dx [])) (.ref m.length :: ps) (.ref x :: vs) := ⟨_, _, rfl, rx, hp.keep S e3⟩
  obtain ⟨l, rl2, h2⟩ := permK_post ra (hq.keep S e3) (Post.of_bnd (Post.of_bnd h))
  refine ⟨ioN io m.length x, m ++ [.ins C []], l, S2, ?_, h2.mono fun d m3 h3 io3 H3 v e4 S3 r3 => ?_⟩
  · rw [List.length_append, List.length_singleton]
    exact rl2
  · split at h3
    · rw [List.length_append, List.length_singleton] at e4
      have h3 : WV X.K X.mg io m H Q (.ref m.length) m3 := h3
      refine ⟨r3, h3 io3 H3 _ (e3.trans e4) S3 ?_⟩
      refine ⟨Nat.lt_of_lt_of_le (Nat.lt_succ_self _) e4.le, ?_⟩
      rw [e4.ag _ (Nat.lt_succ_self _), ioN_eq]
    · exact h3.elim
theorem se_callRunK (W : Wd X P T ca kws n L) {k : Nat} {ks : List Str} {pm : List Nat} (hkw : (k, ks, pm) ∈ kws) (pins : List (Addr × Obj)) (st : L2.St) (H : Hp) (s : Shared) (Q : VK) (us ws : List Value) (vs zs : List V) (I : L2.Inv X pins st H s) (rl : Vals vs us) (rz : Vals zs ws)
    (h : rCK X.K X.mg (fun as bs => bnd (permK (pm.length - ks.length) ks.length pm as bs) (P.call k)) vs zs H Q) : wpAny (model X.prog X.w) X.A (PySem.call (.ref (T k).ad) us (ks.zip ws)) (EP X pins st Q) X.xe s := by
  obtain ⟨io, m, ps, qs, S, hp, hq, h⟩ := h
  obtain ⟨l, r, h2⟩ := permK_post hp hq (Post.of_bnd h)
  exact (W.fn k (W.out k _ _ _ h2)).callK W.gd (W.rm.mono (Nat.le_succ _)) (W.kb k ks pm hkw) I rl rz ⟨io, m, l, S, r, h2⟩
end
end LC

/-! # LcL: isinstance, repr, types, methods of lists -/
namespace LC
open PySem PySem.Spec PyProof.Rows L2
theorem kitB_six : (["NoneType", "bool", "int", "str", "tuple", "list"].all fun a => ["int", "bool", "str", "tuple", "list", "dict"].all fun b => kitB a b == some (tyIs a b)) = true := by decide +kernel
theorem kit_ty6 {K : PySem.W.Frag} {a b : String} (ha : a ∈ ["NoneType", "bool", "int", "str", "tuple", "list"]) (hb : knownTy b = true) : PySem.W.kitOne K (.type a) (.type b) = some (tyIs a b) := by
  refine kit_ty (beq_iff_eq.mp (List.all_eq_true.mp (List.all_eq_true.mp kitB_six a ha) b ?_))
  unfold knownTy at hb
  simp only [Bool.or_eq_true, beq_iff_eq] at hb
  simp only [List.mem_cons, List.not_mem_nil, or_false]
  rcases hb with ((((h | h) | h) | h) | h) | h <;> simp [h]
theorem py_noDict : ∀ (d : D) (a : PyData), d.py = some a → a.hasDict = false
  | .non, a, e => by cases e; rfl
  | .bl b, a, e => by cases e; rfl
  | .int i, a, e => by cases e; rfl
  | .str s, a, e => by cases e; rfl
  | .tup xs, a, e => by
    unfold D.py at e
    cases z : D.pys xs with
    | none => rw [z] at e; cases e
    | some l => rw [z] at e; cases e; simpa [PyData.hasDict] using py_noDicts xs l z
  | .lst xs, a, e => by
    unfold D.py at e
    cases z : D.pys xs with
    | none => rw [z] at e; cases e
    | some l => rw [z] at e; cases e; simpa [PyData.hasDict] using py_noDicts xs l z
  | .scr _, a, e => by cases e
  | .ref _, a, e => by cases e
  | .glb _, a, e => by cases e
  | .ty _, a, e => by cases e
where py_noDicts : ∀ (ds : List D) (l : List PyData), D.pys ds = some l → PyData.hasDictAll l = false
  | [], l, e => by cases e; rfl
  | d :: ds, l, e => by
    unfold D.pys at e
    cases z : D.py d with
    | none => rw [z] at e; cases e
    | some x =>
      cases z2 : D.pys ds with
      | none => rw [z, z2] at e; cases e
      | some r =>
        rw [z, z2] at e
        cases e
        simp only [PyData.hasDictAll, py_noDict d x z, py_noDicts ds r z2, Bool.or_self]

section
variable {X : Cx} {P : Phi} {T : Nat → DefAt} {ca : Str → Addr} {kws : List (Nat × List Str × List Nat)} {n L : Nat}
/-- the built-in type of a value -/
theorem ty_rep {io : Pl} {m : Sto} {H : Hp} {d : D} {v : V} {t : String} (S : SRel X.K X.mg io m H) (hv : RepV X.K X.mg io m.length H d v) (e : tyOf m d = some t) : TyX X.K H v (.type t) ∧ t ∈ ["NoneType", "bool", "int", "str", "tuple", "list"] := by
  unfold tyOf at e
  split at e
  · rename_i z
    have z := nref z (fun _ z => nomatch z) (fun _ z => nomatch z)
    subst z; cases e; subst hv; exact ⟨.base .non, by simp⟩
  · rename_i z
    have z := nref z (fun _ z => nomatch z) (fun _ z => nomatch z)
    subst z; cases e; subst hv; exact ⟨.base (.bl _), by simp⟩
  · rename_i z
    have z := nref z (fun _ z => nomatch z) (fun _ z => nomatch z)
    subst z; cases e; subst hv; exact ⟨.base (.int _), by simp⟩
  · rename_i z
    have z := nref z (fun _ z => nomatch z) (fun _ z => nomatch z)
    subst z; cases e; subst hv; exact ⟨.base (.str _), by simp⟩
  · rename_i z
    rw [top_tup z] at hv
    cases e
    obtain ⟨a, vs, rfl, q, r⟩ := hv
    refine ⟨?_, by simp⟩
    rcases q with (q | ⟨o, q⟩) | ⟨o, its, k, q, hc, _⟩
    · exact .base (.tup q)
    · exact .fTuple q
    · exact .kTuple q hc
  · rename_i z
    cases e
    obtain ⟨a, vs, rfl, q, r⟩ := topLst S hv z
    exact ⟨.base (.lst q), by simp⟩
  · rename_i z
    rw [top_scr z] at hv
    cases e
    obtain ⟨a, rfl, q⟩ := hv
    refine ⟨?_, by simp⟩
    rcases q with ⟨o, q⟩ | ⟨o, its, k, q, hc, _⟩
    · exact .base (.frz q)
    · exact .kList q hc
  · cases e
theorem cb_isinst (W : Wd X P T ca kws n L) : CallR X (.builtin "isinstance") (rCB X.K X.mg (bIsinst P)) := by
  intro pins s st H xs us Q I r ⟨io, m, ps, S, hp, h⟩
  unfold bIsinst at h
  split at h <;> first | exact h.elim | skip
  rename_i d c
  obtain ⟨v, u, rfl, hv, hu⟩ := rep2 hp
  obtain ⟨b, eb, h⟩ := bOut_post h
  have fin : ∀ {t w : Value}, ClsV u w → TyX X.K H v t → PySem.W.kitOne X.K t w = some b → wpAny (model X.prog X.w) X.A (PySem.call (.builtin "isinstance") us) (EP X pins st Q) X.xe s := fun {t w} k ty e =>
    call_isi pins s st H _ us Q I r ⟨v, u, t, w, b, rfl, k, ty, e, WV.here h S rfl⟩
  unfold isInst1 at eb
  split at eb
  · rename_i ty
    cases (show u = .ty ty from hu)
    split at eb <;> first | cases eb | skip
    rename_i hk
    split at eb
    · rename_i j
      split at eb
      · rename_i C fs e
        split at eb <;> first | cases eb | skip
        rename_i hc
        obtain ⟨c, ec⟩ := Option.isSome_iff_exists.mp hc
        obtain ⟨Ca, dx, fvs, rfl, h0, ea, rf⟩ := ins_at S hv e
        have A := W.top.one C c ec
        cases A.same h0
        exact fin (.ty ty) (.base (.ins ea A.cls A.kc A.kg A.kt A.ko)) (W.top.kt C c ty ec hk)
      · rename_i zs e
        cases eb
        obtain ⟨hn, rfl⟩ := hv
        obtain ⟨vs, h1, _⟩ := S.ob j _ e
        exact fin (.ty ty) (.base (.lst h1)) (kit_ty6 (by simp) hk)
      · cases eb
    · cases et : tyOf m d with
      | none => rw [et] at eb; cases eb
      | some t =>
        rw [et] at eb
        cases eb
        obtain ⟨h1, h2⟩ := ty_rep S hv et
        exact fin (.ty ty) h1 (kit_ty6 h2 hk)
  · rename_i C
    split at eb <;> first | cases eb | skip
    rename_i hc
    obtain ⟨c, ec⟩ := Option.isSome_iff_exists.mp hc
    have A := W.top.one C c ec
    obtain ⟨a, h0, rfl⟩ := (show ∃ a, X.mg C = some (.ref a) ∧ u = .ref a from hu)
    cases A.same h0
    split at eb
    · rename_i j
      split at eb
      · rename_i C' fs e
        split at eb <;> first | cases eb | skip
        rename_i hc'
        obtain ⟨c', ec'⟩ := Option.isSome_iff_exists.mp hc'
        obtain ⟨Ca, dx, fvs, rfl, h0', ea, rf⟩ := ins_at S hv e
        have A' := W.top.one C' c' ec'
        cases A'.same h0'
        exact fin (.own _) (.base (.ins ea A'.cls A'.kc A'.kg A'.kt A'.ko)) (W.top.kk C' c' C c ec' ec)
      · rename_i zs e
        cases eb
        obtain ⟨hn, rfl⟩ := hv
        obtain ⟨vs, h1, _⟩ := S.ob j _ e
        exact fin (.own _) (.base (.lst h1)) (W.top.tk C c "list" ec (by simp))
      · cases eb
    · cases et : tyOf m d with
      | none => rw [et] at eb; cases eb
      | some t =>
        rw [et] at eb
        cases eb
        obtain ⟨h1, h2⟩ := ty_rep S hv et
        exact fin (.own _) h1 (W.top.tk C c t ec h2)
  · cases eb

theorem cb_repr (W : Wd X P T ca kws n L) : CallR X (.builtin "repr") (rCB X.K X.mg (bRep P)) := by
  intro pins s st H xs us Q I r ⟨io, m, ps, S, hp, h⟩
  unfold bRep at h
  split at h <;> first | exact h.elim | skip
  rename_i d
  obtain ⟨v, rfl, hv⟩ := rep1 hp
  obtain ⟨u, rfl, ru⟩ := vals1 r
  unfold bRepr at h
  split at h
  · rename_i a ea
    split at h <;> first | exact h.elim | skip
    rename_i hs
    unfold showOk at hs
    simp only [Bool.and_eq_true, decide_eq_true_eq] at hs
    obtain ⟨⟨h1, h2⟩, h3⟩ := hs
    rw [lim] at h3
    have q : Q (.str a.shown) H := WV.here h S rfl
    have dp := dp_top S hv ea
    have big : ∀ b, u = .ref b → wpAny (model X.prog X.w) X.A (PySem.call (.builtin "repr") [u]) (EP X pins st Q) X.xe s := fun b eb => by
      subst eb
      obtain ⟨as, rd⟩ := Dp.reads I a v _ dp ru
      have un := W.rm.un
      refine repr_of_reads' rd h1 (PyData.noDict_hsm (py_noDict _ a ea)) W.gd (by omega) (fun _ _ e => e) (fun h' t tk hk => ?_) h3
      exact ⟨.str a.shown, H, I.kept hk, ⟨_, rfl⟩, q⟩
    cases dp with
    | non =>
      cases ru
      exact PySem.P.repr_of_none ⟨.str "None", H, I.tok _, ⟨_, rfl⟩, q⟩
    | bl b =>
      cases ru
      exact PySem.P.repr_of_bool ⟨.str (if b then "True" else "False"), H, I.tok _, ⟨_, rfl⟩, q⟩
    | int i =>
      obtain ⟨t, rfl⟩ := ru
      exact PySem.P.repr_of_int (of_decide_eq_true h1) ⟨.str (toString i), H, I.tok _, ⟨_, rfl⟩, q⟩
    | str x =>
      obtain ⟨t, rfl⟩ := ru
      exact PySem.P.repr_of_str ⟨.str (reprText x), H, I.tok _, ⟨_, rfl⟩, q⟩ h3
    | lst _ _ => exact big _ ru
    | tup _ _ => exact big _ ru
  · split at h <;> first | exact h.elim | skip
    rename_i j _
    split at h <;> first | exact h.elim | skip
    rename_i C fs e
    split at h <;> first | exact h.elim | skip
    rename_i c ec
    split at h <;> first | exact h.elim | skip
    rename_i k ek
    split at h <;> first | exact h.elim | skip
    rename_i hf
    obtain ⟨Ca, dx, fvs, rfl, h0, ea, rf⟩ := ins_at S hv e
    have A := W.top.one C c ec
    cases A.same h0
    cases (show u = Value.ref _ from ru)
    obtain ⟨mA, O, _⟩ := ins_get I.hok ea
    obtain ⟨od, J, _⟩ := O.look
    obtain ⟨mf, F⟩ := I.fr
    have hr : rCB X.K X.mg (P.call k) [.ref (io j)] H (fun v H' => ∃ z, v = .str z ∧ Q (.str z) H') := ⟨io, m, [.ref j], S, ⟨_, _, rfl, hv, rfl⟩, (Post.of_bnd h).mono fun d' m' h' io' H' v' e' S' r' => by
      split at h'
      · rename_i z
        exact ⟨z, r', (show WV X.K X.mg io m H Q (.str z) m' from h') io' H' (.str z) e' S' rfl⟩
      · exact h'.elim⟩
    have hk := rCB.lt W hr
    have un := W.rm.units
    have b := W.bd k hk s [.ref (io j)] I.kIn ((W.fn k hk).len _ _ _ E0 hr)
    rw [List.append_nil] at b
    refine PySem.W.repr_K (by show X.A.units + 1 < cLine; omega) F I.ok.mod.kin J (A.met _ k ek).at_ (A.met _ k ek).fn (wpAny_call (codeAny_mono ((W.fn k hk).go X.A.in1 X.stack s H ⟨[.ref (io j)], []⟩ [.ref (io j)] [.ref (io j)] _ W.gd W.rm.in1 I.env0.in1 b (.cons rfl .nil) hr) fun res s' zz => ?_))
    obtain ⟨u', rfl, v, H', I3, rv, z, rfl, q3⟩ := CR.ends I zz
    obtain ⟨t, rfl⟩ := rv
    exact ⟨.str z, H', I3, ⟨t, rfl⟩, q3⟩

theorem ct_int : CallR X (.type "int") (rCB X.K X.mg tInt) := by
  intro pins s st H xs us Q I r ⟨io, m, ps, S, hp, h⟩
  unfold tInt at h
  split at h <;> first | exact h.elim | skip
  · rename_i i
    obtain ⟨v, rfl, hv⟩ := rep1 hp
    subst hv
    exact call_int1 pins s st H _ us Q I r (.inl ⟨i, rfl, WV.here h S rfl⟩)
  · rename_i i
    obtain ⟨v, rfl, hv⟩ := rep1 hp
    subst hv
    exact call_int1 pins s st H _ us Q I r (.inr ⟨i, rfl, WV.here h S rfl⟩)
  · rename_i z
    obtain ⟨v, rfl, hv⟩ := rep1 hp
    subst hv
    split at h <;> first | exact h.elim | skip
    rename_i k ek
    split at h <;> first | exact h.elim | skip
    rename_i hz
    exact call_int_str pins s st H _ us Q I r ⟨z, k, rfl, ek, of_decide_eq_true hz, WV.here h S rfl⟩
theorem ct_str : CallR X (.type "str") (rCB X.K X.mg tStr) := by
  intro pins s st H xs us Q I r ⟨io, m, ps, S, hp, h⟩
  unfold tStr at h
  split at h <;> first | exact h.elim | skip
  rename_i i
  obtain ⟨v, rfl, hv⟩ := rep1 hp
  subst hv
  split at h <;> first | exact h.elim | skip
  rename_i hz
  exact call_str_int pins s st H _ us Q I r ⟨i, rfl, of_decide_eq_true hz, WV.here h S rfl⟩
theorem ct_bool : CallR X (.type "bool") (rCB X.K X.mg tBool) := by
  intro pins s st H xs us Q I r ⟨io, m, ps, S, hp, h⟩
  unfold tBool at h
  split at h <;> first | exact h.elim | skip
  · rename_i i
    obtain ⟨v, rfl, hv⟩ := rep1 hp
    subst hv
    exact call_bool1 pins s st H _ us Q I r (.inl ⟨i, rfl, WV.here h S rfl⟩)
  · rename_i i
    obtain ⟨v, rfl, hv⟩ := rep1 hp
    subst hv
    exact call_bool1 pins s st H _ us Q I r (.inr ⟨i, rfl, WV.here h S rfl⟩)
theorem ct_tuple : CallR X (.type "tuple") (rCB X.K X.mg tTuple) := by
  intro pins s st H xs us Q I r ⟨io, m, ps, S, hp, h⟩
  unfold tTuple at h
  split at h <;> first | exact h.elim | skip
  rename_i d
  obtain ⟨v, rfl, hv⟩ := rep1 hp
  split at h <;> first | exact h.elim | skip
  · rename_i ys e
    obtain ⟨a, vs, rfl, q1, r1⟩ := topLst S hv e
    exact call_tuple_of pins s st H _ us Q I r ⟨a, vs, rfl, .inl ⟨SqL.of q1, fun l hl => WV.frozen h S hl (repTup S hl r1)⟩⟩
  · rename_i ys e
    rw [top_tup e] at hv
    obtain ⟨a, vs, rfl, q1, r1⟩ := hv
    exact call_tuple_of pins s st H _ us Q I r ⟨a, vs, rfl, .inr ⟨q1, WV.here h S ⟨a, vs, rfl, q1, r1⟩⟩⟩
theorem ct_list {mu : Bool} : CallR X (.type "list") (rCB X.K X.mg (tList mu)) := by
  intro pins s st H xs us Q I r ⟨io, m, ps, S, hp, h⟩
  unfold tList at h
  split at h <;> first | exact h.elim | skip
  rename_i d
  obtain ⟨v, rfl, hv⟩ := rep1 hp
  split at h <;> first | exact h.elim | skip
  · rename_i ys e
    obtain ⟨a, vs, rfl, q1, r1⟩ := topLst S hv e
    exact call_list_of pins s st H _ us Q I r ⟨a, vs, rfl, .inl (SqL.of q1), fun l hl => Post.lst h S hl r1⟩
  · rename_i ys e
    rw [top_tup e] at hv
    obtain ⟨a, vs, rfl, q1, r1⟩ := hv
    exact call_list_of pins s st H _ us Q I r ⟨a, vs, rfl, .inr q1, fun l hl => Post.lst h S hl r1⟩

def rMB (K : PySem.W.Frag) (mg : Str → Option Value) (f : D → List D → M D) : V → List V → Hp → VK → Prop := fun x xs H Q => ∃ io m p ps, SRel K mg io m H ∧ RepV K mg io m.length H p x ∧ RepVs K mg io m.length H ps xs ∧ Post (f p ps m) (WV K mg io m H Q)
theorem mr_append : MtR X "list.append" (rMB X.K X.mg mAppend) := by
  intro pins s st H x xs v us Q I rx r ⟨io, m, p, ps, S, hx, hp, h⟩
  unfold mAppend at h
  split at h <;> first | exact h.elim | skip
  rename_i j d
  split at h <;> first | exact h.elim | skip
  rename_i zs e
  split at h <;> first | exact h.elim | skip
  rename_i hz
  obtain ⟨hj, rfl⟩ := hx
  obtain ⟨w, rfl, hw⟩ := rep1 hp
  obtain ⟨vs, h1, r1⟩ := S.ob j _ e
  refine mt_append pins s st H _ _ v us Q I rx r ⟨io j, vs, w, rfl, rfl, h1, by rw [← lim, ← r1.length]; exact of_decide_eq_true hz, ?_⟩
  have x := Ext.write (u := .lst (vs ++ [w])) S hj
  refine (show WV X.K X.mg io m H Q .non (m.set j (.lst (zs ++ [d]))) from h) io _ .non (by rw [List.length_set]; exact x) (S.write hj ⟨_, upd_same, ?_⟩) rfl
  exact (r1.append hp).keep S x
theorem mr_extend : MtR X "list.extend" (rMB X.K X.mg mExtend) := by
  intro pins s st H x xs v us Q I rx r ⟨io, m, p, ps, S, hx, hp, h⟩
  unfold mExtend at h
  split at h <;> first | exact h.elim | skip
  rename_i j d
  split at h <;> first | exact h.elim | skip
  rename_i zs ys e e2
  split at h <;> first | exact h.elim | skip
  rename_i hz
  obtain ⟨hj, rfl⟩ := hx
  obtain ⟨w, rfl, hw⟩ := rep1 hp
  obtain ⟨vs, h1, r1⟩ := S.ob j _ e
  obtain ⟨b, ws, rfl, h2, r2⟩ := topLst S hw e2
  refine mt_extend pins s st H _ _ v us Q I rx r ⟨io j, b, vs, ws, rfl, rfl, h1, h2, by rw [← lim, ← r1.length, ← r2.length]; exact of_decide_eq_true hz, ?_⟩
  have x := Ext.write (u := .lst (vs ++ ws)) S hj
  refine (show WV X.K X.mg io m H Q .non (m.set j (.lst (zs ++ ys))) from h) io _ .non (by rw [List.length_set]; exact x) (S.write hj ⟨_, upd_same, ?_⟩) rfl
  exact (r1.append r2).keep S x
/-- o.m(e, ..), m a method of lists -/
theorem se_bm {name : Str} {id : String} {g : D → List D → M D} {o a : Expr} {es : List Expr} {ma : Env → M D} {ml : Env → M (List D)} {apos pos : Pos} (slot : Slot "list" name id) (hty : typeOf (.builtin id) = pure (.type "method_descriptor")) (hm : MtR X id (rMB X.K X.mg g))
    (ha : PE X o (tM X.K X.mg ma)) (hn : nsup o = true) (hline : (apos.endLine == pos.line) = true) (hs : (a :: es).all nst = true) (hlt : decide ((a :: es).length < 29) = true) (hl : PA X (a :: es) (tL X.K X.mg ml)) :
    PE X (.Call (.Attribute o name apos) (a :: es) [] pos) (tM X.K X.mg fun r => bnd (ma r) fun p => bnd (preL p) fun _ => bnd (ml r) fun as => g p as) := by
  have hs' := hs
  rw [List.all_cons, Bool.and_eq_true] at hs'
  refine PE.mono (pe_bm PySem.F.plainAttrs_list slot hty hm ha hl (base_nsup hn) (by
      have := of_decide_eq_true hlt
      rw [nst_all hs]
      show (true && true && decide ((a :: es).length + 0 + 0 < 30)) = true
      simp only [Bool.true_and, decide_eq_true_eq]
      omega) hline (each_nst hs'.1) (nst_none hs'.2)) fun st H Q ⟨io, r, m, s, h⟩ => tM.bind s h fun io1 H1 m1 p x e1 s1 r1 h1 => ?_
  have h1 := Post.of_bnd h1
  unfold preL at h1
  split at h1 <;> first | exact h1.elim | skip
  rename_i j _
  split at h1 <;> first | exact h1.elim | skip
  rename_i zs e
  have r1' := r1
  obtain ⟨hj, rfl⟩ := r1'
  obtain ⟨vs, h3, _⟩ := s1.s.ob j _ e
  refine ⟨.inl ⟨rfl, vs, SqL.of h3⟩, ?_⟩
  exact tL.bind s1 (show Post (bnd (ml r) (fun as => g (.ref j) as) m1) _ from h1) fun io2 H2 m2 q y e2 s2 r2 h2 => ⟨io2, m2, .ref j, q, s2.s, r1.keep s1.s e2, r2, WVpost.from (e1.trans e2) h2⟩
end
end LC

/-! # OwA: == and != of instances with an own __eq__ -/
namespace LC
open PySem PySem.Spec PyProof.Rows L2 Sem Builtin PySem.SeqAt
open AutoSeq1 (wpAny_loadPart')
open MeetsSeq MeetsSeq2 MeetsSeq3 SeqRoads2
theorem on_slot : Slot "object" "__ne__" "object.__ne__" :=
  Slot.of (owner := "object") (n := "__ne__") (by rw [typeLookup_type, builtinLookup_eq_fast]; kernel_rfl) (by decide +kernel) (by decide +kernel) (by decide +kernel) (.inl (by decide +kernel)) (by rw [isSubtype_type]; kernel_rfl)
section
variable {prog : Program} {w : World} {A : Around} {E : Value → Shared → Prop} {s : Shared} {K : PySem.W.Frag} {x C f : Addr} {ox : Obj} {od : Option Obj} {b : Value}
/-- != by object's own -/
theorem ne_bound {Q : Option Value → Shared → Prop} (hu : A.in1.units < cLine) (X : K.In s.heap) (I : PySem.W.InstAt s.heap x ox C od) (hn : PySem.W.findIn K (.ref C) "__ne__" = some (some (.builtin "object.__ne__")))
    (hm : PySem.W.mroIn K C (.type "object") = some true) (he : PySem.W.findIn K (.ref C) "__eq__" = some (some (.ref f))) (hf : PySem.W.isFn K (.ref f) = true)
    (h : wpAny (model prog w) A.in1 (call (.ref f) [.ref x, b]) (fun v s' => ∃ k, v = .bool k ∧ Q (some (.bool (!k))) s') E s) :
    wpAny (model prog w) A (callSpecialIfBound? (.ref x) "__ne__" [b]) Q E s := by
  have body : wpAny (model prog w) A (call (.builtin "object.__ne__") [.ref x, b]) (fun v s' => Q (some v) s') E s := by
    refine wpAny_call (codeAny_call_builtin on_slot.plain F.cmpEntry_ne (PySem.W.check_slot F.cmpKind_ne F.cmpSplit_ne (I.type.andThen (PySem.W.looks_mroIn X hm)) (F.cmpArgs_ne _ _) ?_))
    unfold Builtin.«object.__ne__»
    repeat (first
      | with_reducible refine wpAny_cRoomFor hu ?_
      | (refine wpAny_bind (m := callSpecialIfBound? (.ref x) (Str.ofString "__eq__") [b])
          (PySem.W.ifBound_K X I he hf (wpAny_mono h (fun r s' hr => by
            obtain ⟨k, rfl, hq⟩ := hr
            repeat (first | exact hq | exact wpAny_pure hq | exact wpAny_truthy_bool hq | (refine wpAny_bind (m := truthy (.bool _)) (wpAny_truthy_bool ?_)) | wp_step)) fun _ _ e => e)))
      | wp_step)
  simp only [callSpecialIfBound?, bindSpecialIfBound?]
  refine wpAny_holding (wpAny_bind (wpAny_bind (wpAny_bind (I.type.here ((PySem.W.looks_findIn X hn).here ?_)))))
  refine wpAny_bind (wpAny_askSetting (wpAny_ite ?_))
  have fin : wpAny (model prog w) A (call (.builtin "object.__ne__") ([.ref x] ++ [b]) >>= fun v => Pure.pure (some v)) Q E s := wpAny_bind (wpAny_mono body (fun v s' h' => wpAny_pure h') fun _ _ h' => h')
  split
  · exact wpAny_bind (wpAny_of_eq (on_slot.bind _) (wpAny_pure (by exact fin)))
  · exact wpAny_tryCatch (wpAny_bind (wpAny_of_eq (on_slot.bind _) (wpAny_pure (by exact fin))))

theorem cmp_ne_K {Q : Value → Shared → Prop} {tb : Value} (hu0 : A.units < cLine) (hu : A.in1.units < cLine) (X : K.In s.heap) (I : PySem.W.InstAt s.heap x ox C od)
    (hb : PySem.W.Looks (model prog w) s.heap (typeOf b) tb) (hnf : PySem.W.notFirst K C tb = true)
    (hn : PySem.W.findIn K (.ref C) "__ne__" = some (some (.builtin "object.__ne__"))) (hm : PySem.W.mroIn K C (.type "object") = some true) (he : PySem.W.findIn K (.ref C) "__eq__" = some (some (.ref f))) (hf : PySem.W.isFn K (.ref f) = true)
    (h : wpAny (model prog w) A.in1 (call (.ref f) [.ref x, b]) (fun v s' => ∃ k, v = .bool k ∧ Q (.bool (!k)) s') E s) : wpAny (model prog w) A (richCompare .NotEq (.ref x) b) Q E s := by
  have one : wpAny (model prog w) A (tryCompare (.ref x) "__ne__" b) (fun r s' => ∃ v, r = some v ∧ Q v s') E s := by
    unfold tryCompare
    refine wpAny_bind (ne_bound hu X I hn hm he hf (wpAny_mono h (fun v s' hv => ?_) fun _ _ e => e))
    obtain ⟨k, rfl, hq⟩ := hv
    exact ⟨k, rfl, wpAny_pure ⟨_, rfl, hq⟩⟩
  unfold richCompare
  simp only [oneThing_ref]
  refine wpAny_holding (wpAny_bind (wpAny_cRoomFor hu0 ?_))
  refine wpAny_bind (I.type.here (wpAny_bind (hb.here ?_)))
  split
  · rename_i q
    have e : PySem.W.subIn K tb (.ref C) = some false := by
      rcases Bool.or_eq_true_iff.mp hnf with e | e
      · rw [beq_iff_eq.mp e] at q; simp at q
      · exact beq_iff_eq.mp e
    refine wpAny_bind ((PySem.W.looks_subIn X e).here ?_)
    simp only [Bool.false_eq_true, if_false]
    refine wpAny_bind (wpAny_mono one (fun r s' z => ?_) fun _ _ e => e)
    obtain ⟨v, rfl, hq⟩ := z
    exact wpAny_pure hq
  · refine wpAny_bind (wpAny_pure ?_)
    simp only [Bool.false_eq_true, if_false]
    refine wpAny_bind (wpAny_mono one (fun r s' z => ?_) fun _ _ e => e)
    obtain ⟨v, rfl, hq⟩ := z
    exact wpAny_pure hq
/-- v == x, where v's own type declines -/
theorem cmp_refl_K {Q : Value → Shared → Prop} {T id : String} (hu0 : A.units < cLine) (X : K.In s.heap) (I : PySem.W.InstAt s.heap x ox C od)
    (ht : s.TypeIs b T) (ho : ∀ M : Model, True → oneThing? .Eq b (.ref x) = none) (hsub : PySem.W.mroIn K C (.type T) = some false) (sl : Slot T (cmpInfo .Eq).2.1 id)
    (dec : ∀ Q' : Value → Shared → Prop, Q' .notImplemented s → wpAny (model prog w) A (call (.builtin id) [b, .ref x]) Q' E s)
    (he : PySem.W.findIn K (.ref C) "__eq__" = some (some (.ref f))) (hf : PySem.W.isFn K (.ref f) = true)
    (h : wpAny (model prog w) A (call (.ref f) [.ref x, b]) (fun v s' => ∃ k, v = .bool k ∧ Q (.bool k) s') E s) : wpAny (model prog w) A (richCompare .Eq b (.ref x)) Q E s := by
  have one : wpAny (model prog w) A (tryCompare (.ref x) "__eq__" b) (fun r s' => ∃ v, r = some v ∧ Q v s') E s := by
    unfold tryCompare
    refine wpAny_bind (PySem.W.ifBound_K X I he hf (wpAny_mono h (fun v s' hv => ?_) fun _ _ e => e))
    obtain ⟨k, rfl, hq⟩ := hv
    exact wpAny_pure ⟨_, rfl, hq⟩
  unfold richCompare
  rw [ho (model prog w) trivial]
  refine wpAny_holding (wpAny_bind (wpAny_cRoomFor hu0 ?_))
  refine wpAny_bind (wpAny_typeOf ht (wpAny_bind (I.type.here ?_)))
  have ne : (Value.type T != Value.ref C) = true := by simp
  simp only [ne, if_true]
  refine wpAny_bind ((PySem.W.looks_mroIn X hsub).here ?_)
  simp only [Bool.false_eq_true, if_false, Bool.not_false, if_true]
  refine wpAny_bind (wpAny_tryCompare_declines ht sl (dec _ ⟨rfl, ?_⟩))
  refine wpAny_bind (wpAny_mono one (fun r s' z => ?_) fun _ _ e => e)
  obtain ⟨v, rfl, hq⟩ := z
  exact wpAny_pure hq
end
end LC

namespace LC
open PySem PySem.Spec PyProof.Rows L2 Sem Builtin PySem.SeqAt
open AutoSeq1 (wpAny_loadPart')
open MeetsSeq MeetsSeq2 MeetsSeq3 SeqRoads2
theorem int_dec (b : Int) (u : Tok) (x C dx : Addr) :
    Meets (Builtin.«int.__eq__» ⟨[.int b u, .ref x], []⟩) (fun _ R s => s.heap.get? x = some (PySem.W.instObj C dx) ∧ R (.ok (.ret .notImplemented)) s) :=
  .of_wp fun prog w A R s h => by obtain ⟨hp, g, d, tk, os⟩ := s; obtain ⟨hl, h⟩ := h; wp_walk using wpAny_loadPart' hl, wpAny_load hl; exact ⟨_, rfl, h⟩
theorem bool_dec (b : Bool) (x C dx : Addr) :
    Meets (Builtin.«int.__eq__» ⟨[.bool b, .ref x], []⟩) (fun _ R s => s.heap.get? x = some (PySem.W.instObj C dx) ∧ R (.ok (.ret .notImplemented)) s) :=
  .of_wp fun prog w A R s h => by obtain ⟨hp, g, d, tk, os⟩ := s; obtain ⟨hl, h⟩ := h; wp_walk using wpAny_loadPart' hl, wpAny_load hl; exact ⟨_, rfl, h⟩
theorem str_dec (b : Str) (u : Tok) (x C dx : Addr) :
    Meets (Builtin.«str.__eq__» ⟨[.str b u, .ref x], []⟩) (fun _ R s => s.heap.get? x = some (PySem.W.instObj C dx) ∧ R (.ok (.ret .notImplemented)) s) :=
  .of_wp fun prog w A R s h => by obtain ⟨hp, g, d, tk, os⟩ := s; obtain ⟨hl, h⟩ := h; wp_walk using wpAny_loadPart' hl, wpAny_load hl; exact ⟨_, rfl, h⟩
section
variable {prog : Program} {w : World} {A : Around} {E : Value → Shared → Prop} {s : Shared} {x l : Addr} {Q : Value → Shared → Prop}
theorem tup_dec (hT : s.TypeIs (.ref l) "tuple") (hi : ∀ (A : Around) (Q : Bool → Shared → Prop) (E : Value → Shared → Prop), Q false s → wpAny (model prog w) A (isInstance (.ref x) (.type "tuple")) Q E s) (hq : Q .notImplemented s) :
    wpAny (model prog w) A (PySem.call (.builtin "tuple.__eq__") [.ref l, .ref x]) Q E s := by
  refine wpAny_call (codeAny_call_builtin F.slot_tuple_eq.plain F.entry_tuple_eq (F.slot_tuple_eq.check _ _ _ _ _ _ _ _ hT (F.args_tuple_eq_2 _ _) ?_))
  obtain ⟨hp, g, d, tk, os⟩ := s
  wp_walk using hi
  exact hq
theorem lst_dec (hT : s.TypeIs (.ref l) "list") (hi : ∀ (A : Around) (Q : Bool → Shared → Prop) (E : Value → Shared → Prop), Q false s → wpAny (model prog w) A (isInstance (.ref x) (.type "list")) Q E s) (hq : Q .notImplemented s) :
    wpAny (model prog w) A (PySem.call (.builtin "list.__eq__") [.ref l, .ref x]) Q E s := by
  refine wpAny_call (codeAny_call_builtin F.slot_list_eq.plain F.entry_list_eq (F.slot_list_eq.check _ _ _ _ _ _ _ _ hT (F.args_list_eq_2 _ _) ?_))
  obtain ⟨hp, g, d, tk, os⟩ := s
  wp_walk using hi
  exact hq
end
end LC

/-! # OwC: own ==, own !=, bool of an instance, as rules of the small language -/
namespace LC
open PySem PySem.Spec PyProof.Rows L2
theorem eqOf_some {P : Phi} {m : Sto} {d : D} {C : Str} {k : Nat} (h : eqOf P m d = some (C, k)) : ∃ j fs c, d = .ref j ∧ m[j]? = some (.ins C fs) ∧ P.cl C = some c ∧ c.meths.lookup ("__eq__" : Str) = some k := by
  unfold eqOf at h
  split at h <;> first | cases h | skip
  rename_i j
  split at h <;> first | cases h | skip
  rename_i C' fs e
  split at h <;> first | cases h | skip
  rename_i c ec
  obtain ⟨k', e', e2⟩ := Option.map_eq_some_iff.mp h
  cases e2
  exact ⟨j, fs, c, rfl, e, ec, e'⟩
theorem insOf_some {m : Sto} {d : D} {C : Str} (h : insOf m d = some C) : ∃ j fs, d = .ref j ∧ m[j]? = some (.ins C fs) := by
  unfold insOf at h
  split at h <;> first | cases h | skip
  rename_i j
  split at h <;> first | cases h | skip
  rename_i C' fs e
  exact ⟨j, fs, rfl, e⟩
theorem subB {K : PySem.W.Frag} {Ca : Addr} {a : String} (h : a ∈ ["NoneType", "bool", "int", "str", "tuple", "list"]) : PySem.W.subIn K (.type a) (.ref Ca) = some false := by
  have mro6 : (["NoneType", "bool", "int", "str", "tuple", "list"].all fun a => (PySem.fastBuiltinMro a).isSome && ((PySem.fastBuiltinMro a).getD []).all fun v => match v with | .type _ => true | _ => false) = true := by decide +kernel
  have z := List.all_eq_true.mp mro6 a h
  rw [Bool.and_eq_true] at z
  obtain ⟨l, e⟩ := Option.isSome_iff_exists.mp z.1
  show (PySem.fastBuiltinMro a).map (fun l => l.contains (.ref Ca)) = some false
  have z2 := z.2
  rw [e] at z2 ⊢
  show some (l.contains (.ref Ca)) = some false
  congr 1
  cases q : l.contains (Value.ref Ca) with
  | false => rfl
  | true =>
    have m : Value.ref Ca ∈ l := by simpa using q
    have := List.all_eq_true.mp z2 _ m
    cases this
theorem notB_post {ne : Bool} {d : D} {m : Sto} {F : D → Sto → Prop} (h : Post (notB ne d m) F) : ∃ b, d = .bl b ∧ F (.bl (b != ne)) m := by
  cases d with
  | bl b => exact ⟨b, rfl, h⟩
  | _ => exact h.elim
section
variable {X : Cx} {P : Phi} {T : Nat → DefAt} {ca : Str → Addr} {kws : List (Nat × List Str × List Nat)} {n L : Nat} {a b : Expr} {ma mb : Env → M D} {pos np : Pos}
/-- its own __eq__ called, at the line or one deeper -/
theorem run_eq (W : Wd X P T ca kws n L) {k : Nat} {u1 u2 : Value} {v1 v2 : V} {p1 p2 : D} {io : Pl} {m : Sto} {H : Hp} {s : Shared} {pins : List (Addr × Obj)} {st : L2.St} {ne : Bool} {Q : VK} (I : L2.Inv X pins st H s) (S : SRel X.K X.mg io m H)
    (ru1 : RelV v1 u1) (ru2 : RelV v2 u2) (rv1 : RepV X.K X.mg io m.length H p1 v1) (rv2 : RepV X.K X.mg io m.length H p2 v2) (h : Post (bnd (P.call k [p1, p2]) (notB ne) m) (WV X.K X.mg io m H Q)) :
    wpAny (model X.prog X.w) X.A (PySem.call (.ref (T k).ad) [u1, u2]) (fun v s' => ∃ b, v = .bool b ∧ EP X pins st Q (.bool (b != ne)) s') X.xe s ∧
    wpAny (model X.prog X.w) X.A.in1 (PySem.call (.ref (T k).ad) [u1, u2]) (fun v s' => ∃ b, v = .bool b ∧ EP X pins st Q (.bool (b != ne)) s') X.xe s := by
  have hr : rCB X.K X.mg (P.call k) [v1, v2] H (fun v H' => ∃ z, v = .bl z ∧ Q (.bl (z != ne)) H') := ⟨io, m, [p1, p2], S, ⟨_, _, rfl, rv1, _, _, rfl, rv2, rfl⟩, (Post.of_bnd h).mono fun d' m' h' io' H' v' e' S' r' => by
    obtain ⟨z, rfl, hz⟩ := notB_post h'
    exact ⟨z, r', hz io' H' (.bl (z != ne)) e' S' rfl⟩⟩
  have hk := rCB.lt W hr
  have bd := W.bd k hk s [u1, u2] I.kIn ((W.fn k hk).len _ _ _ E0 hr)
  rw [List.append_nil] at bd
  refine ⟨wpAny_mono (W.call0 (us := [u1, u2]) (vs := [v1, v2]) hk I (.cons ru1 (.cons ru2 .nil)) hr) (fun w s' z => ?_) fun _ _ x => x, wpAny_call (codeAny_mono ((W.fn k hk).go X.A.in1 X.stack s H ⟨[u1, u2], []⟩ [u1, u2] [v1, v2] _ W.gd W.rm.in1 I.env0.in1 bd (.cons ru1 (.cons ru2 .nil)) hr) fun res s' zz => ?_)⟩
  · obtain ⟨v, H', I3, rv, z, rfl, q3⟩ := z
    exact ⟨z, rv, .bl (z != ne), H', I3, rfl, q3⟩
  · obtain ⟨u', rfl, v, H', I3, rv, z, rfl, q3⟩ := CR.ends I zz
    exact ⟨z, rv, .bl (z != ne), H', I3, rfl, q3⟩
theorem tyOf_ref {m : Sto} {j : Nat} {C : Str} {fs : List (Str × D)} (e : m[j]? = some (.ins C fs)) : tyOf m (.ref j) = none := by
  unfold tyOf top
  simp only [topR]
  rw [e]
theorem op_own (W : Wd X P T ca kws n L) {ne : Bool} : OpR X (compareOp (if ne then .NotEq else .Eq)) (rOp X.K X.mg (opOwn P ne)) := by
  refine rOp.of fun pins s st H x y v u Q io m p q I rx ry S hp hq h => ?_
  unfold opOwn at h
  split at h
  · rename_i C k eo
    obtain ⟨j, fs, c, rfl, ej, ec, ek⟩ := eqOf_some eo
    split at h <;> first | exact h.elim | skip
    rename_i hy
    obtain ⟨Ca, dx, fvs, rfl, h0, ea, rf⟩ := ins_at S hp ej
    have A := W.top.one C c ec
    cases A.same h0
    cases (show v = Value.ref _ from rx)
    obtain ⟨mA, O, _⟩ := ins_get I.hok ea
    obtain ⟨od, J, _⟩ := O.look
    have hp' := hp
    have run := run_eq W I S rx ry hp hq h
    have un := W.rm.units
    have tb : ∃ tb, PySem.W.Looks (model X.prog X.w) s.heap (typeOf u) tb ∧ PySem.W.notFirst X.K (ca C) tb = true := by
      cases et : tyOf m q with
      | some t =>
        obtain ⟨h1, h2⟩ := ty_rep S hq et
        obtain ⟨Pd, kx, hP, _⟩ := kit_of I ry h1
        exact ⟨_, kx.ty _ _ I.kIn hP, by unfold PySem.W.notFirst; rw [subB h2]; simp⟩
      | none =>
        rw [et] at hy
        have hy : insOf m q = some C := by simpa using hy
        obtain ⟨j2, fs2, rfl, ej2⟩ := insOf_some hy
        obtain ⟨Ca2, dx2, fvs2, rfl, h02, ea2, rf2⟩ := ins_at S hq ej2
        cases A.same h02
        cases (show u = Value.ref _ from ry)
        obtain ⟨mA2, O2, _⟩ := ins_get I.hok ea2
        obtain ⟨od2, J2, _⟩ := O2.look
        exact ⟨_, J2.type, by simp [PySem.W.notFirst]⟩
    obtain ⟨tb, hb, hnf⟩ := tb
    obtain ⟨mf, F⟩ := I.fr
    cases ne with
    | false =>
      refine PySem.W.cmp_K (op := .Eq) (tb := tb) (by omega) F I.ok.mod.kin J hb hnf (A.met _ k ek).at_ (A.met _ k ek).fn (wpAny_mono run.1 (fun w s' z => ?_) fun _ _ x => x)
      obtain ⟨z, rfl, hz⟩ := z
      exact (show EP X pins st Q (.bool z) s' from by simpa using hz)
    | true =>
      refine cmp_ne_K (tb := tb) (by omega) (by show X.A.units + 1 < cLine; omega) I.kIn J hb hnf A.kn A.ko (A.met _ k ek).at_ (A.met _ k ek).fn (wpAny_mono run.2 (fun w s' z => ?_) fun _ _ x => x)
      obtain ⟨z, rfl, hz⟩ := z
      exact ⟨z, rfl, by simpa using hz⟩
  · rename_i eo
    split at h
    · rename_i C k eo2
      obtain ⟨j, fs, c, rfl, ej, ec, ek⟩ := eqOf_some eo2
      split at h <;> first | exact h.elim | skip
      rename_i hy
      simp only [Bool.and_eq_true, Bool.not_eq_true'] at hy
      obtain ⟨rfl, hy⟩ := hy
      obtain ⟨t, et⟩ := Option.isSome_iff_exists.mp hy
      obtain ⟨Ca, dx, fvs, rfl, h0, ea, rf⟩ := ins_at S hq ej
      have A := W.top.one C c ec
      cases A.same h0
      cases (show u = Value.ref _ from ry)
      obtain ⟨mA, O, _⟩ := ins_get I.hok ea
      obtain ⟨od, J, _⟩ := O.look
      have run := (run_eq W I S ry rx hq hp h).1
      have un := W.rm.units
      have run : wpAny (model X.prog X.w) X.A (PySem.call (.ref (T k).ad) [.ref (io j), v]) (fun w s' => ∃ z, w = .bool z ∧ EP X pins st Q (.bool z) s') X.xe s := wpAny_mono run (fun w s' z => by
        obtain ⟨z, rfl, hz⟩ := z
        exact ⟨z, rfl, by simpa using hz⟩) fun _ _ x => x
      obtain ⟨h1, h2⟩ := ty_rep S hp et
      have ix : ∀ T2 ∈ ["NoneType", "bool", "int", "str", "tuple", "list"], ∀ (A' : Around) (Q : Bool → Shared → Prop) (E : Value → Shared → Prop), Q false s → wpAny (model X.prog X.w) A' (isInstance (.ref (io j)) (.type T2)) Q E s := fun T2 hT A' Q E q => (show PySem.W.Looks (model X.prog X.w) s.heap (isInstance (.ref (io j)) (.type T2)) false from J.type.andThen (PySem.W.looks_mroIn I.kIn (A.nt T2 hT))).here q
      have go : ∀ {T2 id : String}, T2 ∈ ["NoneType", "bool", "int", "str", "tuple", "list"] → s.TypeIs v T2 → (oneThing? .Eq v (.ref (io j)) = none) → Slot T2 (cmpInfo .Eq).2.1 id → (∀ Q' : Value → Shared → Prop, Q' .notImplemented s → wpAny (model X.prog X.w) X.A (PySem.call (.builtin id) [v, .ref (io j)]) Q' X.xe s) →
          wpAny (model X.prog X.w) X.A (compareOp .Eq v (.ref (io j))) (EP X pins st Q) X.xe s := fun hT ht ho sl dec =>
        cmp_refl_K (by omega) I.kIn J ht (fun _ _ => ho) (A.nt _ hT) sl dec (A.met _ k ek).at_ (A.met _ k ek).fn run
      have tup : ∀ l, v = .ref l → s.TypeIs (.ref l) "tuple" → wpAny (model X.prog X.w) X.A (compareOp .Eq v (.ref (io j))) (EP X pins st Q) X.xe s := fun l e hT => by
        subst e
        exact go (by simp) hT (oneThing_ref ..) F.slot_tuple_eq fun Q' hq' => tup_dec hT (ix "tuple" (by simp)) hq'
      have lst : ∀ l, v = .ref l → s.TypeIs (.ref l) "list" → wpAny (model X.prog X.w) X.A (compareOp .Eq v (.ref (io j))) (EP X pins st Q) X.xe s := fun l e hT => by
        subst e
        exact go (by simp) hT (oneThing_ref ..) F.slot_list_eq fun Q' hq' => lst_dec hT (ix "list" (by simp)) hq'
      cases h1 with
      | base b =>
        cases b with
        | non =>
          cases (show v = Value.none from rx)
          exact go (by simp) rfl rfl F.slot_NoneType_eq fun Q' hq' => call_gives F.slot_NoneType_eq rfl F.entry_NoneType_eq (F.args_NoneType_eq_2 _ _) (PySem.SeqAt.NoneType___eq___none_ref_0 _) hq'
        | bl y =>
          cases (show v = Value.bool y from rx)
          exact go (by simp) rfl rfl F.slot_bool_eq fun Q' hq' => call_meets F.slot_bool_eq rfl F.entry_int_eq (F.args_int_eq_2 _ _) (bool_dec y _ _ _) ⟨J.at_, hq'⟩
        | int i =>
          obtain ⟨t, q⟩ := (show ∃ t, v = Value.int i t from rx)
          cases q
          exact go (by simp) (typeIs_int s i t) rfl F.slot_int_eq fun Q' hq' => call_meets F.slot_int_eq (typeIs_int s i t) F.entry_int_eq (F.args_int_eq_2 _ _) (int_dec i t _ _ _) ⟨J.at_, hq'⟩
        | str y =>
          obtain ⟨t, q⟩ := (show ∃ t, v = Value.str y t from rx)
          cases q
          exact go (by simp) (typeIs_str s y t) rfl F.slot_str_eq fun Q' hq' => call_meets F.slot_str_eq (typeIs_str s y t) F.entry_str_eq (F.args_str_eq_2 _ _) (str_dec y t _ _ _) ⟨J.at_, hq'⟩
        | flt y => simp at h2
        | @lst a xs ea =>
          obtain ⟨_, _, n, _, h1⟩ := (show ObjOk X.prog X.w H s.heap a (.lst xs) from I.hok a _ ea)
          exact lst a rx ⟨_, h1, rfl⟩
        | @frz a ob xs ea =>
          obtain ⟨_, _, _, n, _, h1⟩ := (show ObjOk X.prog X.w H s.heap a (.frz ob (.lst xs)) from I.hok a _ ea)
          exact lst a rx ⟨_, h1, rfl⟩
        | @tup a xs ea =>
          obtain ⟨_, _, _, o, h1, h2, _⟩ := (show ObjOk X.prog X.w H s.heap a (.tup xs) from I.hok a _ ea)
          exact tup a rx ⟨o, h1, h2⟩
        | dK _ => simp at h2
        | dT _ => simp at h2
      | byt y => simp at h2
      | set _ => simp at h2
      | @kList a o e c => exact lst a rx ⟨o, I.kIn a o e, c⟩
      | @kTuple a o e c => exact tup a rx ⟨o, I.kIn a o e, c⟩
      | kDict _ _ => simp at h2
      | @fTuple a ob xs ea =>
        obtain ⟨_, _, _, _, o, h1, h2, _⟩ := (show ObjOk X.prog X.w H s.heap a (.frz ob (.tup xs)) from I.hok a _ ea)
        exact tup a rx ⟨o, h1, h2⟩
      | fDict _ => simp at h2
    · cases ne with
      | false => exact op_cmp W.rm.units pins s st H x y v u Q I rx ry ⟨io, m, p, q, S, hp, hq, h⟩
      | true => exact op_cmp W.rm.units pins s st H x y v u Q I rx ry ⟨io, m, p, q, S, hp, hq, h⟩

theorem meets_bool_ins {K : PySem.W.Frag} {x C : Addr} {ox : Obj} {od : Option Obj} (hs : PySem.W.findIn K (.ref C) "__bool__" = some none) (hl : PySem.W.findIn K (.ref C) "__len__" = some none) :
    Meets (Builtin.«bool.__new__» ⟨[.type "bool", .ref x], []⟩) (fun _ R s => (K.In s.heap ∧ PySem.W.InstAt s.heap x ox C od) ∧ R (.ok (.ret (.bool true))) s) :=
  Meets.of_wp fun prog w A R s hs' => by
    obtain ⟨⟨hK, J⟩, hs'⟩ := hs'
    obtain ⟨hp, g, d, tk, os⟩ := s
    have f1 := F.conv_sub_bool
    have tr : ∀ {M : Model} {A : Around} {E : Value → Shared → Prop} {Q : Bool → Shared → Prop}, Q true ⟨hp, g, d, tk, os⟩ → wpAny M A (truthy (.ref x)) Q E ⟨hp, g, d, tk, os⟩ := fun {M A E Q} h => by
      unfold truthy
      refine wpAny_bind (m := callSpecial? (.ref x) (Str.ofString "__bool__")) (wpAny_bind (wpAny_bind (J.type.here ((PySem.W.looks_findIn hK hs).here (wpAny_pure ?_)))))
      refine wpAny_bind (wpAny_bind (J.type.here ((PySem.W.looks_findIn hK hl).here ?_)))
      exact wpAny_pure h
    repeat (any_goals (first | assumption | (with_reducible refine tr ?_) | wp_step))
    all_goals first | exact ⟨_, rfl, hs'⟩ | exact hs' | skip
theorem ct_bo (W : Wd X P T ca kws n L) : CallR X (.type "bool") (rCB X.K X.mg (tBo P)) := by
  intro pins s st H xs us Q I r ⟨io, m, ps, S, hp, h⟩
  unfold tBo at h
  split at h <;> first | exact h.elim | skip
  rename_i d
  obtain ⟨v, rfl, hv⟩ := rep1 hp
  obtain ⟨u, rfl, ru⟩ := vals1 r
  unfold opBo at h
  split at h <;> first | exact h.elim | skip
  rename_i j
  split at h <;> first | exact h.elim | skip
  rename_i C fs e
  split at h <;> first | exact h.elim | skip
  rename_i c ec
  split at h <;> first | exact h.elim | skip
  rename_i hf
  rw [Bool.and_eq_true] at hf
  obtain ⟨Ca, dx, fvs, rfl, h0, ea, rf⟩ := ins_at S hv e
  have A := W.top.one C c ec
  cases A.same h0
  cases (show u = Value.ref _ from ru)
  obtain ⟨mA, O, _⟩ := ins_get I.hok ea
  obtain ⟨od, J, _⟩ := O.look
  exact call_bool_1 (meets_bool_ins (A.fld _ hf.1) (A.fld _ hf.2)) ⟨⟨I.kIn, J⟩, (show wants (fun obj s₁ => s₁.TypeIs obj "bool" ∧ EP X pins st Q obj s₁) X.xe (.ok (.ret (.bool true))) s from ⟨rfl, .bl true, H, I, rfl, WV.here h S rfl⟩)⟩
theorem se_bo {es : List Expr} {ml : Env → M (List D)} (W : Wd X P T ca kws n L) (hg : Gl X "bool") (hm : X.mg "bool" = none) (hs : (a :: es).all nst = true) (hl : PA X (a :: es) (tL X.K X.mg ml)) :
    PE X (.Call (.Name "bool" np) (a :: es) [] pos) (tM X.K X.mg fun r => bnd (ml r) (tBo P)) := by
  have hs' := hs
  rw [List.all_cons, Bool.and_eq_true] at hs'
  exact PE.mono (pe_callTy (ct_bo W) hg hm (by decide +kernel) hl (by decide) (by decide) (each_nst hs'.1) (nst_none hs'.2)) fun st H Q ⟨io, r, m, s, h⟩ => many s h
theorem se_eo (W : Wd X P T ca kws n L) {ne : Bool} (hm : behindInMarks (if ne then CmpOp.NotEq else CmpOp.Eq) b = false) (ha : PE X a (tM X.K X.mg ma)) (hb : PE X b (tM X.K X.mg mb)) : PE X (.Compare a [if ne then CmpOp.NotEq else CmpOp.Eq] [b] pos) (tM X.K X.mg fun r => bnd (ma r) fun p => bnd (mb r) fun q => opOwn P ne p q) :=
  PE.mono (pe_cmpR (op_own W) ha hb hm) fun st H Q ⟨io, r, m, s, h⟩ => two s h
theorem st_te (W : Wd X P T ca kws n L) {ne : Bool} (hm : behindInMarks (if ne then CmpOp.NotEq else CmpOp.Eq) b = false) (ha : PE X a (tM X.K X.mg ma)) (hb : PE X b (tM X.K X.mg mb)) : PT X (.Compare a [if ne then CmpOp.NotEq else CmpOp.Eq] [b] pos) (tT X.K X.mg fun r => bnd (ma r) fun p => bnd (mb r) fun q => bnd (opOwn P ne p q) asB) :=
  PT.mono (pt_cmpR (op_own W) ha hb hm) fun st H Q ⟨io, r, m, s, h⟩ =>
    tM.bind s h fun io1 H1 m1 p x e1 s1 r1 h1 => tM.bind s1 h1 fun io2 H2 m2 q y e2 s2 r2 h2 => rOp.mk s2.s (r1.keep s1.s e2) r2 <| (Post.of_bnd h2).mono fun d m3 h3 io3 H3 v e3 S3 r3 => by
      obtain ⟨k, rfl, h4⟩ := asB_post h3
      exact ⟨k, repBl r3, h4 io3 H3 ((e1.trans e2).trans e3) S3⟩
end
end LC

/-! # LcM: targets, what is walked, loops -/
namespace LC
open PySem PySem.Spec PyProof.Rows L2
theorem PG.mono {X : Cx} {e : Expr} {t t' : TG} (h : PG X e t) (k : ∀ v st H Q, t' v st H Q → t v st H Q) : PG X e t' := ⟨fun pins s st H v u Q I r q => h.run pins s st H v u Q I r (k _ _ _ _ q)⟩
theorem PGs.mono {X : Cx} {e : List Expr} {t t' : TGs} (h : PGs X e t) (k : ∀ v st H Q, t' v st H Q → t v st H Q) : PGs X e t' := ⟨fun pins s st H v u Q I r q => h.run pins s st H v u Q I r (k _ _ _ _ q)⟩
theorem PI.mono {X : Cx} {tg e : Expr} {t t' : TI} (h : PI X tg e t) (k : ∀ st H R, t' st H R → t st H R) : PI X tg e t' := ⟨fun pins s st H R I q => h.run pins s st H R I (k _ _ _ q)⟩
/-- a target that is no starred one -/
theorem stores_nst {e : Expr} {es : List Expr} {env : PySem.Env} (h : nst e = true) : assignEach (e :: es) env = (false, assign e env) :: assignEach es env := by
  cases e <;> first | rfl | cases h
theorem stores_len : ∀ {es : List Expr} {env : PySem.Env}, es.all nst = true → (assignEach es env).length = es.length ∧ (assignEach es env).findIdx? (·.1) = none
  | [], _, _ => ⟨rfl, rfl⟩
  | e :: es, env, h => by
    rw [List.all_cons, Bool.and_eq_true] at h
    obtain ⟨h1, h2⟩ := stores_len (env := env) h.2
    rw [stores_nst h.1]
    refine ⟨by rw [List.length_cons, List.length_cons, h1], ?_⟩
    rw [List.findIdx?_cons, h2]
    rfl
section
variable {X : Cx} {a b o : Expr} {es : List Expr} {ma mb : Env → M D} {pos : Pos}
theorem sg_var {k : Nat} {x : Str} (hN : X.N.Nodup) (hi : X.N[k]? = some x) (hx : Loc X.env.scope x) (hf : X.fn x = true ∨ X.env.scope.names.lookup x = some .local) : PG X (.Name x pos) (tG X.K X.mg (fun d r => LC.ret (r.set k (some d))) [k]) :=
  PG.mono (pg_name hN hi hx hf) fun v st H Q ⟨io, r, m, d, s, hv, h⟩ => (Post.of_ret h) io (st.set k (some v)) H LC.Ext.refl s.s (s.e.set hv) ⟨by rw [List.length_set], fun j hj => List.getElem?_set_ne (fun e => hj (by rw [e]; exact List.mem_singleton.mpr rfl))⟩
theorem sgs_nil : PGs X [] (tGs X.K X.mg (fun ds r => match ds with | [] => LC.ret r | _ => LC.bad) []) :=
  PGs.mono pgs_nil fun vs st H Q ⟨io, r, m, ds, s, hv, h⟩ => by
    cases ds with
    | nil => exact ⟨hv, (Post.of_ret h) io st H LC.Ext.refl s.s s.e Off.refl⟩
    | cons d ds => exact (show False from h).elim
theorem sgs_cons {g : D → Env → M Env} {gs : List D → Env → M Env} {w ws : List Nat} (hn : nst a = true) (ha : PG X a (tG X.K X.mg g w)) (hl : PGs X es (tGs X.K X.mg gs ws)) :
    PGs X (a :: es) (tGs X.K X.mg (fun ds r => match ds with | d :: ds => bnd (g d r) (fun r' => gs ds r') | [] => LC.bad) (w ++ ws)) :=
  PGs.mono (pgs_cons ha hl (by rw [stores_nst hn] <;> rfl)) fun vs st H Q ⟨io, r, m, ds, s, hv, h⟩ => by
    cases ds with
    | nil => exact (show False from h).elim
    | cons d ds =>
      obtain ⟨v, vr, rfl, h1, h2⟩ := hv
      refine ⟨v, vr, rfl, io, r, m, d, s, h1, (Post.of_bnd h).mono fun r2 m2 q io2 st2 H2 e2 S2 re2 w2 => ?_⟩
      refine ⟨io2, r2, m2, ds, ⟨S2, re2⟩, h2.keep s.s e2, q.mono fun r3 m3 q3 io3 st3 H3 e3 S3 re3 w3 => q3 io3 st3 H3 (e2.trans e3) S3 re3 ⟨w3.1.trans w2.1, fun k hk => ?_⟩⟩
      rw [List.mem_append, not_or] at hk
      rw [w3.2 k hk.2, w2.2 k hk.1]
theorem sg_tup {gs : List D → Env → M Env} {ws : List Nat} {j : Nat} (hc : X.calm = true) (hn : es.all nst = true) (hl : PGs X es (tGs X.K X.mg gs ws)) (hlen : ∀ ds r m F, Post (gs ds r m) F → ds.length = es.length) :
    PG X (.Tuple es j pos) (tG X.K X.mg (fun d r => match d with | .tup xs => gs xs r | _ => LC.bad) ws) := by
  obtain ⟨h1, h2⟩ := stores_len (env := X.env) hn
  refine PG.mono (pg_tup hc hl h1 h2) fun v st H Q ⟨io, r, m, d, s, hv, h⟩ => ?_
  cases d with
  | tup xs =>
    obtain ⟨c, vs, rfl, q1, rv⟩ := hv
    exact ⟨c, vs, rfl, q1, by rw [← rv.length]; exact hlen _ _ _ _ h, io, r, m, xs, s, rv, h⟩
  | _ => exact (show False from h).elim
def rSet (K : PySem.W.Frag) (mg : Str → Option Value) (f : D → D → D → M Unit) : TSet := fun o i v H Q => ∃ io m po pi pv, SRel K mg io m H ∧ RepV K mg io m.length H po o ∧ RepV K mg io m.length H pi i ∧ RepV K mg io m.length H pv v ∧
  Post (f po pi pv m) fun _ m' => ∀ H', LC.Ext io m.length H io m'.length H' → SRel K mg io m' H' → Q H'
theorem set_any : PSet X (rSet X.K X.mg opSet) := fun pins s st H o i v ov iv u Q I ro ri rv ⟨io, m, po, pi, pv, S, h1, h2, h3, h⟩ => set_rule pins s st H o i v ov iv u Q io m po pi pv I ro ri rv S h1 h2 h3 h
theorem sg_sub (hs : nsl b = true) (ha : PE X a (tM X.K X.mg ma)) (hb : PE X b (tM X.K X.mg mb)) : PG X (.Subscript a b pos) (tG X.K X.mg (fun d r => bnd (ma r) fun p => bnd (mb r) fun q => bnd (opSet p q d) fun _ => LC.ret r) []) :=
  PG.mono (pg_sub ha hb set_any (fun v => by cases b <;> first | rfl | cases hs)) fun v st H Q ⟨io, r, m, d, s, hv, h⟩ =>
    tM.bind s h fun io1 H1 m1 p x e1 s1 r1 h1 => tM.bind s1 h1 fun io2 H2 m2 q y e2 s2 r2 h2 =>
      ⟨io2, m2, p, q, d, s2.s, r1.keep s1.s e2, r2, (hv.keep s.s e1).keep s1.s e2, (Post.of_bnd h2).mono fun _ m3 h3 H3 e3 S3 => (Post.of_ret h3) io2 st H3 ((e1.trans e2).trans e3) S3 (s2.e.keep s2.s e3) Off.refl⟩
/-- o.f = v -/
theorem sg_at {P : Phi} {T : Nat → DefAt} {ca : Str → Addr} {kws : List (Nat × List Str × List Nat)} {n L : Nat} {f : Str} (W : Wd X P T ca kws n L) (ha : PE X a (tM X.K X.mg ma)) : PG X (.Attribute a f pos) (tG X.K X.mg (fun d r => bnd (ma r) fun p => bnd (opFld P f p d) fun _ => LC.ret r) []) := by
  refine ⟨fun pins s st H v u Q I rv ⟨io, r, m, d, s0, hv, h⟩ => ?_⟩
  rw [assign_Attribute]
  refine wpAny_bind (wpAny_holding (thn (ha.run pins s st H (fun x H1 => ∃ io1 m1 p, LC.Ext io m.length H io1 m1.length H1 ∧ S0 X.K X.mg io1 r m1 st H1 ∧ RepV X.K X.mg io1 m1.length H1 p x ∧ Post (bnd (opFld P f p d) (fun _ => LC.ret r) m1) (WE X.K X.mg io m H st [] Q)) I
    (tM.bind s0 h fun io1 H1 m1 p x e1 s1 r1 h1 => ⟨io1, m1, p, e1, s1, r1, h1⟩)) fun ov s1 ⟨x, H1, I1, rx, io1, m1, p, e1, s2, r1, h1⟩ => ?_))
  have h1 := Post.of_bnd h1
  unfold opFld at h1
  split at h1 <;> first | exact h1.elim | skip
  rename_i j _
  split at h1 <;> first | exact h1.elim | skip
  rename_i C fs e
  split at h1 <;> first | exact h1.elim | skip
  rename_i c ec
  split at h1 <;> first | exact h1.elim | skip
  rename_i hf
  rw [Bool.and_eq_true] at hf
  obtain ⟨Ca, dx, fvs, rfl, h0, ea, rf⟩ := ins_at s2.s r1 e
  have A := W.top.one C c ec
  cases A.same h0
  cases (show ov = Value.ref _ from rx)
  have hv1 := hv.keep s0.s e1
  have hj : j < m1.length := (List.getElem?_eq_some_iff.mp e).1
  refine wpAny_bind (wpAny_standAt (wpAny_bind (wpAny_holding (setattr_ok I1 ea A.cls (A.fld f hf.1) (by rw [← rf.length]; exact of_decide_eq_true hf.2) rv fun s3 I3 => wpAny_release ?_))))
  have x := LC.Ext.write (u := .ins (ca C) dx (L2.putF f v fvs)) s2.s hj
  have S3 : SRel X.K X.mg io1 (m1.set j (.ins C (putF f d fs))) (upd H1 (io1 j) (.ins (ca C) dx (L2.putF f v fvs))) := s2.s.write hj ⟨ca C, dx, _, h0, upd_same, RepF.put (hv1.keep s2.s x) (rf.keep s2.s x)⟩
  have h1 : WE X.K X.mg io m H st [] Q r (m1.set j (.ins C (putF f d fs))) := h1
  have x' : LC.Ext io1 m1.length H1 io1 (m1.set j (.ins C (putF f d fs))).length (upd H1 (io1 j) (.ins (ca C) dx (L2.putF f v fvs))) := by rw [List.length_set]; exact x
  exact ⟨st, _, I3, h1 io1 st _ (e1.trans x') S3 (s2.e.keep s2.s x') Off.refl⟩
end

/-! ### what is walked -/
/-- the iterator J goes as the source tells -/
def SrcOk (K : PySem.W.Frag) (mg : Str → Option Value) (io : Pl) (m : Sto) (H : Hp) (J : It) : Src → Prop
  | .fix ds => ∀ io' (m' : Sto) H', ExtW io m.length H io' m'.length H' → SRel K mg io' m' H' → (∀ i, i < ds.length → J.go i H') ∧ J.stop ds.length H' ∧
      ∀ i x H'', i < ds.length → J.yld i H' x H'' → ∃ d, ds[i]? = some d ∧ LC.Ext io' m'.length H' io' m'.length H'' ∧ SRel K mg io' m' H'' ∧ RepV K mg io' m'.length H'' d x
  | .live n => ∀ io' (m' : Sto) H' xs, ExtW io m.length H io' m'.length H' → SRel K mg io' m' H' → m'[n]? = some (.lst xs) → (∀ i, i < xs.length → J.go i H') ∧ (∀ i, xs.length ≤ i → J.stop i H') ∧
      ∀ i x H'', i < xs.length → J.yld i H' x H'' → ∃ d, xs[i]? = some d ∧ LC.Ext io' m'.length H' io' m'.length H'' ∧ SRel K mg io' m' H'' ∧ RepV K mg io' m'.length H'' d x
def tQ (K : PySem.W.Frag) (mg : Str → Option Value) (q : Env → M Src) : TI := fun st H R => ∃ io r m, S0 K mg io r m st H ∧ Post (q r m) fun src m1 => ∀ io' H' J, LC.Ext io m.length H io' m1.length H' → SRel K mg io' m1 H' → SrcOk K mg io' m1 H' J src → R J H'
section
variable {K : PySem.W.Frag} {mg : Str → Option Value} {io : Pl} {m : Sto} {H : Hp} {J : It}
theorem SrcOk.fixV {ds : List D} {vs : List V} {G : Hp → Prop} (S : SRel K mg io m H) (hl : RepVs K mg io m.length H ds vs) (w : Walk J vs.length G (YAt vs)) (hG : ∀ io' N' H', ExtW io m.length H io' N' H' → G H') : SrcOk K mg io m H J (.fix ds) := by
  intro io' m' H' x S'
  have g := hG io' _ H' x
  rw [hl.length]
  refine ⟨fun i hi => w.goes i H' hi g, w.stops H' g, fun i y H'' hi hy => ?_⟩
  obtain ⟨rfl, e⟩ := w.yields i H' y H'' hi g hy
  obtain ⟨d, e1, r1⟩ := (RepVs.keepW S x _ _ hl).getV e
  exact ⟨d, e1, LC.Ext.refl, S', r1⟩
theorem SrcOk.fixP {ds es : List D} {vs us : List V} {n : Nat} {G : Hp → Prop} (S : SRel K mg io m H) (hl : RepVs K mg io m.length H ds vs) (hr : RepVs K mg io m.length H es us) (hn : n = min vs.length us.length) (w : Walk J n G (YPair (fun i => vs[i]?) (fun i => us[i]?)))
    (hG : ∀ io' N' H', ExtW io m.length H io' N' H' → G H') : SrcOk K mg io m H J (.fix ((ds.zip es).map fun p => .tup [p.1, p.2])) := by
  intro io' m' H' x S'
  have g := hG io' _ H' x
  have hlen : ((ds.zip es).map fun p => D.tup [p.1, p.2]).length = n := by rw [List.length_map, List.length_zip, hl.length, hr.length, hn]
  rw [hlen]
  refine ⟨fun i hi => w.goes i H' hi g, w.stops H' g, fun i y H'' hi hy => ?_⟩
  obtain ⟨T, a, b, rfl, h1, rfl, h2, h3⟩ := w.yields i H' y H'' hi g hy
  obtain ⟨d, e1, r1⟩ := (RepVs.keepW S x _ _ hl).getV h2
  obtain ⟨e, e2, r2⟩ := (RepVs.keepW S x _ _ hr).getV h3
  refine ⟨.tup [d, e], ?_, LC.Ext.new h1, S'.new h1, T, [a, b], rfl, .inl (.inl upd_same), ?_⟩
  · rw [List.getElem?_map, show (ds.zip es)[i]? = some (d, e) from List.getElem?_zip_eq_some.mpr ⟨e1, e2⟩]
    rfl
  · exact ⟨a, [b], rfl, r1.keep S' (LC.Ext.new h1), b, [], rfl, r2.keep S' (LC.Ext.new h1), rfl⟩
theorem SrcOk.range {lo : Int} {n : Nat} {ds : List D} (e : ds = (List.range n).map fun k => .int (lo + (k : Nat))) : SrcOk K mg io m H (Itr lo n) (.fix ds) := by
  intro io' m' H' x S'
  have hl : ds.length = n := by rw [e]; simp
  rw [hl]
  refine ⟨fun i hi => hi, Nat.le_refl _, fun i y H'' hi hy => ?_⟩
  obtain ⟨rfl, rfl⟩ := hy
  refine ⟨.int (lo + i), ?_, LC.Ext.refl, S', rfl⟩
  rw [e, List.getElem?_map, List.getElem?_range hi]
  rfl
theorem SrcOk.str {z : Str} : SrcOk K mg io m H (Its z) (.fix (z.cps.toList.map fun c => .str ⟨#[c]⟩)) := by
  intro io' m' H' x S'
  have hl : (z.cps.toList.map fun c => D.str ⟨#[c]⟩).length = z.cps.size := by simp
  rw [hl]
  refine ⟨fun i hi => hi, Nat.le_refl _, fun i y H'' hi hy => ?_⟩
  obtain ⟨rfl, c, ec, rfl⟩ := hy
  refine ⟨.str ⟨#[c]⟩, ?_, LC.Ext.refl, S', rfl⟩
  rw [List.getElem?_map, Array.getElem?_toList, ec]
  rfl
theorem SrcOk.live {n : Nat} (hn : n < m.length) : SrcOk K mg io m H (Itl K (io n)) (.live n) := by
  intro io' m' H' xs x S' e
  obtain ⟨vs, h1, h2⟩ := S'.ob n _ e
  rw [x.ag n hn] at h1
  have w := walk_list (K := K) (a := io n) (xs := vs)
  have g : SqL K H' (io n) vs := SqL.of h1
  refine ⟨fun i hi => w.goes i H' (by rw [← h2.length]; exact hi) g, fun i hi => ⟨vs, g, by rw [← h2.length]; exact hi⟩, fun i y H'' hi hy => ?_⟩
  obtain ⟨rfl, e1⟩ := w.yields i H' y H'' (by rw [← h2.length]; exact hi) g hy
  obtain ⟨d, e2, r1⟩ := h2.getV e1
  exact ⟨d, e2, LC.Ext.refl, S', r1⟩
end
section
variable {X : Cx} {a b : Expr} {es : List Expr} {ma mb : Env → M D} {ml : Env → M (List D)} {pos np : Pos} {tg : Expr}
/-- a list, a tuple, a text -/
theorem pi_seq {te : TE} (he : PE X a te) : PI X tg a (fun st H R => te st H fun x H1 => (∃ c, x = .ref c ∧ (((∃ xs, SqL X.K H1 c xs) ∧ R (Itl X.K c) H1) ∨ ((∃ xs, SqT X.K H1 c xs) ∧ R (Itt X.K c) H1))) ∨ ∃ z, x = .str z ∧ R (Its z) H1) := by
  refine ⟨fun pins s st H R I h => thn (he.run pins s st H _ I h) fun v s1 ⟨x, H1, I1, r1, q1⟩ => ?_⟩
  rcases q1 with ⟨c, rfl, ⟨⟨xs, hq⟩, q⟩ | ⟨⟨xs, hq⟩, q⟩⟩ | ⟨z, rfl, q⟩
  · cases r1
    obtain ⟨its, rv, pl, _⟩ := I1.list hq
    exact wpAny_pyIter_list pl.isList (pi_one (tk := s1.toks) I1 _ (turn_list c _) ⟨_, Heap.get?_push_size _ rfl, rfl, rfl⟩ q)
  · cases r1
    obtain ⟨its, rv, pl, _⟩ := I1.tuple hq
    exact wpAny_pyIter_tuple (show s1.heap.IsTuple c its.toArray from pl) (pi_one (tk := s1.toks) I1 _ (turn_tuple c _) ⟨_, Heap.get?_push_size _ rfl, rfl, rfl⟩ q)
  · obtain ⟨t, rfl⟩ := r1
    cases hz : z.cps.all (· < 128) with
    | false => exact wpAny_pyIter_wide hz (pi_one (tk := s1.toks) I1 _ (turn_str _ z t "str_iterator" (.inr rfl)) ⟨_, Heap.get?_push_size _ rfl, rfl, rfl⟩ q)
    | true => exact wpAny_pyIter_ascii hz (pi_one (tk := s1.toks) I1 _ (turn_str _ z t "str_ascii_iterator" (.inl rfl)) ⟨_, Heap.get?_push_size _ rfl, rfl, rfl⟩ q)
theorem si_val (ha : PE X a (tM X.K X.mg ma)) : PI X tg a (tQ X.K X.mg fun r => bnd (ma r) srcV) :=
  PI.mono (pi_seq ha) fun st H R ⟨io, r, m, s, h⟩ => tM.bind s h fun io1 H1 m1 p x e1 s1 r1 h1 => by
    unfold srcV at h1
    split at h1 <;> first | exact h1.elim | skip
    · obtain ⟨c, vs, rfl, q, rv⟩ := r1
      exact .inl ⟨c, rfl, .inr ⟨⟨vs, q⟩, h1 io1 H1 _ e1 s1.s (SrcOk.fixV s1.s rv walk_tup fun io' N' H' x => SqT.keepW s1.s x q)⟩⟩
    · obtain ⟨c, vs, rfl, q, nw, rv⟩ := r1
      exact .inl ⟨c, rfl, .inl ⟨⟨vs, SqL.of q⟩, h1 io1 H1 _ e1 s1.s (SrcOk.fixV s1.s rv walk_list fun io' N' H' x => SqL.of (x.kp _ _ q nw))⟩⟩
    · rename_i ns
      obtain ⟨c, rfl, q⟩ := r1
      exact .inl ⟨c, rfl, .inl ⟨⟨_, q.sq⟩, h1 io1 H1 _ e1 s1.s (SrcOk.fixV s1.s (RepVs.ints ns) walk_list fun io' N' H' x => (SqRead.keepW s1.s x q).sq)⟩⟩
    · rename_i z
      exact .inr ⟨z, r1, h1 io1 H1 _ e1 s1.s SrcOk.str⟩
    · rename_i j
      split at h1 <;> first | exact h1.elim | skip
      rename_i zs e
      obtain ⟨hj, rfl⟩ := r1
      obtain ⟨vs, h2, _⟩ := s1.s.ob j _ e
      exact .inl ⟨_, rfl, .inl ⟨⟨vs, SqL.of h2⟩, h1 io1 H1 _ e1 s1.s (SrcOk.live hj)⟩⟩
theorem small62_of {i : Int} (h : small62 i = true) : -(2 ^ 62) ≤ i ∧ i < 2 ^ 62 := of_decide_eq_true h
theorem si_range1 (hg : Gl X "range") (hm : X.mg "range" = none) (hn : nst a = true) (hl : PA X [a] (tL X.K X.mg ml)) (h1 : ∀ r m ds m', ml r m = .ok ds m' → ds.length = 1) : PI X tg (.Call (.Name "range" np) [a] [] pos) (tQ X.K X.mg fun r => bnd (ml r) srcR) :=
  PI.mono (pi_range1 hg hm hl (each_nst hn)) fun st H R ⟨io, r, m, s, h⟩ => by
    cases e : ml r m with
    | bad => have h := Post.of_bnd h; rw [e] at h; exact h.elim
    | exc C fs m' => have h := Post.of_bnd h; rw [e] at h; exact h.elim
    | ok ds0 m0 =>
      have hlen := h1 r m ds0 m0 e
      refine ⟨io, r, m, s, ?_⟩
      replace h := Post.of_bnd h
      rw [e] at h ⊢
      intro io1 H1 vs e1 S1 rv
      replace h : Post (srcR ds0 m0) _ := h
      unfold srcR at h
      split at h <;> first | exact h.elim | skip
      · rename_i j
        split at h <;> first | exact h.elim | skip
        rename_i hj
        obtain ⟨q1, q2⟩ := small62_of hj
        obtain ⟨v, rfl, hv⟩ := rep1 rv
        cases (show v = .int j from hv)
        exact ⟨j, rfl, q1, q2, h io1 H1 _ e1 S1 (SrcOk.range (by unfold rangeL; rw [Int.sub_zero]))⟩
      · cases hlen
      · cases hlen
theorem si_range2 (hg : Gl X "range") (hm : X.mg "range" = none) (hn : nst a = true) (hn2 : nst b = true) (hl : PA X [a, b] (tL X.K X.mg ml)) (h1 : ∀ r m ds m', ml r m = .ok ds m' → ds.length = 2) : PI X tg (.Call (.Name "range" np) [a, b] [] pos) (tQ X.K X.mg fun r => bnd (ml r) srcR) :=
  PI.mono (pi_range2 hg hm hl (by rw [each_nst hn, each_nst hn2] <;> rfl) (each_nst hn2)) fun st H R ⟨io, r, m, s, h⟩ => by
    cases e : ml r m with
    | bad => have h := Post.of_bnd h; rw [e] at h; exact h.elim
    | exc C fs m' => have h := Post.of_bnd h; rw [e] at h; exact h.elim
    | ok ds0 m0 =>
      have hlen := h1 r m ds0 m0 e
      refine ⟨io, r, m, s, ?_⟩
      replace h := Post.of_bnd h
      rw [e] at h ⊢
      intro io1 H1 vs e1 S1 rv
      replace h : Post (srcR ds0 m0) _ := h
      unfold srcR at h
      split at h <;> first | exact h.elim | skip
      · cases hlen
      · rename_i i j
        split at h <;> first | exact h.elim | skip
        rename_i hj
        rw [Bool.and_eq_true] at hj
        obtain ⟨q1, q2⟩ := small62_of hj.1
        obtain ⟨q3, q4⟩ := small62_of hj.2
        obtain ⟨v, u, rfl, hv, hu⟩ := rep2 rv
        cases (show v = .int i from hv)
        cases (show u = .int j from hu)
        exact ⟨i, j, rfl, ⟨q1, q2, q3, q4⟩, h io1 H1 _ e1 S1 (SrcOk.range rfl)⟩
      · cases hlen
theorem SrcOk.rangeC {K : PySem.W.Frag} {mg : Str → Option Value} {io : Pl} {m : Sto} {H : Hp} {lo c : Int} {n : Nat} {ds : List D} (e : ds = (List.range n).map fun k => .int (lo + (k : Nat) * c)) : SrcOk K mg io m H (Itc lo c n) (.fix ds) := by
  intro io' m' H' x S'
  have hl : ds.length = n := by rw [e]; simp
  rw [hl]
  refine ⟨fun i hi => hi, Nat.le_refl _, fun i y H'' hi hy => ?_⟩
  obtain ⟨rfl, rfl⟩ := hy
  refine ⟨.int (lo + i * c), ?_, LC.Ext.refl, S', rfl⟩
  rw [e, List.getElem?_map, List.getElem?_range hi]
  rfl
theorem si_range3 {c : Expr} (hg : Gl X "range") (hm : X.mg "range" = none) (hn : nst a = true) (hn2 : nst b = true) (hn3 : nst c = true) (hl : PA X [a, b, c] (tL X.K X.mg ml)) (h1 : ∀ r m ds m', ml r m = .ok ds m' → ds.length = 3) : PI X tg (.Call (.Name "range" np) [a, b, c] [] pos) (tQ X.K X.mg fun r => bnd (ml r) srcR) :=
  PI.mono (pi_range3 hg hm hl (each_nst hn) (nst_none (by rw [List.all_cons, List.all_cons, hn2, hn3] <;> rfl))) fun st H R ⟨io, r, m, s, h⟩ => by
    cases e : ml r m with
    | bad => have h := Post.of_bnd h; rw [e] at h; exact h.elim
    | exc C fs m' => have h := Post.of_bnd h; rw [e] at h; exact h.elim
    | ok ds0 m0 =>
      have hlen := h1 r m ds0 m0 e
      refine ⟨io, r, m, s, ?_⟩
      replace h := Post.of_bnd h
      rw [e] at h ⊢
      intro io1 H1 vs e1 S1 rv
      replace h : Post (srcR ds0 m0) _ := h
      unfold srcR at h
      split at h <;> first | exact h.elim | skip
      · cases hlen
      · cases hlen
      · rename_i i j k
        split at h <;> first | exact h.elim | skip
        rename_i hj
        unfold rgOk3 at hj
        rw [Bool.and_eq_true, Bool.and_eq_true, Bool.and_eq_true, decide_eq_true_eq, decide_eq_true_eq, decide_eq_true_eq] at hj
        obtain ⟨⟨⟨q1, q2⟩, q3⟩, q4⟩ := hj
        obtain ⟨v, vt, rfl, hv, ht⟩ := rv
        obtain ⟨u, ut, rfl, hu, ht⟩ := ht
        obtain ⟨w, wt, rfl, hw, ht⟩ := ht
        cases (show wt = [] from ht)
        cases (show v = .int i from hv)
        cases (show u = .int j from hu)
        cases (show w = .int k from hw)
        exact ⟨i, j, k, _, rfl, ⟨q1, q2, q3, by omega⟩, h io1 H1 _ e1 S1 (SrcOk.rangeC rfl)⟩
theorem walk_zipT {K : PySem.W.Frag} {c d : Addr} {xs ys : List V} {n : Nat} (hn : n = min xs.length ys.length) : Walk (RZ.ItzT K c d) n (fun H => SqT K H c xs ∧ SqT K H d ys) (YPair (fun i => xs[i]?) (fun i => ys[i]?)) := by
  subst hn
  refine ⟨fun i _ hi q => ?_, fun _ q => ⟨xs, ys, q.1, q.2, by omega⟩, fun i H v H' _ q y => ?_⟩
  · have h1 : i < xs.length := by omega
    have h2 : i < ys.length := by omega
    exact ⟨xs, ys, xs[i], ys[i], q.1, q.2, by simp [h1], by simp [h2]⟩
  · obtain ⟨T, x, z, h1, h2, h3, h4, h5⟩ := y
    exact ⟨T, x, z, h1, h2, h3, h4 xs q.1, h5 ys q.2⟩
theorem si_zip {elts : List Expr} {kk : Nat} {tpos : Pos} (hg : Gl X "zip") (hm : X.mg "zip" = none) (hn : nst a = true) (hn2 : nst b = true) (hl : PA X [a, b] (tL X.K X.mg ml)) : PI X (.Tuple elts kk tpos) (.Call (.Name "zip" np) [a, b] [] pos) (tQ X.K X.mg fun r => bnd (ml r) srcZ) :=
  PI.mono (RZ.pi_zipA hg hm hl (each_nst hn) (by rw [each_nst hn2] <;> rfl)) fun st H R ⟨io, r, m, s, h⟩ => tL.bind s h fun io1 H1 m1 p x e1 s1 r1 h1 => by
    unfold srcZ at h1
    split at h1 <;> first | exact h1.elim | skip
    · obtain ⟨v, u, rfl, hv, hu⟩ := rep2 r1
      obtain ⟨c, vs, rfl, q, rv⟩ := hv
      obtain ⟨d, us, rfl, q2, ru⟩ := hu
      exact ⟨c, d, vs, us, rfl, .inr ⟨q, q2, h1 io1 H1 _ e1 s1.s (SrcOk.fixP s1.s rv ru rfl (walk_zipT rfl) fun io' N' H' x => ⟨SqT.keepW s1.s x q, SqT.keepW s1.s x q2⟩)⟩⟩
    · obtain ⟨v, u, rfl, hv, hu⟩ := rep2 r1
      obtain ⟨c, vs, rfl, q, nw, rv⟩ := hv
      obtain ⟨d, us, rfl, q2, nw2, ru⟩ := hu
      exact ⟨c, d, vs, us, rfl, .inl ⟨SqL.of q, SqL.of q2, h1 io1 H1 _ e1 s1.s (SrcOk.fixP s1.s rv ru rfl (walk_zip rfl) fun io' N' H' x => ⟨SqL.of (x.kp _ _ q nw), SqL.of (x.kp _ _ q2 nw2)⟩)⟩⟩
end
end LC

/-! # LcN: loops, comprehensions, statements -/
namespace LC
open PySem PySem.Spec PyProof.Rows L2

/-! ### one step of the loops -/
theorem forL_step {body : D → Env → M Flow} {d : D} {ds : List D} {r : Env} {m : Sto} {F : Flow → Sto → Prop} (h : Post (forL body (d :: ds) r m) F) :
    Post (body d r m) fun fl m' => match fl with
      | .nx r' => Post (forL body ds r' m') F
      | .ct r' => Post (forL body ds r' m') F
      | .bk r' => F (.nx r') m'
      | .rt x => F (.rt x) m' := by
  unfold forL at h
  cases e : body d r m with
  | ok fl m' => rw [e] at h; cases fl <;> exact h
  | exc C fs m' => rw [e] at h; exact h.elim
  | bad => rw [e] at h; exact h.elim
theorem forV_step {body : D → Env → M Flow} {n w k : Nat} {r : Env} {m : Sto} {F : Flow → Sto → Prop} (h : Post (forV body n (w + 1) k r m) F) :
    ∃ xs, m[n]? = some (.lst xs) ∧ ((xs[k]? = none ∧ F (.nx r) m) ∨ ∃ d, xs[k]? = some d ∧ Post (body d r m) fun fl m' => match fl with
      | .nx r' => Post (forV body n w (k + 1) r' m') F
      | .ct r' => Post (forV body n w (k + 1) r' m') F
      | .bk r' => F (.nx r') m'
      | .rt x => F (.rt x) m') := by
  unfold forV at h
  split at h <;> first | exact h.elim | skip
  rename_i xs e
  refine ⟨xs, e, ?_⟩
  split at h
  · rename_i e2
    exact .inl ⟨e2, h⟩
  · rename_i d e2
    refine .inr ⟨d, e2, ?_⟩
    cases e3 : body d r m with
    | ok fl m' => rw [e3] at h; cases fl <;> exact h
    | exc C fs m' => rw [e3] at h; exact h.elim
    | bad => rw [e3] at h; exact h.elim
theorem whileM_step {c : Env → M Bool} {body : Env → M Flow} {w : Nat} {r : Env} {m : Sto} {F : Flow → Sto → Prop} (h : Post (whileM c body (w + 1) r m) F) :
    Post (c r m) fun b m' => if b = true then Post (body r m') (fun fl m2 => match fl with
      | .nx r' => Post (whileM c body w r' m2) F
      | .ct r' => Post (whileM c body w r' m2) F
      | .bk r' => F (.nx r') m2
      | .rt x => F (.rt x) m2) else F (.nx r) m' := by
  unfold whileM at h
  cases e : c r m with
  | ok b m' =>
    rw [e] at h
    cases b with
    | false => exact h
    | true =>
      show Post (body r m') _
      cases e3 : body r m' with
      | ok fl m2 => simp only [e3] at h; cases fl <;> exact h
      | exc C fs m2 => simp only [e3] at h; exact h.elim
      | bad => simp only [e3] at h; exact h.elim
  | exc C fs m' => rw [e] at h; exact h.elim
  | bad => rw [e] at h; exact h.elim

section
variable {K : PySem.W.Frag} {mg : Str → Option Value} {io io' : Pl} {m m' : Sto} {H H' : Hp}
/-- a body's end, seen by the loop around it -/
theorem WF.loop {io0 : Pl} {m0 : Sto} {H0 : Hp} {Ds : Ends} {N : L2.St → Hp → Prop} {fl : Flow} {m2 : Sto} {G : Env → Sto → Prop} (x : LC.Ext io0 m0.length H0 io m.length H)
    (h : match fl with
      | .nx r' => G r' m2
      | .ct r' => G r' m2
      | .bk r' => WF K mg io0 m0 H0 Ds (.nx r') m2
      | .rt v => WF K mg io0 m0 H0 Ds (.rt v) m2)
    (k : ∀ r' io2 st2 H2, G r' m2 → LC.Ext io m.length H io2 m2.length H2 → S0 K mg io2 r' m2 st2 H2 → N st2 H2) : WF K mg io m H { Ds with nx := N, ct := N, bk := Ds.nx } fl m2 := by
  cases fl with
  | nx r' => exact fun io2 st2 H2 y S e => k r' io2 st2 H2 h y ⟨S, e⟩
  | ct r' => exact fun io2 st2 H2 y S e => k r' io2 st2 H2 h y ⟨S, e⟩
  | bk r' => exact fun io2 st2 H2 y S e => (show WF K mg io0 m0 H0 Ds (.nx r') m2 from h) io2 st2 H2 (x.trans y) S e
  | rt v => exact fun io2 H2 u y S e => (show WF K mg io0 m0 H0 Ds (.rt v) m2 from h) io2 H2 u (x.trans y) S e
end

section
variable {X : Cx} {tg it : Expr} {body : List Stmt} {pos : Pos}
theorem ss_for {q : Env → M Src} {g : D → Env → M Env} {ws : List Nat} {b : Env → M Flow} {W : Nat} (hx : X.xe = fun _ _ => False) (hc : X.calm = true) (hi : PI X tg it (tQ X.K X.mg q)) (hg : PG X tg (tG X.K X.mg g ws)) (hb : PSs X body (tS X.K X.mg b))
    (hs : ∀ x, foldedSetIterable it X.env x = pure x) :
    PS X (.For tg it body [] pos) (tS X.K X.mg fun r => bnd (q r) fun src => match src with
      | .fix ds => forL (fun d r => bnd (g d r) fun r2 => b r2) ds r
      | .live n => forV (fun d r => bnd (g d r) fun r2 => b r2) n W 0 r) := by
  refine PS.mono (ps_for (by rw [hx]; exact PassesOwn.never) hc hi hg hb hs) fun Ds st H ⟨io, r, m, s, h⟩ => ?_
  refine ⟨io, r, m, s, (Post.of_bnd h).mono fun src m1 h1 io1 H1 J e1 S1 so => ?_⟩
  have s1 := s.next e1 S1
  cases src with
  | fix ds =>
    have h1 : Post (forL (fun d r => bnd (g d r) fun r2 => b r2) ds r m1) (WF X.K X.mg io m H Ds) := h1
    refine ⟨fun i mm st' H' => mm = ds.length - i ∧ i ≤ ds.length ∧ ∃ io' r' m', LC.Ext io1 m1.length H1 io' m'.length H' ∧ S0 X.K X.mg io' r' m' st' H' ∧ Post (forL (fun d r => bnd (g d r) fun r2 => b r2) (ds.drop i) r' m') (WF X.K X.mg io m H Ds),
      ⟨ds.length, rfl, Nat.zero_le _, io1, r, m1, LC.Ext.refl, s1, h1⟩, ?_⟩
    rintro i mm st' H' ⟨rfl, hi, io2, r2, m2, e2, s2, h2⟩
    obtain ⟨o1, o2, o3⟩ := so io2 m2 H' e2.toExtW s2.s
    by_cases hlt : i < ds.length
    · refine .inr ⟨o1 i hlt, fun st3 H3 => ∃ mm, mm < ds.length - i ∧ (mm = ds.length - (i + 1) ∧ i + 1 ≤ ds.length ∧ ∃ io' r' m', LC.Ext io1 m1.length H1 io' m'.length H3 ∧ S0 X.K X.mg io' r' m' st3 H3 ∧ Post (forL (fun d r => bnd (g d r) fun r2 => b r2) (ds.drop (i + 1)) r' m') (WF X.K X.mg io m H Ds)), fun st3 H3 z => z, fun x H3 y => ?_⟩
      obtain ⟨d, ed, e3, S3, r3⟩ := o3 i x H3 hlt y
      have s3 := s2.next e3 S3
      have hd : ds.drop i = d :: ds.drop (i + 1) := by
        rw [List.drop_eq_getElem_cons hlt]
        rw [List.getElem?_eq_getElem hlt] at ed
        rw [Option.some.inj ed]
      rw [hd] at h2
      refine ⟨io2, r2, m2, d, s3, r3, (Post.of_bnd (forL_step h2)).mono fun r4 m4 h4 io4 st4 H4 e4 S4 re4 _ => ?_⟩
      refine ⟨io4, r4, m4, ⟨S4, re4⟩, h4.mono fun fl m5 h5 => WF.loop (G := fun r' m5 => Post (forL (fun d r => bnd (g d r) fun r2 => b r2) (ds.drop (i + 1)) r' m5) (WF X.K X.mg io m H Ds)) (((e1.trans e2).trans e3).trans e4) h5 fun r6 io6 st6 H6 g6 e6 s6 => ?_⟩
      exact ⟨_, by omega, rfl, by omega, io6, r6, m5, ((e2.trans e3).trans e4).trans e6, s6, g6⟩
    · have ei : i = ds.length := by omega
      subst ei
      rw [List.drop_length] at h2
      exact .inl ⟨o2, (show WF X.K X.mg io m H Ds (.nx r2) m2 from h2) io2 st' H' (e1.trans e2) s2.s s2.e⟩
  | live n =>
    have h1 : Post (forV (fun d r => bnd (g d r) fun r2 => b r2) n W 0 r m1) (WF X.K X.mg io m H Ds) := h1
    refine ⟨fun i mm st' H' => ∃ io' r' m', LC.Ext io1 m1.length H1 io' m'.length H' ∧ S0 X.K X.mg io' r' m' st' H' ∧ Post (forV (fun d r => bnd (g d r) fun r2 => b r2) n mm i r' m') (WF X.K X.mg io m H Ds),
      ⟨W, io1, r, m1, LC.Ext.refl, s1, h1⟩, ?_⟩
    rintro i mm st' H' ⟨io2, r2, m2, e2, s2, h2⟩
    cases mm with
    | zero => exact (show False from h2).elim
    | succ mm =>
      obtain ⟨xs, ex, h2⟩ := forV_step h2
      obtain ⟨o1, o2, o3⟩ := so io2 m2 H' xs e2.toExtW s2.s ex
      rcases h2 with ⟨ek, h2⟩ | ⟨d, ek, h2⟩
      · exact .inl ⟨o2 i (List.getElem?_eq_none_iff.mp ek), (show WF X.K X.mg io m H Ds (.nx r2) m2 from h2) io2 st' H' (e1.trans e2) s2.s s2.e⟩
      · have hlt : i < xs.length := (List.getElem?_eq_some_iff.mp ek).1
        refine .inr ⟨o1 i hlt, fun st3 H3 => ∃ io' r' m', LC.Ext io1 m1.length H1 io' m'.length H3 ∧ S0 X.K X.mg io' r' m' st3 H3 ∧ Post (forV (fun d r => bnd (g d r) fun r2 => b r2) n mm (i + 1) r' m') (WF X.K X.mg io m H Ds), fun st3 H3 z => ⟨mm, Nat.lt_succ_self _, z⟩, fun x H3 y => ?_⟩
        obtain ⟨d', ed, e3, S3, r3⟩ := o3 i x H3 hlt y
        rw [ek] at ed
        cases ed
        have s3 := s2.next e3 S3
        refine ⟨io2, r2, m2, d, s3, r3, (Post.of_bnd h2).mono fun r4 m4 h4 io4 st4 H4 e4 S4 re4 _ => ?_⟩
        refine ⟨io4, r4, m4, ⟨S4, re4⟩, h4.mono fun fl m5 h5 => WF.loop (G := fun r' m5 => Post (forV (fun d r => bnd (g d r) fun r2 => b r2) n mm (i + 1) r' m5) (WF X.K X.mg io m H Ds)) (((e1.trans e2).trans e3).trans e4) h5 fun r6 io6 st6 H6 g6 e6 s6 => ?_⟩
        exact ⟨io6, r6, m5, ((e2.trans e3).trans e4).trans e6, s6, g6⟩
theorem ss_while {c : Expr} {t : Env → M Bool} {b : Env → M Flow} {W : Nat} (hx : X.xe = fun _ _ => False) (hc : PT X c (tT X.K X.mg t)) (hb : PSs X body (tS X.K X.mg b)) : PS X (.While c body [] pos) (tS X.K X.mg fun r => whileM t b W r) := by
  refine PS.mono (ps_while (by rw [hx]; exact PassesOwn.never) hc hb) fun Ds st H ⟨io, r, m, s, h⟩ => ?_
  refine ⟨fun mm st' H' => ∃ io' r' m', LC.Ext io m.length H io' m'.length H' ∧ S0 X.K X.mg io' r' m' st' H' ∧ Post (whileM t b mm r' m') (WF X.K X.mg io m H Ds), ⟨W, io, r, m, LC.Ext.refl, s, h⟩, ?_⟩
  rintro mm st' H' ⟨io2, r2, m2, e2, s2, h2⟩
  cases mm with
  | zero => exact (show False from h2).elim
  | succ mm =>
    refine ⟨io2, r2, m2, s2, (whileM_step h2).mono fun k m3 h3 io3 H3 e3 S3 => ?_⟩
    have s3 := s2.next e3 S3
    cases k with
    | false =>
      rw [if_neg Bool.false_ne_true] at h3
      exact iteF ((show WF X.K X.mg io m H Ds (.nx r2) m3 from h3) io3 st' H3 (e2.trans e3) S3 s3.e)
    | true =>
      rw [if_pos rfl] at h3
      refine iteT ⟨fun st4 H4 => ∃ io' r' m', LC.Ext io m.length H io' m'.length H4 ∧ S0 X.K X.mg io' r' m' st4 H4 ∧ Post (whileM t b mm r' m') (WF X.K X.mg io m H Ds), fun st4 H4 z => ⟨mm, Nat.lt_succ_self _, z⟩, io3, r2, m3, s3, h3.mono fun fl m5 h5 => WF.loop (G := fun r' m5 => Post (whileM t b mm r' m5) (WF X.K X.mg io m H Ds)) (e2.trans e3) h5 fun r6 io6 st6 H6 g6 e6 s6 => ?_⟩
      exact ⟨io6, r6, m5, (e2.trans e3).trans e6, s6, g6⟩
end

/-! ### small statements -/
section
variable {X : Cx} {a b : Expr} {st1 : Stmt} {rest body orelse : List Stmt} {ma mb : Env → M D} {ml : Env → M (List D)} {pos pos' : Pos}
theorem ss_nil : PSs X [] (tS X.K X.mg fun r => LC.ret (.nx r)) := PSs.mono pss_nil fun Ds st H ⟨io, r, m, s, h⟩ => (show WF X.K X.mg io m H Ds (.nx r) m from h) io st H LC.Ext.refl s.s s.e
theorem ss_cons {f g : Env → M Flow} (h1 : PS X st1 (tS X.K X.mg f)) (h2 : PSs X rest (tS X.K X.mg g)) : PSs X (st1 :: rest) (tS X.K X.mg fun r => bnd (f r) fun fl => seqF fl g) :=
  PSs.mono (pss_cons h1 h2) fun Ds st H ⟨io, r, m, s, h⟩ => ⟨io, r, m, s, (Post.of_bnd h).mono fun fl m1 h1 => by
    cases fl with
    | nx r' => exact fun io1 st1 H1 e1 S1 re1 => ⟨io1, r', m1, ⟨S1, re1⟩, WFpost.from e1 h1⟩
    | rt d => exact h1
    | bk r' => exact h1
    | ct r' => exact h1⟩
theorem s_ret (ha : PE X a (tM X.K X.mg ma)) : PS X (.Return (some a) pos) (tS X.K X.mg fun r => bnd (ma r) fun p => LC.ret (.rt p)) :=
  PS.mono (ps_ret ha) fun Ds st H ⟨io, r, m, s, h⟩ => tM.bind s h fun io1 H1 m1 p x e1 s1 r1 h1 => (show WF X.K X.mg io m H Ds (.rt p) m1 from h1) io1 H1 x e1 s1.s r1
theorem s_ret0 : PS X (.Return none pos) (tS X.K X.mg fun _ => LC.ret (.rt .non)) :=
  PS.mono ps_retN fun Ds st H ⟨io, r, m, s, h⟩ => (show WF X.K X.mg io m H Ds (.rt .non) m from h) io H .non LC.Ext.refl s.s rfl
theorem s_expr (hn : ncomp a = true) (ha : PE X a (tM X.K X.mg ma)) : PS X (.Expr a pos) (tS X.K X.mg fun r => bnd (ma r) fun _ => LC.ret (.nx r)) :=
  PS.mono (ps_expr ha (swaps_ncomp hn)) fun Ds st H ⟨io, r, m, s, h⟩ => tM.bind s h fun io1 H1 m1 p x e1 s1 r1 h1 => (show WF X.K X.mg io m H Ds (.nx r) m1 from h1) io1 st H1 e1 s1.s s1.e
theorem s_pass : PS X (.Pass pos) (tS X.K X.mg fun r => LC.ret (.nx r)) := PS.mono ps_pass fun Ds st H ⟨io, r, m, s, h⟩ => (show WF X.K X.mg io m H Ds (.nx r) m from h) io st H LC.Ext.refl s.s s.e
theorem s_brk : PS X (.Break pos) (tS X.K X.mg fun r => LC.ret (.bk r)) := PS.mono ps_break fun Ds st H ⟨io, r, m, s, h⟩ => (show WF X.K X.mg io m H Ds (.bk r) m from h) io st H LC.Ext.refl s.s s.e
theorem s_cnt : PS X (.Continue pos) (tS X.K X.mg fun r => LC.ret (.ct r)) := PS.mono ps_continue fun Ds st H ⟨io, r, m, s, h⟩ => (show WF X.K X.mg io m H Ds (.ct r) m from h) io st H LC.Ext.refl s.s s.e
theorem s_bad : PS X st1 (tS X.K X.mg fun _ => LC.bad) := PS.mono ps_never fun Ds st H ⟨io, r, m, s, h⟩ => h
theorem s_if {t : Env → M Bool} {f g : Env → M Flow} {c : Expr} (hc : PT X c (tT X.K X.mg t)) (h1 : PSs X body (tS X.K X.mg f)) (h2 : PSs X orelse (tS X.K X.mg g)) : PS X (.If c body orelse pos) (tS X.K X.mg fun r => bnd (t r) fun k => if k then f r else g r) :=
  PS.mono (ps_if hc h1 h2) fun Ds st H ⟨io, r, m, s, h⟩ => tT.bind s h fun io1 H1 m1 k e1 s1 h1 => by
    cases k with
    | true => exact iteT ⟨io1, r, m1, s1, WFpost.from e1 h1⟩
    | false => exact iteF ⟨io1, r, m1, s1, WFpost.from e1 h1⟩
theorem s_try {h0 : ExceptHandler} {hs : List ExceptHandler} {f : Env → M Flow} (h1 : PSs X.nox body (tS X.K X.mg f)) : PS X (.Try body (h0 :: hs) [] [] pos) (tS X.K X.mg fun r m => match f r m with | .exc _ _ _ => .bad | o => o) :=
  PS.mono (ps_try_thru0 h1) fun Ds st H ⟨io, r, m, s, h⟩ => ⟨io, r, m, s, by
    dsimp only at h
    cases e : f r m with
    | ok fl m1 => rw [e] at h; exact h
    | exc C fs m1 => rw [e] at h; exact h.elim
    | bad => rw [e] at h; exact h.elim⟩
theorem s_set {k : Nat} {x : Str} (hN : X.N.Nodup) (hi : X.N[k]? = some x) (hx : Loc X.env.scope x) (hf : X.fn x = true ∨ X.env.scope.names.lookup x = some .local) (hs : swapsWith a (some (.Name x pos')) pos.line X.env = pure false) (ha : PE X a (tM X.K X.mg ma)) :
    PS X (.Assign [.Name x pos'] a pos) (tS X.K X.mg fun r => bnd (ma r) fun p => LC.ret (.nx (r.set k (some p)))) :=
  PS.mono (ps_set hN hi hx ha hs hf) fun Ds st H ⟨io, r, m, s, h⟩ => tM.bind s h fun io1 H1 m1 p x e1 s1 r1 h1 => (show WF X.K X.mg io m H Ds (.nx (r.set k (some p))) m1 from h1) io1 _ H1 e1 s1.s (s1.e.set r1)
theorem s_asg {g : D → Env → M Env} {ws : List Nat} (hn : nst b = true) (ha : PE X a (tM X.K X.mg ma)) (hg : PG X b (tG X.K X.mg g ws)) (hs : swapsWithSole [b] a pos.line X.env = pure false) (hw : swappedStores [b] a X.env = pure none) :
    PS X (.Assign [b] a pos) (tS X.K X.mg fun r => bnd (ma r) fun p => bnd (g p r) fun r' => LC.ret (.nx r')) :=
  PS.mono (ps_asg ha hg hs hw (by rw [stores_nst hn] <;> rfl)) fun Ds st H ⟨io, r, m, s, h⟩ => tM.bind s h fun io1 H1 m1 p x e1 s1 r1 h1 =>
    ⟨io1, r, m1, p, s1, r1, (Post.of_bnd h1).mono fun r2 m2 h2 io2 st2 H2 e2 S2 re2 _ => (show WF X.K X.mg io m H Ds (.nx r2) m2 from h2) io2 st2 H2 (e1.trans e2) S2 re2⟩
theorem aug_any {o : Operator} : PIp X o (rOp X.K X.mg (opAug o)) := fun pins s st H x y v u Q I rx ry ⟨io, m, p, q, S, hp, hq, h⟩ => by
  unfold opAug at h
  split at h <;> first | exact h.elim | skip
  · subst hp; subst hq; exact ip_add pins s st H _ _ v u Q I rx ry ⟨_, _, rfl, rfl, WV.here h S rfl⟩
  · subst hp; subst hq; exact ip_sub pins s st H _ _ v u Q I rx ry ⟨_, _, rfl, rfl, WV.here h S rfl⟩
  · subst hp; subst hq
    split at h <;> first | exact h.elim | skip
    rename_i hz
    exact iop_add_str pins s st H _ _ v u Q I rx ry ⟨_, _, rfl, rfl, by rw [← lim]; exact of_decide_eq_true hz, WV.here h S rfl⟩
theorem s_aug {k : Nat} {x : Str} {o : Operator} (hN : X.N.Nodup) (hi : X.N[k]? = some x) (hx : Loc X.env.scope x) (hf : X.fn x = true ∨ X.env.scope.names.lookup x = some .local) (ha : PE X a (tM X.K X.mg ma)) :
    PS X (.AugAssign (.Name x pos') o a pos) (tS X.K X.mg fun r => bnd (getV k r) fun p => bnd (ma r) fun q => bnd (opAug o p q) fun z => LC.ret (.nx (r.set k (some z)))) :=
  PS.mono (ps_aug hN hi hx ha aug_any hf) fun Ds st H ⟨io, r, m, s, h⟩ => by
    have h := Post.of_bnd h
    unfold getV at h
    split at h <;> first | exact h.elim | skip
    rename_i d e
    obtain ⟨v, h1, h2⟩ := s.e.2 k d e
    refine ⟨v, h1, tM.bind s (show Post (bnd (ma r) (fun q => bnd (opAug o d q) fun z => LC.ret (Flow.nx (r.set k (some z)))) m) (WF X.K X.mg io m H Ds) from h) fun io1 H1 m1 p x e1 s1 r1 h3 => ?_⟩
    refine rOp.mk s1.s (h2.keep s.s e1) r1 ((Post.of_bnd h3).mono fun z m2 h4 io2 H2 w e2 S2 r2 => ?_)
    exact (show WF X.K X.mg io m H Ds (.nx (r.set k (some z))) m2 from h4) io2 _ H2 (e1.trans e2) S2 ((s1.e.keep s1.s e2).set r2)
theorem s_par2 {i j : Nat} {x y : Str} {px py pt : Pos} {kt k2 pt2} (hc : X.calm = true) (hN : X.N.Nodup) (hi : X.N[i]? = some x) (hj : X.N[j]? = some y) (hij : i ≠ j)
    (hx : X.env.scope.names.lookup x = some .local) (hy : X.env.scope.names.lookup y = some .local) (hl : PA X [a, b] (tL X.K X.mg ml))
    (hw : swappedStores [.Tuple [.Name x px, .Name y py] kt pt] (.Tuple [a, b] k2 pt2) X.env = pure (some [x, y])) (hs : swapsWithSole [.Tuple [.Name x px, .Name y py] kt pt] (.Tuple [a, b] k2 pt2) pos.line X.env = pure false) :
    PS X (.Assign [.Tuple [.Name x px, .Name y py] kt pt] (.Tuple [a, b] k2 pt2) pos) (tS X.K X.mg fun r => bnd (ml r) fun ds => bnd (setAll [i, j] ds r) fun r' => LC.ret (.nx r')) :=
  PS.mono (ps_par hc hN hi hj hij hx hy hl hw hs) fun Ds st H ⟨io, r, m, s, h⟩ => tL.bind s h fun io1 H1 m1 p x e1 s1 r1 h1 => by
    cases p with
    | nil => exact (show False from h1).elim
    | cons d p =>
      cases p with
      | nil => exact (show False from h1).elim
      | cons d2 p =>
        cases p with
        | cons d3 p => exact (show False from h1).elim
        | nil =>
          obtain ⟨v, u, rfl, hv, hu⟩ := rep2 r1
          exact ⟨v, u, rfl, (show WF X.K X.mg io m H Ds (.nx ((r.set i (some d)).set j (some d2))) m1 from h1) io1 _ H1 e1 s1.s ((s1.e.set hv).set hu)⟩
theorem s_par3 {c : Expr} {i j l : Nat} {x y z : Str} {px py pz pt : Pos} {kt k2 pt2} (hc : X.calm = true) (hN : X.N.Nodup) (hi : X.N[i]? = some x) (hj : X.N[j]? = some y) (hl : X.N[l]? = some z) (hij : i ≠ j) (hil : i ≠ l) (hjl : j ≠ l)
    (hx : X.env.scope.names.lookup x = some .local) (hy : X.env.scope.names.lookup y = some .local) (hz : X.env.scope.names.lookup z = some .local) (ha : PA X [a, b, c] (tL X.K X.mg ml))
    (hw : swappedStores [.Tuple [.Name x px, .Name y py, .Name z pz] kt pt] (.Tuple [a, b, c] k2 pt2) X.env = pure (some [x, y, z])) (hs : swapsWithSole [.Tuple [.Name x px, .Name y py, .Name z pz] kt pt] (.Tuple [a, b, c] k2 pt2) pos.line X.env = pure false) :
    PS X (.Assign [.Tuple [.Name x px, .Name y py, .Name z pz] kt pt] (.Tuple [a, b, c] k2 pt2) pos) (tS X.K X.mg fun r => bnd (ml r) fun ds => bnd (setAll [i, j, l] ds r) fun r' => LC.ret (.nx r')) :=
  PS.mono (ps_par3 hc hN hi hj hl hij hil hjl hx hy hz ha hw hs) fun Ds st H ⟨io, r, m, s, h⟩ => tL.bind s h fun io1 H1 m1 p x e1 s1 r1 h1 => by
    cases p with
    | nil => exact (show False from h1).elim
    | cons d p =>
      cases p with
      | nil => exact (show False from h1).elim
      | cons d2 p =>
        cases p with
        | nil => exact (show False from h1).elim
        | cons d3 p =>
          cases p with
          | cons d4 p => exact (show False from h1).elim
          | nil =>
            obtain ⟨v, w, rfl, hv, r2⟩ := r1
            obtain ⟨u, t, rfl, hu, ht⟩ := rep2 r2
            exact ⟨v, u, t, rfl, (show WF X.K X.mg io m H Ds (.nx (((r.set i (some d)).set j (some d2)).set l (some d3))) m1 from h1) io1 _ H1 e1 s1.s (((s1.e.set hv).set hu).set ht)⟩
end
end LC

/-! # LcO: comprehensions -/
namespace LC
open PySem PySem.Spec PyProof.Rows L2
theorem lcL_step {turn : D → M (Option D)} {d : D} {ds acc : List D} {m : Sto} {F : List D → Sto → Prop} (h : Post (lcL turn (d :: ds) acc m) F) :
    Post (turn d m) fun o m' => match o with
      | none => Post (lcL turn ds acc m') F
      | some x => acc.length < LIM ∧ Post (lcL turn ds (acc ++ [x]) m') F := by
  unfold lcL at h
  cases e : turn d m with
  | ok o m' =>
    rw [e] at h
    cases o with
    | none => exact h
    | some x =>
      simp only at h
      split at h
      · rename_i hz
        exact ⟨of_decide_eq_true hz, h⟩
      · exact h.elim
  | exc C fs m' => rw [e] at h; exact h.elim
  | bad => rw [e] at h; exact h.elim
theorem lcV_step {turn : D → M (Option D)} {n w k : Nat} {acc : List D} {m : Sto} {F : List D → Sto → Prop} (h : Post (lcV turn n (w + 1) k acc m) F) :
    ∃ xs, m[n]? = some (.lst xs) ∧ ((xs[k]? = none ∧ F acc m) ∨ ∃ d, xs[k]? = some d ∧ Post (turn d m) fun o m' => match o with
      | none => Post (lcV turn n w (k + 1) acc m') F
      | some x => acc.length < LIM ∧ Post (lcV turn n w (k + 1) (acc ++ [x]) m') F) := by
  unfold lcV at h
  split at h <;> first | exact h.elim | skip
  rename_i xs e
  refine ⟨xs, e, ?_⟩
  split at h
  · rename_i e2
    exact .inl ⟨e2, h⟩
  · rename_i d e2
    refine .inr ⟨d, e2, ?_⟩
    cases e3 : turn d m with
    | ok o m' =>
      rw [e3] at h
      cases o with
      | none => exact h
      | some x =>
        simp only at h
        split at h
        · rename_i hz
          exact ⟨of_decide_eq_true hz, h⟩
        · exact h.elim
    | exc C fs m' => rw [e3] at h; exact h.elim
    | bad => rw [e3] at h; exact h.elim
theorem wipe_same {st st' : L2.St} : ∀ {ws : List Nat}, st'.length = st.length → (∀ k, k ∉ ws → st'[k]? = st[k]?) → L2.wipe st' ws = L2.wipe st ws := fun {ws} hl h => by
  have len : ∀ (s : L2.St), (L2.wipe s ws).length = s.length := fun s => wipe_length s ws
  have get : ∀ (ws : List Nat) (s : L2.St) (k : Nat), (L2.wipe s ws)[k]? = if k ∈ ws then (if k < s.length then some none else none) else s[k]? := by
    intro ws
    induction ws with
    | nil => intro s k; simp [L2.wipe]
    | cons v vs ih =>
      intro s k
      unfold L2.wipe
      by_cases hk : v = k
      · subst hk
        rw [List.getElem?_set, wipe_length]
        simp
      · rw [List.getElem?_set_ne hk, ih s k]
        have : (k ∈ v :: vs) = (k ∈ vs) := by simp [Ne.symm hk]
        simp only [this]
  apply List.ext_getElem?
  intro k
  rw [get ws st' k, get ws st k, hl]
  split
  · rfl
  · rename_i hk
    exact h k hk
theorem wipe_idem (st : L2.St) (ws : List Nat) : L2.wipe (L2.wipe st ws) ws = L2.wipe st ws := by
  refine wipe_same (wipe_length st ws) fun k hk => ?_
  induction ws with
  | nil => rfl
  | cons v vs ih =>
    rw [List.mem_cons, not_or] at hk
    unfold L2.wipe
    rw [List.getElem?_set_ne (Ne.symm hk.1)]
    exact ih hk.2

section
variable {K : PySem.W.Frag} {mg : Str → Option Value} {io io' : Pl} {N N' : Nat} {H : Hp}
mutual
/-- the places told otherwise -/
theorem RepV.map (hf : ∀ n, n < N → io' n = io n) (hN : N ≤ N') (hn : ∀ a vs, H a = some (.lst vs) → Nowhere io N a → Nowhere io' N' a) : ∀ (d : D) (v : V), RepV K mg io N H d v → RepV K mg io' N' H d v
  | .non, v, r => r
  | .bl b, v, r => r
  | .int i, v, r => r
  | .str s, v, r => r
  | .tup ds, v, r => by
    obtain ⟨a, vs, e, q, r⟩ := r
    exact ⟨a, vs, e, q, RepVs.map hf hN hn ds vs r⟩
  | .lst ds, v, r => by
    obtain ⟨a, vs, e, q, ne, r⟩ := r
    exact ⟨a, vs, e, q, hn a vs q ne, RepVs.map hf hN hn ds vs r⟩
  | .scr ns, v, r => r
  | .ref n, v, r => by
    obtain ⟨h1, h2⟩ := r
    exact ⟨Nat.lt_of_lt_of_le h1 hN, by rw [hf n h1]; exact h2⟩
  | .glb y, v, r => r
  | .ty n, v, r => r
theorem RepVs.map (hf : ∀ n, n < N → io' n = io n) (hN : N ≤ N') (hn : ∀ a vs, H a = some (.lst vs) → Nowhere io N a → Nowhere io' N' a) : ∀ (ds : List D) (vs : List V), RepVs K mg io N H ds vs → RepVs K mg io' N' H ds vs
  | [], vs, r => r
  | d :: ds, vs, r => by
    obtain ⟨v, q, e, h1, h2⟩ := r
    exact ⟨v, q, e, RepV.map hf hN hn d v h1, RepVs.map hf hN hn ds q h2⟩
end
theorem RepF.map (hf : ∀ n, n < N → io' n = io n) (hN : N ≤ N') (hn : ∀ a vs, H a = some (.lst vs) → Nowhere io N a → Nowhere io' N' a) : ∀ (fs : List (Str × D)) (vs : List (Str × V)), RepF K mg io N H fs vs → RepF K mg io' N' H fs vs
  | [], vs, r => r
  | d :: ds, vs, r => by
    obtain ⟨v, q, e, h1, h2⟩ := r
    exact ⟨v, q, e, RepV.map hf hN hn _ v h1, RepF.map hf hN hn ds q h2⟩
theorem RepO.map (hf : ∀ n, n < N → io' n = io n) (hN : N ≤ N') (hn : ∀ a vs, H a = some (.lst vs) → Nowhere io N a → Nowhere io' N' a) {a : Addr} {o : Ob} (r : RepO K mg io N H a o) : RepO K mg io' N' H a o := by
  cases o with
  | lst ds => obtain ⟨vs, h1, h2⟩ := r; exact ⟨vs, h1, RepVs.map hf hN hn _ _ h2⟩
  | ins C fs => obtain ⟨Ca, dx, fvs, h0, h1, h2⟩ := r; exact ⟨Ca, dx, fvs, h0, h1, RepF.map hf hN hn _ _ h2⟩
end

section
variable {K : PySem.W.Frag} {mg : Str → Option Value}
theorem bare_f {io : Pl} {z : Addr → Prop} (n : Nat) : (bare io z) n = io n := rfl
theorem hide_f {io : Pl} {p : Addr} (n : Nat) : (hide io p) n = io n := rfl
/-- what stands between two turns: the list at p with acc, hidden -/
structure Mid (K : PySem.W.Frag) (mg : Str → Option Value) (io0 : Pl) (N0 : Nat) (H0 : Hp) (p : Addr) (st : L2.St) (en : Env) (io : Pl) (m : Sto) (H : Hp) (acc : List D) (accV : List V) : Prop where
  z : io.z = fun a => io0.z a ∨ a = p
  e : LC.Ext io0 N0 H0 (bare io io0.z) m.length H
  S : SRel K mg io m H
  at_ : H p = some (.lst accV)
  r : RepVs K mg io m.length H acc accV
  env : RelE K mg io m.length H en st
  fr : H0 p = none
  nz : ¬ io0.z p
section
variable {io0 : Pl} {m0 : Sto} {H0 : Hp} {p : Addr} {st : L2.St} {r : Env} {io io' : Pl} {m m' : Sto} {H H' : Hp} {acc : List D} {accV : List V}
theorem Mid.start {st : L2.St} {r : Env} (S : SRel K mg io0 m0 H0) (h : H0 p = none) (re : RelE K mg io0 m0.length H0 r st) : Mid K mg io0 m0.length H0 p st r (hide io0 p) m0 (upd H0 p (.lst [])) [] [] where
  z := rfl
  e := LC.Ext.begin h
  S := S.hide h
  at_ := upd_same
  r := rfl
  env := ⟨re.1, fun k d q => let ⟨v, h1, h2⟩ := re.2 k d q; ⟨v, h1, h2.hide h⟩⟩
  fr := h
  nz := fun hz => by obtain ⟨vs, e⟩ := S.zl p hz; rw [h] at e; cases e
theorem Mid.sb (x : Mid K mg io0 m0.length H0 p st r io m H acc accV) : SRel K mg (bare io io0.z) m H := x.S.bare fun a h => by rw [x.z]; exact .inl h
theorem Mid.bare {io1 : Pl} {m1 : Sto} {H1 : Hp} (x : Mid K mg io0 m0.length H0 p st r io m H acc accV) (e : LC.Ext io m.length H io1 m1.length H1) : LC.Ext (LC.bare io io0.z) m.length H (LC.bare io1 io0.z) m1.length H1 :=
  e.bare fun a h => by rw [x.z]; exact .inl h
/-- on, nothing taken -/
theorem Mid.next (x : Mid K mg io0 m0.length H0 p st r io m H acc accV) (e : LC.Ext io m.length H io' m'.length H') (S' : SRel K mg io' m' H') : Mid K mg io0 m0.length H0 p st r io' m' H' acc accV where
  z := e.zz.trans x.z
  e := x.e.trans (x.bare e)
  S := S'
  at_ := by rw [e.kz p (by rw [x.z]; exact .inr rfl) (by rw [x.at_]; simp)]; exact x.at_
  r := x.r.keep x.S e
  env := x.env.keep x.S e
  fr := x.fr
  nz := x.nz
/-- one more -/
theorem Mid.push {d : D} {v : V} (x : Mid K mg io0 m0.length H0 p st r io m H acc accV) (rv : RepV K mg io m.length H d v) : Mid K mg io0 m0.length H0 p st r io m (upd H p (.lst (accV ++ [v]))) (acc ++ [d]) (accV ++ [v]) := by
  have hz : io.z p := by rw [x.z]; exact .inr rfl
  have w := ExtW.over (N := m.length) (H := H) (u := .lst (accV ++ [v])) hz
  refine ⟨x.z, x.e.over x.fr fun n hn => ?_, x.S.over hz, upd_same, ?_, ⟨x.env.1, fun k d q => let ⟨v, h1, h2⟩ := x.env.2 k d q; ⟨v, h1, RepV.keepW x.S w _ _ h2⟩⟩, x.fr, x.nz⟩
  · intro e
    have hn' : n < m.length := Nat.lt_of_lt_of_le hn x.e.le
    refine x.S.zn n hn' ?_
    rw [x.z]
    refine .inr ?_
    rw [← e]
    exact x.e.ag n hn
  · exact RepVs.keepW x.S w _ _ (x.r.append ⟨v, [], rfl, rv, rfl⟩)
end

/-- done, a value -/
theorem Mid.fin {io0 : Pl} {m0 : Sto} {H0 : Hp} {p : Addr} {st : L2.St} {r : Env} {io : Pl} {m : Sto} {H : Hp} {acc : List D} {accV : List V} (x : Mid K mg io0 m0.length H0 p st r io m H acc accV) : RepV K mg (LC.bare io io0.z) m.length H (.lst acc) (.ref p) := by
  refine ⟨p, accV, rfl, x.at_, ⟨fun n hn e => ?_, fun hz => ?_⟩, RepVs.bare (fun a h => by rw [x.z]; exact .inl h) _ _ x.r⟩
  · exact x.S.zn n hn (by rw [x.z]; exact .inr e.symm)
  · exact x.nz hz
/-- done, at a place of its own -/
theorem Mid.own {io0 : Pl} {m0 : Sto} {H0 : Hp} {p : Addr} {st : L2.St} {r : Env} {io : Pl} {m : Sto} {H : Hp} {acc : List D} {accV : List V} (x : Mid K mg io0 m0.length H0 p st r io m H acc accV) :
    SRel K mg (ioN (LC.bare io io0.z) m.length p) (m ++ [.lst acc]) H := by
  have old : ∀ n, n < m.length → io n ≠ p := fun n hn e => x.S.zn n hn (by rw [x.z]; exact .inr e)
  have hf : ∀ n, n < m.length → (ioN (LC.bare io io0.z) m.length p) n = io n := fun n hn => ioN_lt hn
  have hn : ∀ a vs, H a = some (.lst vs) → Nowhere io m.length a → Nowhere (ioN (LC.bare io io0.z) m.length p) (m.length + 1) a := fun a vs _ q => by
    refine ⟨fun n hn e => ?_, fun hz => q.2 (by rw [x.z]; exact .inl hz)⟩
    by_cases hk : n < m.length
    · rw [hf n hk] at e; exact q.1 n hk e
    · have ek : n = m.length := by omega
      subst ek
      rw [ioN_eq] at e
      exact q.2 (by rw [x.z]; exact .inr e)
  refine ⟨fun j k hj hk e => ?_, fun k o e => ?_, fun a hz => x.S.zl a (by rw [x.z]; exact .inl hz), fun n hl hz => ?_⟩
  · rw [List.length_append, List.length_singleton] at hj hk
    by_cases h1 : j < m.length
    · rw [hf j h1] at e
      by_cases h2 : k < m.length
      · rw [hf k h2] at e; exact x.S.inj j k h1 h2 e
      · have e2 : k = m.length := by omega
        subst e2
        rw [ioN_eq] at e; exact absurd e (old j h1)
    · have e1 : j = m.length := by omega
      subst e1
      rw [ioN_eq] at e
      by_cases h2 : k < m.length
      · rw [hf k h2] at e; exact absurd e.symm (old k h2)
      · omega
  · rw [List.length_append, List.length_singleton]
    by_cases hk : k < m.length
    · rw [List.getElem?_append_left hk] at e
      rw [hf k hk]
      exact RepO.map hf (Nat.le_succ _) hn (x.S.ob k o e)
    · have hl : k < (m ++ [Ob.lst acc]).length := (List.getElem?_eq_some_iff.mp e).1
      rw [List.length_append, List.length_singleton] at hl
      have ek : k = m.length := by omega
      subst ek
      rw [List.getElem?_append_right (Nat.le_refl _), Nat.sub_self] at e
      have e' : Ob.lst acc = o := Option.some.inj e
      subst e'
      rw [ioN_eq]
      exact ⟨accV, x.at_, RepVs.map hf (Nat.le_succ _) hn _ _ x.r⟩
  · rw [List.length_append, List.length_singleton] at hl
    by_cases hk : n < m.length
    · rw [hf n hk] at hz; exact x.S.zn n hk (by rw [x.z]; exact .inl hz)
    · have ek : n = m.length := by omega
      subst ek
      rw [ioN_eq] at hz
      exact x.nz hz
theorem Ext.addPlace {io io' : Pl} {N N' : Nat} {H H' : Hp} {p : Addr} (x : LC.Ext io N H io' N' H') (h : H p = none) : LC.Ext io N H (ioN io' N' p) (N' + 1) H' :=
  ⟨⟨Nat.le_succ_of_le x.le, fun n hn => by rw [ioN_lt (Nat.lt_of_lt_of_le hn x.le)]; exact x.ag n hn, fun n h1 h2 => by
    by_cases hk : n < N'
    · rw [ioN_lt hk]; exact x.fr n h1 hk
    · have ek : n = N' := by omega
      subst ek
      rw [ioN_eq]; exact h, x.kp, x.zf⟩, x.th, x.kz, x.zz⟩
theorem Ext.none_back {io io' : Pl} {N N' : Nat} {H H' : Hp} {p : Addr} (x : LC.Ext io N H io' N' H') (h : H' p = none) : H p = none := by
  cases e : H p with
  | none => rfl
  | some o =>
    by_cases hz : io.z p
    · have q := x.kz p hz (by rw [e]; simp)
      rw [h, e] at q; cases q
    · by_cases hn : ∃ n, n < N ∧ p = io n
      · obtain ⟨n, hn, ep⟩ := hn
        have q := x.th n hn (by rw [← ep, e]; simp)
        rw [← ep] at q; exact absurd h q
      · have q := x.kp p o e ⟨fun n hl ep => hn ⟨n, hl, ep⟩, hz⟩
        rw [h] at q; cases q
/-- the new list, as the term wants it -/
theorem Mid.done {io io0 : Pl} {m m0 m2 : Sto} {H H0 : Hp} {p : Addr} {st : L2.St} {r : Env} {io2 : Pl} {H2 : Hp} {acc : List D} {accV : List V} {mu : Bool} {Q : VK} (x : Mid K mg io0 m0.length H0 p st r io2 m2 H2 acc accV) (e : LC.Ext io m.length H io0 m0.length H0)
    (h : Post ((if mu then new (.lst acc) else LC.ret (.lst acc)) m2) (WV K mg io m H Q)) : Q (.ref p) H2 := by
  cases mu with
  | false => exact (show WV K mg io m H Q (.lst acc) m2 from h) (LC.bare io2 io0.z) H2 _ (e.trans x.e) x.sb x.fin
  | true =>
    refine (show WV K mg io m H Q (.ref m2.length) (m2 ++ [.lst acc]) from h) (ioN (LC.bare io2 io0.z) m2.length p) H2 _ ?_ x.own ⟨by simp, by rw [ioN_eq]⟩
    rw [List.length_append, List.length_singleton]
    exact Ext.addPlace (e.trans x.e) (Ext.none_back e x.fr)
end

section
variable {X : Cx} {elt tg it : Expr} {ifs : List Expr} {pos : Pos} {scope : Scope}
theorem tLc_of {q : Env → M Src} {g : D → Env → M Env} {ws : List Nat} {t : Env → M Bool} {e : Env → M D} {own : List Nat} {W : Nat} {mu : Bool} {st : L2.St} {H : Hp} {Q : VK} (hsub : ∀ k ∈ ws, k ∈ own)
    (h : tM X.K X.mg (fun r => bnd (q r) fun src => bnd (match src with
      | .fix ds => lcL (lcTurn g t e (wipeE r own)) ds []
      | .live n => lcV (lcTurn g t e (wipeE r own)) n W 0 []) fun xs => if mu then new (.lst xs) else LC.ret (.lst xs)) st H Q) :
    tLc (tQ X.K X.mg q) (tG X.K X.mg g ws) (tT X.K X.mg t) (tM X.K X.mg e) own st H Q := by
  obtain ⟨io, r, m, s, h⟩ := h
  refine ⟨io, r, m, s, (Post.of_bnd h).mono fun src m1 h1 io1 H1 J e1 S1 so p hp => ?_⟩
  have s1 := s.next e1 S1
  have re := s1.e.wipe own
  have hst : Mid X.K X.mg io1 m1.length H1 p (L2.wipe st own) (wipeE r own) (hide io1 p) m1 (upd H1 p (.lst [])) [] [] := Mid.start S1 hp re
  -- one turn
  have turn : ∀ (N' : Hp → Prop) {io2 : Pl} {m2 : Sto} {H2 H3 : Hp} {acc : List D} {accV : List V} {d : D} {x : V} {F : Option D → Sto → Prop}, Mid X.K X.mg io1 m1.length H1 p (L2.wipe st own) (wipeE r own) io2 m2 H2 acc accV → LC.Ext io2 m2.length H2 io2 m2.length H3 → SRel X.K X.mg io2 m2 H3 → RepV X.K X.mg io2 m2.length H3 d x →
      Post (lcTurn g t e (wipeE r own) d m2) F →
      (∀ io5 m5 H5, F none m5 → Mid X.K X.mg io1 m1.length H1 p (L2.wipe st own) (wipeE r own) io5 m5 H5 acc accV → N' H5) →
      (∀ io5 m5 H5 d5 v5, F (some d5) m5 → Mid X.K X.mg io1 m1.length H1 p (L2.wipe st own) (wipeE r own) io5 m5 H5 acc accV → RepV X.K X.mg io5 m5.length H5 d5 v5 → accV.length < sizeLine ∧ N' (upd H5 p (.lst (accV ++ [v5])))) →
      tG X.K X.mg g ws x (L2.wipe st own) H3 fun st4 H4 => L2.wipe st4 own = L2.wipe st own ∧ tT X.K X.mg t st4 H4 fun b H5 =>
        if b = true then tM X.K X.mg e st4 H5 fun y H6 => ∃ acc, H6 p = some (.lst acc) ∧ acc.length < sizeLine ∧ N' (upd H6 p (.lst (acc ++ [y]))) else N' H5 := by
    intro N' io2 m2 H2 H3 acc accV d x F M e3 S3 rx h2 k0 k1
    have M3 := M.next e3 S3
    refine ⟨io2, wipeE r own, m2, d, ⟨S3, M3.env⟩, rx, (Post.of_bnd h2).mono fun r4 m4 h4 io4 st4 H4 e4 S4 re4 w4 => ⟨?_, ?_⟩⟩
    · rw [← wipe_idem st own]
      exact wipe_same w4.1 fun k hk => w4.2 k fun hw => hk (hsub k hw)
    · have M4 := M3.next e4 S4
      refine ⟨io4, r4, m4, ⟨S4, re4⟩, (Post.of_bnd h4).mono fun b m5 h5 io5 H5 e5 S5 => ?_⟩
      have M5 := M4.next e5 S5
      cases b with
      | false => exact iteF (k0 io5 m5 H5 h5 M5)
      | true =>
        refine iteT ⟨io5, r4, m5, ⟨S5, re4.keep S4 e5⟩, (Post.of_bnd h5).mono fun d6 m6 h6 io6 H6 v6 e6 S6 r6 => ?_⟩
        have M6 := M5.next e6 S6
        obtain ⟨z1, z2⟩ := k1 io6 m6 H6 d6 v6 h6 M6 r6
        exact ⟨accV, M6.at_, z1, z2⟩
  have up : ∀ {io2 : Pl} {m2 : Sto} {H2 : Hp} {acc : List D} {accV : List V}, Mid X.K X.mg io1 m1.length H1 p (L2.wipe st own) (wipeE r own) io2 m2 H2 acc accV → ExtW io1 m1.length H1 io2 m2.length H2 := fun {io2 m2 H2 acc accV} M =>
    ⟨M.e.le, M.e.ag, M.e.fr, M.e.kp, fun a hz => by
      rw [M.z] at hz
      rcases hz with hz | hz
      · exact .inl hz
      · exact .inr (by rw [hz]; exact hp)⟩
  cases src with
  | fix ds =>
    have h1 : Post (bnd (lcL (lcTurn g t e (wipeE r own)) ds []) (fun xs => if mu then new (.lst xs) else LC.ret (.lst xs)) m1) (WV X.K X.mg io m H Q) := h1
    refine ⟨fun i mm H' => mm = ds.length - i ∧ i ≤ ds.length ∧ ∃ io' m' acc accV, Mid X.K X.mg io1 m1.length H1 p (L2.wipe st own) (wipeE r own) io' m' H' acc accV ∧ Post (lcL (lcTurn g t e (wipeE r own)) (ds.drop i) acc m') (fun xs m2 => Post ((if mu then new (.lst xs) else LC.ret (.lst xs)) m2) (WV X.K X.mg io m H Q)),
      ⟨ds.length, rfl, Nat.zero_le _, _, _, [], [], hst, Post.of_bnd h1⟩, ?_⟩
    rintro i mm H' ⟨rfl, hi, io2, m2, acc, accV, M, h2⟩
    obtain ⟨o1, o2, o3⟩ := so io2 m2 H' (up M) M.S
    by_cases hlt : i < ds.length
    · refine .inr ⟨o1 i hlt, fun H3 => ∃ mm, mm < ds.length - i ∧ (mm = ds.length - (i + 1) ∧ i + 1 ≤ ds.length ∧ ∃ io' m' acc accV, Mid X.K X.mg io1 m1.length H1 p (L2.wipe st own) (wipeE r own) io' m' H3 acc accV ∧ Post (lcL (lcTurn g t e (wipeE r own)) (ds.drop (i + 1)) acc m') (fun xs m2 => Post ((if mu then new (.lst xs) else LC.ret (.lst xs)) m2) (WV X.K X.mg io m H Q))), fun H3 z => z, fun x H3 y => ?_⟩
      obtain ⟨d, ed, e3, S3, r3⟩ := o3 i x H3 hlt y
      have hd : ds.drop i = d :: ds.drop (i + 1) := by
        rw [List.drop_eq_getElem_cons hlt]
        rw [List.getElem?_eq_getElem hlt] at ed
        rw [Option.some.inj ed]
      rw [hd] at h2
      refine turn _ M e3 S3 r3 (lcL_step h2) (fun io5 m5 H5 f M5 => ⟨_, by omega, rfl, by omega, io5, m5, acc, accV, M5, f⟩) fun io5 m5 H5 d5 v5 f M5 r5 => ⟨by rw [← lim, ← M5.r.length]; exact f.1, _, by omega, rfl, by omega, io5, m5, _, _, M5.push r5, f.2⟩
    · have ei : i = ds.length := by omega
      subst ei
      rw [List.drop_length] at h2
      exact .inl ⟨o2, M.done e1 h2⟩
  | live n =>
    have h1 : Post (bnd (lcV (lcTurn g t e (wipeE r own)) n W 0 []) (fun xs => if mu then new (.lst xs) else LC.ret (.lst xs)) m1) (WV X.K X.mg io m H Q) := h1
    refine ⟨fun i mm H' => ∃ io' m' acc accV, Mid X.K X.mg io1 m1.length H1 p (L2.wipe st own) (wipeE r own) io' m' H' acc accV ∧ Post (lcV (lcTurn g t e (wipeE r own)) n mm i acc m') (fun xs m2 => Post ((if mu then new (.lst xs) else LC.ret (.lst xs)) m2) (WV X.K X.mg io m H Q)),
      ⟨W, _, _, [], [], hst, Post.of_bnd h1⟩, ?_⟩
    rintro i mm H' ⟨io2, m2, acc, accV, M, h2⟩
    cases mm with
    | zero => exact (show False from h2).elim
    | succ mm =>
      obtain ⟨xs, ex, h2⟩ := lcV_step h2
      obtain ⟨o1, o2, o3⟩ := so io2 m2 H' xs (up M) M.S ex
      rcases h2 with ⟨ek, h2⟩ | ⟨d, ek, h2⟩
      · exact .inl ⟨o2 i (List.getElem?_eq_none_iff.mp ek), M.done e1 h2⟩
      · have hlt : i < xs.length := (List.getElem?_eq_some_iff.mp ek).1
        refine .inr ⟨o1 i hlt, fun H3 => ∃ io' m' acc accV, Mid X.K X.mg io1 m1.length H1 p (L2.wipe st own) (wipeE r own) io' m' H3 acc accV ∧ Post (lcV (lcTurn g t e (wipeE r own)) n mm (i + 1) acc m') (fun xs m2 => Post ((if mu then new (.lst xs) else LC.ret (.lst xs)) m2) (WV X.K X.mg io m H Q)), fun H3 z => ⟨mm, Nat.lt_succ_self _, z⟩, fun x H3 y => ?_⟩
        obtain ⟨d', ed, e3, S3, r3⟩ := o3 i x H3 hlt y
        rw [ek] at ed
        cases ed
        refine turn _ M e3 S3 r3 h2 (fun io5 m5 H5 f M5 => ⟨io5, m5, acc, accV, M5, f⟩) fun io5 m5 H5 d5 v5 f M5 r5 => ⟨by rw [← lim, ← M5.r.length]; exact f.1, io5, m5, _, _, M5.push r5, f.2⟩
theorem se_lc {q : Env → M Src} {g : D → Env → M Env} {ws : List Nat} {t : Env → M Bool} {e : Env → M D} {own : List (Str × Nat)} {W : Nat} {mu : Bool} (hc : X.calm = true) (hN : X.N.Nodup) (ok : BlkOk X.N X.env.scope scope own) (hsub : ∀ k ∈ ws, k ∈ own.map (·.2)) (hi : PI X tg it (tQ X.K X.mg q))
    (hg : ∀ (s : Shared) (H : Hp) (C : Addr) (cl : List (Str × Addr)) (fp : List Addr), PG (X.blk s H scope (compEnvC scope cl C X.env) fp) tg (tG X.K X.mg g ws)) (ht : ∀ (s : Shared) (H : Hp) (C : Addr) (cl : List (Str × Addr)) (fp : List Addr), PTs (X.blk s H scope (compEnvC scope cl C X.env) fp) ifs (tT X.K X.mg t))
    (he : ∀ (s : Shared) (H : Hp) (C : Addr) (cl : List (Str × Addr)) (fp : List Addr), PE (X.blk s H scope (compEnvC scope cl C X.env) fp) elt (tM X.K X.mg e)) (hs : ∀ x, foldedSetIterable it X.env x = pure x) :
    PE X (.ListComp elt [⟨tg, it, ifs, 0⟩] scope pos) (tM X.K X.mg fun r => bnd (q r) fun src => bnd (match src with
      | .fix ds => lcL (lcTurn g t e (wipeE r (own.map (·.2)))) ds []
      | .live n => lcV (lcTurn g t e (wipeE r (own.map (·.2)))) n W 0 []) fun xs => if mu then new (.lst xs) else LC.ret (.lst xs)) :=
  PE.mono (pe_lc hc hN hi ok hg ht he hs) fun st H Q h => tLc_of hsub h
theorem s_setc {k : Nat} {x : Str} {py : Pos} {spos : Pos} {q : Env → M Src} {g : D → Env → M Env} {ws : List Nat} {t : Env → M Bool} {e : Env → M D} {own : List (Str × Nat)} {W : Nat} {mu : Bool} (hc : X.calm = true) (hN : X.N.Nodup) (hk : X.N[k]? = some x) (hx : X.env.scope.names.lookup x = some .local)
    (hsw : swapsWith (.ListComp elt [⟨tg, it, ifs, 0⟩] scope pos) (some (.Name x py)) spos.line X.env = pure true) (ok : BlkOk X.N X.env.scope scope own) (hsub : ∀ k ∈ ws, k ∈ own.map (·.2)) (hi : PI X tg it (tQ X.K X.mg q))
    (hg : ∀ (s : Shared) (H : Hp) (C : Addr) (cl : List (Str × Addr)) (fp : List Addr), PG (X.blk s H scope (compEnvC scope cl C X.env) fp) tg (tG X.K X.mg g ws)) (ht : ∀ (s : Shared) (H : Hp) (C : Addr) (cl : List (Str × Addr)) (fp : List Addr), PTs (X.blk s H scope (compEnvC scope cl C X.env) fp) ifs (tT X.K X.mg t))
    (he : ∀ (s : Shared) (H : Hp) (C : Addr) (cl : List (Str × Addr)) (fp : List Addr), PE (X.blk s H scope (compEnvC scope cl C X.env) fp) elt (tM X.K X.mg e)) (hs : ∀ x, foldedSetIterable it X.env x = pure x) :
    PS X (.Assign [.Name x py] (.ListComp elt [⟨tg, it, ifs, 0⟩] scope pos) spos) (tS X.K X.mg fun r => bnd (bnd (q r) fun src => bnd (match src with
      | .fix ds => lcL (lcTurn g t e (wipeE r (own.map (·.2)))) ds []
      | .live n => lcV (lcTurn g t e (wipeE r (own.map (·.2)))) n W 0 []) fun xs => if mu then new (.lst xs) else LC.ret (.lst xs)) fun p => LC.ret (.nx (r.set k (some p)))) :=
  PS.mono (ps_setLc hc hN hk hx hsw hi ok hg ht he hs) fun Ds st H ⟨io, r, m, s, h⟩ => tLc_of (mu := mu) (W := W) hsub (tM.bind s h fun io1 H1 m1 p x e1 s1 r1 h1 =>
    (show WF X.K X.mg io m H Ds (.nx (r.set k (some p))) m1 from h1) io1 _ H1 e1 s1.s (s1.e.set r1))
end
end LC

/-! # LcO2: joined texts, lists of ranges, places in lists, sorted ints -/
namespace LC
open PySem PySem.Spec PyProof.Rows L2
section
variable {K : PySem.W.Frag} {mg : Str → Option Value} {io : Pl} {N : Nat} {H : Hp}
theorem strs_rep : ∀ {ds : List D} {vs : List V} {ns : List Str}, asStrs ds = some ns → RepVs K mg io N H ds vs → vs = ns.map V.str
  | [], vs, ns, e, r => by cases (show vs = [] from r); cases e; rfl
  | d :: ds, vs, ns, e, r => by
    obtain ⟨v, us, rfl, h1, h2⟩ := r
    cases d with
    | str i =>
      cases (show v = .str i from h1)
      unfold asStrs at e
      cases z : asStrs ds with
      | none => rw [z] at e; cases e
      | some ms => rw [z] at e; cases e; rw [strs_rep z h2]; rfl
    | _ => cases e
end
theorem insI_perm (x : Int) : ∀ ys : List Int, (insI x ys).Perm (x :: ys)
  | [] => List.Perm.refl _
  | y :: ys => by
    unfold insI
    split
    · exact List.Perm.refl _
    · exact ((insI_perm x ys).cons y).trans (List.Perm.swap x y ys)
theorem sortI_perm : ∀ xs : List Int, (sortI xs).Perm xs
  | [] => List.Perm.refl _
  | x :: xs => (insI_perm x (sortI xs)).trans ((sortI_perm xs).cons x)
theorem insI_sorted (x : Int) : ∀ {ys : List Int}, ys.Pairwise (· ≤ ·) → (insI x ys).Pairwise (· ≤ ·)
  | [], _ => by simp [insI]
  | y :: ys, h => by
    have h' := List.pairwise_cons.mp h
    unfold insI
    split
    · rename_i hx
      refine List.pairwise_cons.mpr ⟨fun z hz => ?_, h⟩
      rcases List.mem_cons.mp hz with rfl | hz
      · exact hx
      · exact Int.le_trans hx (h'.1 z hz)
    · rename_i hx
      refine List.pairwise_cons.mpr ⟨fun z hz => ?_, insI_sorted x h'.2⟩
      rcases List.mem_cons.mp ((insI_perm x ys).mem_iff.mp hz) with rfl | hz
      · omega
      · exact h'.1 z hz
theorem sortI_sorted : ∀ xs : List Int, (sortI xs).Pairwise (· ≤ ·)
  | [] => List.Pairwise.nil
  | x :: xs => insI_sorted x (sortI_sorted xs)
theorem sorted_uniq : ∀ {xs ys : List Int}, xs.Perm ys → xs.Pairwise (· ≤ ·) → ys.Pairwise (· ≤ ·) → xs = ys
  | [], ys, p, _, _ => by rw [List.Perm.nil_eq p]
  | x :: xs, [], p, _, _ => absurd p.length_eq (by simp)
  | x :: xs, y :: ys, p, h1, h2 => by
    have a := List.pairwise_cons.mp h1
    have b := List.pairwise_cons.mp h2
    have e : x = y := by
      have m1 : x ∈ y :: ys := p.mem_iff.mp (by simp)
      have m2 : y ∈ x :: xs := p.mem_iff.mpr (by simp)
      rcases List.mem_cons.mp m1 with e | m1
      · exact e
      · rcases List.mem_cons.mp m2 with e | m2
        · exact e.symm
        · have := b.1 x m1
          have := a.1 y m2
          omega
    subst e
    rw [sorted_uniq ((List.perm_cons x).mp p) a.2 b.2]
section
variable {X : Cx} {a b : Expr} {ma mb : Env → M D} {pos apos p1 p2 p3 : Pos}
theorem cb_sorted : CallR X (.builtin "sorted") (rCB X.K X.mg bSorted) := by
  intro pins s st H xs us Q I r ⟨io, m, ps, S, hp, h⟩
  unfold bSorted at h
  split at h <;> first | exact h.elim | skip
  rename_i d
  obtain ⟨v, rfl, hv⟩ := rep1 hp
  split at h <;> first | exact h.elim | skip
  rename_i ys e
  obtain ⟨a, vs, rfl, q1, r1⟩ := topLst S hv e
  split at h <;> first | exact h.elim | skip
  rename_i ns e2
  have ev := ints_rep e2 r1
  subst ev
  refine cr_sortedI pins s st H _ us Q I r ⟨a, ns, rfl, SqL.of q1, fun ns' p hperm hs hp => ?_⟩
  have : ns' = sortI ns := sorted_uniq (hperm.trans (sortI_perm ns).symm) hs (sortI_sorted ns)
  subst this
  exact WV.frozen h S hp (repLst S hp (RepVs.ints _))
theorem se_jn (ha : PE X a (tM X.K X.mg ma)) (hb : PE X b (tM X.K X.mg mb)) (hn : nsup a = true) (hs : nst b = true) (hl : (apos.endLine == pos.line) = true) :
    PE X (.Call (.Attribute a "join" apos) [b] [] pos) (tM X.K X.mg fun r => bnd (ma r) fun p => bnd (mb r) fun q => opJoin p q) :=
  PE.mono (pe_join ha hb (by cases b <;> first | rfl | cases hs) (base_nsup hn) hl) fun st H Q ⟨io, r, m, s, h⟩ => tM.bind s h fun io1 H1 m1 p x e1 s1 r1 h1 => by
    have one : ∀ {p : D} {z : Str} {io2 : Pl} {m2 : Sto} {H2 : Hp} {q : D} {y : V}, p = .str z → Ext io m.length H io2 m2.length H2 → S0 X.K X.mg io2 r m2 st H2 → RepV X.K X.mg io2 m2.length H2 q y → Post (opJoin p q m2) (WV X.K X.mg io m H Q) →
        ∃ (a : Str) (p : Addr) (ys : List Str), V.str z = .str a ∧ [y] = [V.ref p] ∧ (SqL X.K H2 p (ys.map V.str) ∨ SqT X.K H2 p (ys.map V.str)) ∧ (ys.map (·.length)).sum + ys.length * a.length ≤ 16777216 ∧ Q (.str (Txt.join a ys)) H2 := by
      intro p z io2 m2 H2 q y ep e2 s2 r2 h2
      subst ep
      unfold opJoin at h2
      dsimp only at h2
      have fin : ∀ (xs : List D) (vs : List V) (c : Addr), y = .ref c → (SqL X.K H2 c vs ∨ SqT X.K H2 c vs) → RepVs X.K X.mg io2 m2.length H2 xs vs → Post (joinD z xs m2) (WV X.K X.mg io m H Q) → ∃ (a : Str) (p : Addr) (ys : List Str), V.str z = .str a ∧ [y] = [V.ref p] ∧ (SqL X.K H2 p (ys.map V.str) ∨ SqT X.K H2 p (ys.map V.str)) ∧ (ys.map (·.length)).sum + ys.length * a.length ≤ 16777216 ∧ Q (.str (Txt.join a ys)) H2 := by
        intro xs vs c ec q1 rr h3
        unfold joinD at h3
        split at h3 <;> first | exact h3.elim | skip
        rename_i ys e
        have ev := strs_rep e rr
        subst ev
        split at h3 <;> first | exact h3.elim | skip
        rename_i hz
        refine ⟨z, c, ys, rfl, by rw [ec], q1, of_decide_eq_true hz, ?_⟩
        rw [TL.join_eq]
        exact (show WV X.K X.mg io m H Q (.str (Str.join z ys)) m2 from h3) io2 H2 _ e2 s2.s rfl
      split at h2 <;> first | exact h2.elim | skip
      · rename_i xs e
        obtain ⟨c, vs, rfl, q1, rr⟩ := topLst s2.s r2 e
        exact fin xs vs c rfl (.inl (SqL.of q1)) rr h2
      · rename_i xs e
        rw [top_tup e] at r2
        obtain ⟨c, vs, rfl, q1, rr⟩ := r2
        exact fin xs vs c rfl (.inr q1) rr h2
    cases p with
    | str z =>
      cases (show x = .str z from r1)
      exact ⟨⟨z, rfl⟩, tM.bind s1 h1 fun io2 H2 m2 q y e2 s2 r2 h2 => one rfl (e1.trans e2) s2 r2 h2⟩
    | _ =>
      exfalso
      have h2 := Post.of_bnd h1
      cases e : mb r m1 with
      | ok q m2 => rw [e] at h2; exact (show False from h2).elim
      | exc C fs m2 => rw [e] at h2; exact (show False from h2).elim
      | bad => rw [e] at h2; exact (show False from h2).elim
theorem rgOk_of {a b : Int} (h : rgOk a b = true) : RgOk a b := by
  have := of_decide_eq_true h
  unfold LIM at this
  exact ⟨this.1, this.2.1, this.2.2.1, this.2.2.2.1, by omega⟩
theorem rng_rep {io : Pl} {N : Nat} {H : Hp} {a b : Int} {K : PySem.W.Frag} {mg : Str → Option Value} : RepVs K mg io N H (rngL a b) (rgV a b) := by
  have e1 : rngL a b = ((List.range (b - a).toNat).map fun k => a + ((k : Nat) : Int)).map D.int := by simp [rngL]
  have e2 : rgV a b = ((List.range (b - a).toNat).map fun k => a + ((k : Nat) : Int)).map V.int := by simp [rgV]
  rw [e1, e2]
  exact RepVs.ints _
theorem se_rl {mu : Bool} (hc : X.calm = true) (hg : Gl X "list") (hm : X.mg "list" = none) (hg2 : Gl X "range") (hm2 : X.mg "range" = none) (hs : nst a = true) (ha : PE X a (tM X.K X.mg ma)) :
    PE X (.Call (.Name "list" p1) [.Call (.Name "range" p2) [a] [] p3] [] pos) (tM X.K X.mg fun r => bnd (ma r) (opRg1 mu)) :=
  PE.mono (pe_listRg hc hg hm (prg_1 hg2 hm2 ha (each_nst hs))) fun st H Q ⟨io, r, m, s, h⟩ => tM.bind s h fun io1 H1 m1 p x e1 s1 r1 h1 => by
    unfold opRg1 at h1
    split at h1 <;> first | exact h1.elim | skip
    rename_i j
    cases repInt r1
    unfold mkRg at h1
    split at h1 <;> first | exact h1.elim | skip
    rename_i ok
    exact ⟨j, rfl, rgOk_of ok, fun q hq => Post.lst (WVpost.from e1 h1) s1.s hq rng_rep⟩
theorem se_rl2 {mu : Bool} (hc : X.calm = true) (hg : Gl X "list") (hm : X.mg "list" = none) (hg2 : Gl X "range") (hm2 : X.mg "range" = none) (hs : nst a = true) (hs2 : nst b = true) (ha : PE X a (tM X.K X.mg ma)) (hb : PE X b (tM X.K X.mg mb)) :
    PE X (.Call (.Name "list" p1) [.Call (.Name "range" p2) [a, b] [] p3] [] pos) (tM X.K X.mg fun r => bnd (ma r) fun p => bnd (mb r) fun q => opRg2 mu p q) :=
  PE.mono (pe_listRg hc hg hm (prg_2 hg2 hm2 ha hb (each_nst hs) (each_nst hs2) (nst_none (by rw [List.all_cons, hs2]; rfl)))) fun st H Q ⟨io, r, m, s, h⟩ => tM.bind s h fun io1 H1 m1 p x e1 s1 r1 h1 => tM.bind s1 h1 fun io2 H2 m2 q y e2 s2 r2 h2 => by
    unfold opRg2 at h2
    split at h2 <;> first | exact h2.elim | skip
    rename_i i j
    cases repInt r1
    cases repInt r2
    unfold mkRg at h2
    split at h2 <;> first | exact h2.elim | skip
    rename_i ok
    exact ⟨i, j, rfl, rfl, rgOk_of ok, fun q hq => Post.lst (WVpost.from (e1.trans e2) h2) s2.s hq rng_rep⟩
theorem find_rep {io : Pl} {N : Nat} {H : Hp} {K : PySem.W.Frag} {mg : Str → Option Value} {d : D} {v : V} (hd : d.flat = true) (q : RepV K mg io N H d v) : ∀ {ds : List D} {vs : List V} {k : Nat}, ds.all D.flat = true → RepVs K mg io N H ds vs → findD d ds = some k →
    ∃ z, vs[k]? = some z ∧ eqV z v = true ∧ ∀ (m : Nat) (z' : V), m < k → vs[m]? = some z' → eqV z' v = false
  | [], vs, k, _, _, e => by cases e
  | x :: xs, vs, k, h, r, e => by
    rw [List.all_cons, Bool.and_eq_true] at h
    obtain ⟨u, us, rfl, h1, h2⟩ := r
    have eu := eqF_rep h.1 hd h1 q
    unfold findD at e
    split at e
    · rename_i he
      cases e
      exact ⟨u, rfl, by rw [eu]; exact he, fun m z' hm _ => absurd hm (Nat.not_lt_zero _)⟩
    · rename_i he
      cases e2 : findD d xs with
      | none => rw [e2] at e; cases e
      | some j =>
        rw [e2] at e
        cases e
        obtain ⟨z, z1, z2, z3⟩ := find_rep hd q h.2 h2 e2
        refine ⟨z, by simpa using z1, z2, fun m z' hm hz => ?_⟩
        cases m with
        | zero =>
          simp at hz
          subst hz
          rw [eu]
          simpa using he
        | succ m => exact z3 m z' (by have hm : m + 1 < j + 1 := hm; omega) (by simpa using hz)
theorem se_li (ha : PE X a (tM X.K X.mg ma)) (hb : PE X b (tM X.K X.mg mb)) (hn : nsup a = true) (hs : nst b = true) (hl : (apos.endLine == pos.line) = true) :
    PE X (.Call (.Attribute a "index" apos) [b] [] pos) (tM X.K X.mg fun r => bnd (ma r) fun p => bnd (preT p) fun _ => bnd (mb r) fun q => opIdx p q) := by
  have hs' : [b].all nst = true := by rw [List.all_cons, hs]; rfl
  refine PE.mono (pe_bm PySem.F.plainAttrs_list PySem.F.slot_list_index PySem.F.type_list_index mt_index ha (pa_cons hb pa_nil (each_nst hs)) (base_nsup hn) (by
      rw [nst_all hs']
      rfl) hl (each_nst hs) rfl) fun st H Q ⟨io, r, m, s, h⟩ => tM.bind s h fun io1 H1 m1 p x e1 s1 r1 h1 => ?_
  have h1 := Post.of_bnd h1
  unfold preT at h1
  split at h1 <;> first | exact h1.elim | skip
  rename_i xs0 e0
  obtain ⟨c0, vs0, ex, q0, _⟩ := topLst s1.s r1 e0
  subst ex
  refine ⟨.inl ⟨rfl, vs0, SqL.of q0⟩, ?_⟩
  refine tM.bind s1 (show Post (bnd (mb r) (fun q => opIdx p q) m1) _ from h1) fun io2 H2 m2 q y e2 s2 r2 h2 => ?_
  unfold opIdx at h2
  split at h2 <;> first | exact h2.elim | skip
  rename_i xs e
  obtain ⟨c, vs, ec, q1, rr⟩ := topLst s2.s (r1.keep s1.s e2) e
  split at h2 <;> first | exact h2.elim | skip
  rename_i hf
  rw [Bool.and_eq_true] at hf
  split at h2 <;> first | exact h2.elim | skip
  rename_i k ek
  obtain ⟨z, z1, z2, z3⟩ := find_rep hf.1 r2 hf.2 rr ek
  refine ⟨c, vs, y, k, z, ec, rfl, SqL.of q1, flat_rep hf.1 r2, flats_rep hf.2 rr, z1, z2, z3, ?_⟩
  exact (show WV X.K X.mg io m H Q (.int (k : Nat)) m2 from h2) io2 H2 _ (e1.trans e2) s2.s rfl
end
end LC

/-! # LcO3: enumerate over a tuple, o[i] op= e -/
namespace PySem
open AutoSeq1 (wpAny_loadPart')
set_option maxHeartbeats 4000000 in
theorem meets_enumerate_newB1 {v : Value} {o : Obj} {H : Heap → Prop} (B : Begins v o H) :
    Meets (Builtin.«enumerate.__new__» ⟨[.type "enumerate", v], []⟩) (fun _ R s => H s.heap ∧
      R (.ok (.ret (.ref (s.heap.push o).objs.size))) { s with heap := (s.heap.push o).push { cls := .type "enumerate", data := .fields #[.none, .bool false, .ref s.heap.objs.size, rawInt 0, .none, .none] } }) :=
  .of_wp fun prog w A R s h => by
    obtain ⟨hp, g, d, tk, os⟩ := s; obtain ⟨h1, h⟩ := h
    have hsub := sub_enumerate
    have q1 : ∀ {A' : Around} {E : Value → Shared → Prop} {Q : Value → Shared → Prop}, Q (.ref hp.objs.size) ⟨hp.push o, g, d, tk, os⟩ → wpAny (model prog w) A' (pyIter v) Q E ⟨hp, g, d, tk, os⟩ :=
      fun q => B.iter prog w _ _ ⟨hp, g, d, tk, os⟩ _ h1 q
    wp_walk using q1
    refine wpAny_stack_any fun st => wpAny_pure ?_
    split
    · rename_i c _ _ _ _ _
      cases (c == Value.type "enumerate")
      · wp_walk using q1
        exact ⟨_, rfl, h⟩
      · wp_walk using q1
        exact ⟨_, rfl, h⟩
    · wp_walk using q1
      exact ⟨_, rfl, h⟩
theorem enum_begins1 {prog : Program} {w : World} {A : Around} {E : Value → Shared → Prop} {s : Shared} {v : Value} {o : Obj} {H : Heap → Prop} {Q : Value → Shared → Prop} (B : Begins v o H) (h1 : H s.heap)
    (h : ∀ h', IsEnum h' (s.heap.objs.size + 1) s.heap.objs.size 0 .none → h'.get? s.heap.objs.size = some o → h'.objs.size = s.heap.objs.size + 2 →
      (∀ b o, s.heap.get? b = some o → h'.get? b = some o) → Q (.ref (s.heap.objs.size + 1)) { s with heap := h' }) :
    wpAny (model prog w) A (call (.type "enumerate") [v]) Q E s := by
  refine callType_new F.called_enumerate (by decide) (F.typeCall_enumerate_1 _) (F.newCall_enumerate_1 _) (fun obj => F.args_object_init_2 obj _) F.entry_enumerate_new
    (meets_enumerate_newB1 B) ⟨h1, ?_⟩
  have hz : (s.heap.push o).objs.size = s.heap.objs.size + 1 := Heap.size_push ..
  show _ ∧ _
  rw [hz]
  have he : IsEnum ((s.heap.push o).push { cls := .type "enumerate", data := .fields #[.none, .bool false, .ref s.heap.objs.size, rawInt 0, .none, .none] }) (s.heap.objs.size + 1) s.heap.objs.size 0 .none := by
    have := Heap.get?_push_size (s.heap.push o) (o := { cls := .type "enumerate", data := .fields #[.none, .bool false, .ref s.heap.objs.size, rawInt 0, .none, .none] }) rfl
    rw [hz] at this; exact this
  refine ⟨⟨_, he, rfl⟩, h _ he (Heap.get?_push_of_some _ (Heap.get?_push_size _ B.free)) (by rw [Heap.size_push, hz]) fun b o x => Heap.get?_push_of_some _ (Heap.get?_push_of_some _ x)⟩
end PySem
namespace LC
open PySem PySem.Spec PyProof.Rows L2
/-- the tuple at a, each item in a new pair -/
def IteT (K : PySem.W.Frag) (a : Addr) : It :=
  ⟨fun i H => ∃ (xs : List V) (x : V), SqT K H a xs ∧ xs[i]? = some x, fun i H v H' => ∃ T x, v = .ref T ∧ H T = none ∧ H' = upd H T (.tup [.int (i : Nat), x]) ∧ ∀ xs, SqT K H a xs → xs[i]? = some x, fun i H => ∃ xs : List V, SqT K H a xs ∧ xs.length ≤ i⟩
theorem turn_enumT {P : Program} {w : World} {K : PySem.W.Frag} {elts : List Expr} {kk : Nat} {tpos : Pos} (a e it : Addr) :
    Turn P w K (.Tuple elts kk tpos) (IteT K a) [e, it] e (fun i h => (∃ old, IsEnum h e it ((i : Nat) : Int) old) ∧ h.IsTupleIter it a i ∧ e ≠ it) where
  mem := by simp
  obj := fun i h st b hb => by
    obtain ⟨⟨old, he⟩, ⟨o, ho, hc, hd⟩, _⟩ := st
    have e' : b = e ∨ b = it := by simpa using hb
    rcases e' with z | z
    · rw [z]; exact ⟨_, he, fun v q => nomatch q⟩
    · rw [z]; exact ⟨o, ho, fun v q => by rw [hd] at q; cases q⟩
  keep := fun i h h' st k => let ⟨⟨old, he⟩, hi, hne⟩ := st; ⟨⟨old, k e (by simp) _ he⟩, hi.at fun o q => k it (by simp) o q, hne⟩
  item := by
    intro X hP hw hK hc i pins s σ H E I hf st hg
    subst hP hw hK
    obtain ⟨⟨old, he⟩, hit, hne⟩ := st
    obtain ⟨xs, x, hq, hx⟩ := hg
    obtain ⟨its, rv, p, hz⟩ := I.tuple hq
    obtain ⟨u, hu, ru⟩ := rv.get hx
    have hel : e < s.heap.objs.size := Heap.lt_size he
    have hil : it < s.heap.objs.size := by obtain ⟨_, q, _⟩ := hit; exact Heap.lt_size q
    have hia : a ≠ it := by
      intro z
      obtain ⟨o1, q1, c1, _⟩ := hit
      obtain ⟨o2, q2, c2, _⟩ := p
      rw [z, q1] at q2
      cases q2
      rw [c1] at c2
      exact absurd (Value.type.inj c2) (by decide)
    have hea : a ≠ e := by
      intro z
      obtain ⟨o2, q2, c2, _⟩ := p
      rw [z] at q2
      rw [show s.heap.get? e = some _ from he] at q2
      cases q2
      exact absurd (Value.type.inj c2) (by decide)
    have hsz : i < its.toArray.size := by
      have := (List.getElem?_eq_some_iff.mp hu).1
      simpa using this
    refine wpAny_pyNext_enum_itemD (Draws.tuple (A := X.A.in1) (show X.A.in1.handled = none from I.ok.hd hc) it a hia its.toArray) he ⟨hit, p⟩ hsz hne (by simp [hne, Ne.symm hea]) fun x' h' tk hx' ho hit' hT hsz hk => ?_
    have ex : x' = u := by
      have : its.toArray[i]? = some u := by simpa using hu
      rw [this] at hx'
      exact (Option.some.inj hx').symm
    subst ex
    refine ⟨_, rfl, wpAny_letOwnedTupleGo_enum (s := { s with heap := h', toks := tk + 1 }) ho fun h'' he' sb => ?_⟩
    have hT2 : h''.get? s.heap.objs.size = some { cls := .type "tuple", data := .seq #[.int i tk, x'] } := (sb.2 _ (Nat.ne_of_gt hel)).trans hT
    have new : ObjOk X.prog X.w (upd H s.heap.objs.size (.tup [.int (i : Nat), x])) h'' s.heap.objs.size (.tup [.int (i : Nat), x]) :=
      ⟨by show 2 ≤ sizeLine; decide, [.int i tk, x'], .cons ⟨_, rfl⟩ (.cons ru .nil), ⟨_, hT2, rfl, _, rfl⟩⟩
    have I1 : Inv X pins σ (upd H s.heap.objs.size (.tup [.int (i : Nat), x])) { s with heap := h'', toks := tk + 1 } :=
      I.turnedNew (ch := [e, it]) (fun b ob hb q => (sb.2 b (fun z => hb (by simp [z]))).trans (hk b ob (fun z => hb (by simp [z])) (fun z => hb (by simp [z])) q)) hf (Nat.le_refl _) new
    refine ⟨.ref s.heap.objs.size, _, I1, rfl, ⟨_, x, rfl, I.hok.fresh (Nat.le_refl _), rfl, fun ys hy => by rw [I.tuple_inj hy hq]; exact hx⟩, ⟨⟨x', ?_⟩, hit'.1.at fun o q => (sb.2 it (Ne.symm hne)).trans q, hne⟩, fun b hb => ?_⟩
    · have e1 : ((i + 1 : Nat) : Int) = (i : Int) + 1 := by omega
      rw [e1]; exact he'
    · have hb' : b < s.heap.objs.size := by
        have e' : b = e ∨ b = it := by simpa using hb
        rcases e' with z | z
        · rw [z]; exact hel
        · rw [z]; exact hil
      rw [upd_ne (Nat.ne_of_lt hb')]
      exact (hf b hb).1
  done := by
    intro X hP hw hK hc i pins s σ H E I hf st hg
    subst hP hw hK
    obtain ⟨⟨old, he⟩, hit, hne⟩ := st
    obtain ⟨xs, hq, hx⟩ := hg
    obtain ⟨its, rv, p, hz⟩ := I.tuple hq
    obtain ⟨f0, f1, f2, f3, f4, f5⟩ := hf it (by simp)
    have hl := rv.length
    have hT : s.TypeIs (.ref e) "enumerate" := ⟨_, he, rfl⟩
    unfold pyNext
    refine wpAny_bind (wpAny_attempt (wpAny_callSpecial?_slot (name := Str.ofString "__next__") hT F.slot_enumerate_next
      (wpAny_call_entry F.slot_enumerate_next hT F.entry_enumerate_next ?_ (F.args_enumerate_next_1 _))))
    show wpAny _ _ (field (.ref e) 2 >>= _) _ _ _
    refine wpAny_bind (wpAny_field he rfl (x := .ref it) rfl ?_)
    refine wpAny_bind (wpAny_nextOf_tuple_end (I.ok.hd hc) hit p (by simp; omega) fun h' x he' hx' => ?_)
    obtain ⟨o, ho, hc⟩ := hx'
    refine wpAny_bind (wpAny_isInstance (T := "StopIteration") (b := true) ⟨o, ho, hc⟩ isSubtype_stop ?_)
    exact wpAny_pure ⟨rfl, I.turned (t' := s.toks) (fun b o hb q => he' b o hb q) f0 f1 f3 f4 f5⟩
  self := fun A i s Q E st h => let ⟨⟨_, he⟩, _⟩ := st; wpAny_pyIter_enum he h
def iEnumT (K : PySem.W.Frag) (ta : TA) : TI := fun σ H R => ta σ H fun vs H1 => ∃ a xs, vs = [.ref a] ∧ ((SqL K H1 a xs ∧ R (Ite K a) H1) ∨ (SqT K H1 a xs ∧ R (IteT K a) H1))
theorem pi_enumT {X : Cx} {e : Expr} {ta : TA} {p pos tpos : Pos} {elts : List Expr} {kk : Nat} (hg : Gl X "enumerate") (hm : X.mg "enumerate" = none) (ha : PA X [e] ta) (hs : starEach [e] X.env = [(false, eval e X.env)] := by rfl) :
    PI X (.Tuple elts kk tpos) (.Call (.Name "enumerate" p) [e] [] pos) (iEnumT X.K ta) := by
  refine ⟨fun pins s σ H R I h => ?_⟩
  refine Call_ (ld_blt I hg hm boot_enumerate (PyProof.Rows.callWith_type1 (thn (ha.run pos pins s σ H _ I h) fun us s1 ⟨vs, H1, I1, r1, q1⟩ => ?_) hs rfl))
  obtain ⟨a, xs, ex, q1⟩ := q1
  subst ex
  cases r1 with
  | cons r rr =>
    cases rr
    cases r
    rcases q1 with ⟨hq, q⟩ | ⟨hq, q⟩
    · obtain ⟨its, rv, p', hz⟩ := I1.list hq
      refine call_enumerate_list p'.isList fun h' he hit hsz hk => wpAny_pyIter_enum he ?_
      have I2 : Inv X pins σ H1 { s1 with heap := h' } := I1.kept (t' := s1.toks) hk
      refine ⟨s1.heap.objs.size + 1, [s1.heap.objs.size + 1, s1.heap.objs.size], _, _, H1, rfl, I2, turn_enum a (s1.heap.objs.size + 1) s1.heap.objs.size, ⟨⟨.none, he⟩, hit, Nat.succ_ne_self _⟩, fun b hb => ?_, q⟩
      have e' : b = s1.heap.objs.size + 1 ∨ b = s1.heap.objs.size := by simpa using hb
      have hle : s1.heap.objs.size ≤ b := by
        rcases e' with z | z
        · rw [z]; exact Nat.le_add_right _ _
        · rw [z]; exact Nat.le_refl _
      exact I1.fpOk hle (I1.hok.fresh hle)
    · obtain ⟨its, rv, p', hz⟩ := I1.tuple hq
      refine enum_begins1 (begins_tuple a its.toArray) p' fun h' he hit hsz hk => wpAny_pyIter_enum he ?_
      have I2 : Inv X pins σ H1 { s1 with heap := h' } := I1.kept (t' := s1.toks) hk
      refine ⟨s1.heap.objs.size + 1, [s1.heap.objs.size + 1, s1.heap.objs.size], _, _, H1, rfl, I2, turn_enumT a (s1.heap.objs.size + 1) s1.heap.objs.size, ⟨⟨.none, he⟩, ⟨_, hit, rfl, rfl⟩, Nat.succ_ne_self _⟩, fun b hb => ?_, q⟩
      have e' : b = s1.heap.objs.size + 1 ∨ b = s1.heap.objs.size := by simpa using hb
      have hle : s1.heap.objs.size ≤ b := by
        rcases e' with z | z
        · rw [z]; exact Nat.le_add_right _ _
        · rw [z]; exact Nat.le_refl _
      exact I1.fpOk hle (I1.hok.fresh hle)
section
variable {K : PySem.W.Frag} {mg : Str → Option Value} {io : Pl} {m : Sto} {H : Hp} {J : It}
theorem walk_enumT {K : PySem.W.Frag} {a : Addr} {xs : List V} : Walk (IteT K a) xs.length (fun H => SqT K H a xs) (YPair (fun i => some (.int (i : Nat))) (fun i => xs[i]?)) := by
  refine ⟨fun i _ hi q => ⟨xs, xs[i], q, by simp [hi]⟩, fun _ q => ⟨xs, q, Nat.le_refl _⟩, fun i H v H' _ q y => ?_⟩
  obtain ⟨T, x, h1, h2, h3, h4⟩ := y
  exact ⟨T, .int (i : Nat), x, h1, h2, h3, rfl, h4 xs q⟩
theorem SrcOk.fixE {ds : List D} {vs : List V} {G : Hp → Prop} (S : SRel K mg io m H) (hl : RepVs K mg io m.length H ds vs) (w : Walk J vs.length G (YPair (fun i => some (.int (i : Nat))) (fun i => vs[i]?)))
    (hG : ∀ io' N' H', ExtW io m.length H io' N' H' → G H') : SrcOk K mg io m H J (.fix ((List.range ds.length).zip ds |>.map fun p => .tup [.int (p.1 : Nat), p.2])) := by
  intro io' m' H' x S'
  have g := hG io' _ H' x
  have hlen : ((List.range ds.length).zip ds |>.map fun p => D.tup [.int (p.1 : Nat), p.2]).length = vs.length := by rw [List.length_map, List.length_zip, List.length_range, Nat.min_self, hl.length]
  rw [hlen]
  refine ⟨fun i hi => w.goes i H' hi g, w.stops H' g, fun i y H'' hi hy => ?_⟩
  obtain ⟨T, a, b, rfl, h1, rfl, h2, h3⟩ := w.yields i H' y H'' hi g hy
  cases h2
  obtain ⟨d, e1, r1⟩ := (RepVs.keepW S x _ _ hl).getV h3
  refine ⟨.tup [.int (i : Nat), d], ?_, LC.Ext.new h1, S'.new h1, T, [.int (i : Nat), b], rfl, .inl (.inl upd_same), ?_⟩
  · have hi' : i < ds.length := by rw [hl.length]; exact hi
    rw [List.getElem?_map, show ((List.range ds.length).zip ds)[i]? = some (i, d) from List.getElem?_zip_eq_some.mpr ⟨List.getElem?_range hi', e1⟩]
    rfl
  · exact ⟨.int (i : Nat), [b], rfl, rfl, b, [], rfl, r1.keep S' (LC.Ext.new h1), rfl⟩
end
section
variable {X : Cx} {a b e : Expr} {ma mb mc : Env → M D} {ml : Env → M (List D)} {pos np tpos : Pos}
theorem si_enum {elts : List Expr} {kk : Nat} (hg : Gl X "enumerate") (hm : X.mg "enumerate" = none) (hn : nst a = true) (hl : PA X [a] (tL X.K X.mg ml)) : PI X (.Tuple elts kk tpos) (.Call (.Name "enumerate" np) [a] [] pos) (tQ X.K X.mg fun r => bnd (ml r) srcE) :=
  PI.mono (pi_enumT hg hm hl (each_nst hn)) fun st H R ⟨io, r, m, s, h⟩ => tL.bind s h fun io1 H1 m1 p x e1 s1 r1 h1 => by
    unfold srcE at h1
    split at h1 <;> first | exact h1.elim | skip
    · obtain ⟨v, rfl, hv⟩ := rep1 r1
      obtain ⟨c, vs, rfl, q, rv⟩ := hv
      exact ⟨c, vs, rfl, .inr ⟨q, h1 io1 H1 _ e1 s1.s (SrcOk.fixE s1.s rv walk_enumT fun io' N' H' x => SqT.keepW s1.s x q)⟩⟩
    · obtain ⟨v, rfl, hv⟩ := rep1 r1
      obtain ⟨c, vs, rfl, q, nw, rv⟩ := hv
      exact ⟨c, vs, rfl, .inl ⟨SqL.of q, h1 io1 H1 _ e1 s1.s (SrcOk.fixE s1.s rv walk_enum fun io' N' H' x => SqL.of (x.kp _ _ q nw))⟩⟩
theorem pget_list : PGet X (rIxL X.K) := by
  intro pins s σ H x y v u Q I rx ry h
  obtain ⟨p, xs, i, z, rfl, rfl, hq, he, q⟩ := h
  cases rx
  obtain ⟨t, rfl⟩ := ry
  obtain ⟨its, r, pl, hz⟩ := I.list hq
  obtain ⟨j, h1, h2, h3, h4, h5⟩ := L2.atI_get he
  obtain ⟨w, ew, rw'⟩ := r.get h2
  have hl := r.length
  have hn := line63
  have fin : EP X pins σ Q w s := ⟨z, H, I, rw', q⟩
  by_cases h0 : 0 ≤ i
  · have hj : i.toNat = j := by
      rw [seqIndex_of h0 h5] at h1
      exact Option.some.inj h1
    exact wpAny_getItem_list pl.isList h0 (by omega) (by rw [hj]; simpa using ew) fin
  · have hj : (i + (its.toArray.size : Int)).toNat = j := by
      rw [seqIndex_neg (by omega) h4] at h1
      rw [List.size_toArray, ← hl]
      exact Option.some.inj h1
    exact wpAny_getItem_list_neg pl.isList (by omega) (by rw [List.size_toArray] <;> omega) (by omega) (by rw [hj]; simpa using ew) fin
theorem get_any : PGet X (rOp X.K X.mg opGet) := fun pins s st H x y v u Q I rx ry ⟨io, m, p, q, S, hp, hq, h⟩ => by
  unfold opGet at h
  split at h <;> first | exact h.elim | skip
  rename_i j i
  split at h <;> first | exact h.elim | skip
  rename_i xs e
  obtain ⟨hj, rfl⟩ := hp
  subst hq
  obtain ⟨vs, h1, r⟩ := S.ob j _ e
  obtain ⟨d, e2, h⟩ := oOut_post h
  obtain ⟨w, e3, rw⟩ := atI_rep r e2
  exact pget_list pins s st H _ _ v u Q I rx ry ⟨io j, vs, i, w, rfl, rfl, SqL.of h1, e3, WV.here h S rw⟩
theorem s_augs {o : Operator} (ha : PE X a (tM X.K X.mg ma)) (hb : PE X b (tM X.K X.mg mb)) (he : PE X e (tM X.K X.mg mc)) (hs : nsl b = true) :
    PS X (.AugAssign (.Subscript a b tpos) o e pos) (tS X.K X.mg fun r => bnd (ma r) fun p => bnd (mb r) fun q => bnd (opGet p q) fun u => bnd (mc r) fun w => bnd (opAug o u w) fun h => bnd (opSet p q h) fun _ => LC.ret (.nx r)) :=
  PS.mono (ps_augS ha hb get_any he aug_any set_any (by cases b <;> first | (intros; rfl) | cases hs)) fun Ds st H ⟨io, r, m, s, h⟩ =>
    tM.bind s h fun io1 H1 m1 p x e1 s1 r1 h1 => tM.bind s1 h1 fun io2 H2 m2 q y e2 s2 r2 h2 => by
      refine rOp.mk s2.s (r1.keep s1.s e2) r2 ((Post.of_bnd h2).mono fun u m3 h3 io3 H3 z e3 S3 r3 => ?_)
      have s3 := s2.next e3 S3
      refine tM.bind s3 h3 fun io4 H4 m4 w t e4 s4 r4 h4 => ?_
      refine rOp.mk s4.s (r3.keep S3 e4) r4 ((Post.of_bnd h4).mono fun g m5 h5 io5 H5 k e5 S5 r5 => ?_)
      refine ⟨io5, m5, p, q, g, S5, (((r1.keep s1.s e2).keep s2.s e3).keep S3 e4).keep s4.s e5, ((r2.keep s2.s e3).keep S3 e4).keep s4.s e5, r5, (Post.of_bnd h5).mono fun _ m6 h6 H6 e6 S6 => ?_⟩
      exact (show WF X.K X.mg io m H Ds (.nx r) m6 from h6) io5 _ H6 (((((e1.trans e2).trans e3).trans e4).trans e5).trans e6) S6 ((s4.e.keep s4.s e5).keep S5 e6)
end
end LC

/-! # LcP: the written text against the terms -/
namespace LC
open PySem PySem.Spec PyProof.Rows L2
/-- the names of a block -/
structure CK where
  N : List Str
  sc : Scope
  fn : Str → Bool
/-- what stands at the top of the program -/
structure GT where
  n : Nat
  fns : List (Str × Nat)
  noG : List Str
  kws : List (Nat × List Str × List Nat)
  cls : List LC.Cls
def isK (c : CK) (x : Str) (k : NameKind) : Bool := c.sc.names.lookup x == some k
def slotC (c : CK) (k : Nat) (x : Str) : Bool := c.N[k]? == some x
def visC (c : CK) (x : Str) : Bool := isK c x .local || isK c x .cell || isK c x .free
def storeC (c : CK) (k : Nat) (x : Str) : Bool := slotC c k x && (isK c x .local || isK c x .cell) && (c.fn x || isK c x .local)
def ndb (x : Str) : Bool := !(x == ("__debug__" : Str))
def globC (c : CK) (x : Str) : Bool := isK c x .globalImplicit && ndb x
def bltC (G : GT) (c : CK) (x : Str) : Bool := globC c x && G.noG.contains x && !(x == ("__name__" : Str))
def B.nm : B → String
  | .len => "len" | .abs => "abs" | .max => "max" | .min => "min" | .sum => "sum" | .all => "all" | .any => "any" | .divmod => "divmod" | .isinst => "isinstance" | .repr => "repr" | .sorted => "sorted"
def Ty.nm : Ty → String
  | .int => "int" | .str => "str" | .bool => "bool" | .tuple => "tuple" | .list => "list"
def Bm.nm : Bm → String
  | .append => "append" | .extend => "extend"
def isBoolOp : Expr → Bool
  | .BoolOp _ _ _ => true
  | _ => false
def nset : Expr → Bool
  | .Set _ _ _ => false
  | _ => true
theorem nset_ok {e : Expr} {env : PySem.Env} (h : nset e = true) : ∀ x, foldedSetIterable e env x = pure x := by
  intro x
  cases e <;> first | rfl | cases h
def isNil : T → Bool
  | .nil => true
  | _ => false
def ownP (c : CK) (own : List Nat) : List (Str × Nat) := own.filterMap fun k => (c.N[k]?).map fun x => (x, k)
def blkK (c : CK) (scope : Scope) : CK := ⟨c.N, relS scope c.sc, fun x => scope.names.lookup x == some .cell⟩
def wOf : T → List Nat
  | .gv k => [k]
  | .gt es => wOf es
  | .cons x y => wOf x ++ wOf y
  | _ => []
/-- the name is stored by the comprehension itself -/
def swapL (c : CK) (x : Str) (py pos : Pos) (scope : Scope) : Bool := isK c x .local && (py.line == pos.line) && !(scope.names.any fun (n, k) => n == x && (k == .local || k == .cell))
def swapC (c : CK) (x : Str) (py : Pos) : Expr → Bool
  | .ListComp _ _ s p => swapL c x py p s
  | .SetComp _ _ _ _ => true
  | .DictComp _ _ _ _ _ => true
  | _ => false
def isStar : Expr → Bool
  | .Starred _ _ => true
  | _ => false
def notLoc (c : CK) : Expr → Bool
  | .Name id _ => !isK c id .local
  | _ => true
/-- no pair of tuples that is stored from the right -/
def noPar (c : CK) : Expr → Expr → Bool
  | .Tuple ts _ _, .Tuple vs _ _ => !(ts.length == 2 || ts.length == 3) || vs.length != ts.length || vs.any isStar || ts.any (notLoc c) || vs.all (foldedForSure 8)
  | .List _ _, .Tuple _ _ _ => false
  | _, _ => true

structure Ck where
  e : CK → Expr → Bool := fun _ _ => false
  t : CK → Expr → Bool := fun _ _ => false
  a : CK → List Expr → Bool := fun _ _ => false
  k : CK → List Keyword → Bool := fun _ _ => false
  j : CK → List Expr → Bool := fun _ _ => false
  q : CK → Expr → Expr → Bool := fun _ _ _ => false
  g : CK → Expr → Bool := fun _ _ => false
  gs : CK → List Expr → Bool := fun _ _ => false
  s : CK → Stmt → Bool := fun _ _ => false
  ss : CK → List Stmt → Bool := fun _ _ => false

def chk (G : GT) : T → Ck
  | .v k => { e := fun c ex => match ex with | .Name x _ => slotC c k x && visC c x && ndb x && !(x == ("__classdict__" : Str)) | _ => false }
  | .g x => { e := fun c ex => match ex with | .Name y _ => decide (x = y) && globC c y | _ => false }
  | .bt x => { e := fun c ex => match ex with | .Name y _ => decide ((x : Str) = y) && bltC G c y && knownTy x | _ => false }
  | .i n => { e := fun c ex => match ex with | .Constant (.int i) _ _ => decide (n = i) | _ => false }
  | .s x => { e := fun c ex => match ex with | .Constant (.str y) _ _ => decide (x = y) | _ => false }
  | .b k => { e := fun c ex => match ex with | .Constant (.bool y) _ _ => decide (k = y) | _ => false }
  | .n => { e := fun c ex => match ex with | .Constant .none _ _ => true | _ => false }
  | .bin mu o x y => { e := fun c ex => match ex with | .BinOp a o' b _ => decide (o = o') && (chk G x).e c a && (chk G y).e c b | _ => false }
  | .neg x => { e := fun c ex => match ex with | .UnaryOp .USub a _ => (chk G x).e c a | _ => false }
  | .cmp o x y => { e := fun c ex => match ex with | .Compare a [o'] [b] _ => decide (o = o') && !behindInMarks o' b && (chk G x).e c a && (chk G y).e c b | _ => false }
  | .chn o o2 x y z => { e := fun c ex => match ex with | .Compare a [o', o2'] [b, d] _ => decide (o = o') && decide (o2 = o2') && !lastMarks [o', o2'] [b, d] && (chk G x).e c a && (chk G y).e c b && (chk G z).e c d | _ => false }
  | .an x y => { e := fun c ex => match ex with
      | .BoolOp .And [a, b] _ => (chk G x).e c a && (chk G y).e c b
      | .BoolOp .And (a :: b :: d :: r) p => (chk G x).e c a && (chk G y).e c (.BoolOp .And (b :: d :: r) p)
      | _ => false }
  | .or x y => { e := fun c ex => match ex with
      | .BoolOp .Or [a, b] _ => (chk G x).e c a && (chk G y).e c b
      | .BoolOp .Or (a :: b :: d :: r) p => (chk G x).e c a && (chk G y).e c (.BoolOp .Or (b :: d :: r) p)
      | _ => false }
  | .nt x => { e := fun c ex => match ex with | .UnaryOp .Not a _ => (chk G x).e c a | _ => false }
  | .ife d x y => { e := fun c ex => match ex with | .IfExp t a b _ => (chk G d).t c t && (chk G x).e c a && (chk G y).e c b | _ => false }
  | .tup es => { e := fun c ex => match ex with | .Tuple l _ _ => (chk G es).a c l | _ => false }
  | .ls mu es => { e := fun c ex => match ex with | .List l _ => (chk G es).a c l | _ => false }
  | .ix x y => { e := fun c ex => match ex with | .Subscript a b _ => nsl b && (chk G x).e c a && (chk G y).e c b | _ => false }
  | .sl mu x lo hi => { e := fun c ex => match ex with
      | .Subscript a (.Slice l u none _) _ => (chk G x).e c a && (match l with | none => isNil lo | some l => !isNil lo && (chk G lo).e c l) && (match u with | none => isNil hi | some u => !isNil hi && (chk G hi).e c u)
      | _ => false }
  | .rv mu x => { e := fun c ex => match ex with | .Subscript a (.Slice none none (some (.UnaryOp .USub (.Constant (.int z) _ _) _)) _) _ => decide (z = 1) && (chk G x).e c a | _ => false }
  | .at f x => { e := fun c ex => match ex with | .Attribute a f' _ => decide (f = f') && nsup a && (chk G x).e c a | _ => false }
  | .fs es => { e := fun c ex => match ex with | .JoinedStr (v1 :: v2 :: r) _ => (chk G es).j c (v1 :: v2 :: r) | _ => false }
  | .fv x => { e := fun c ex => match ex with
      | .FormattedValue a cv none _ => decide (cv = -1) && (chk G x).e c a
      | .JoinedStr [.FormattedValue a cv none _] _ => decide (cv = -1) && (chk G x).e c a
      | _ => false }
  | .lc mu own e g it d => { e := fun c ex => match ex with
      | .ListComp elt [⟨tg, iter, ifs, z⟩] scope _ => decide (z = 0) && nset iter && blkC c.N c.sc scope (ownP c own) && decide ((ownP c own).map (·.2) = own) && ((wOf g).all own.contains) && (chk G it).q c tg iter && (chk G g).g (blkK c scope) tg &&
          (match ifs with | [] => isNil d | [x] => !isNil d && (chk G d).t (blkK c scope) x | _ => false) && (chk G e).e (blkK c scope) elt
      | _ => false }
  | .call k es => { e := fun c ex => match ex with | .Call (.Name x _) l [] _ => globC c x && decide (G.fns.lookup x = some k) && l.all nst && (chk G es).a c l | _ => false }
  | .callk k es ks ws pm => { e := fun c ex => match ex with | .Call (.Name x _) l kw _ => globC c x && decide (G.fns.lookup x = some k) && l.all nst && kw.all (fun k => k.arg.isSome) && decide (kw.filterMap (·.arg) = ks) && decide ((k, ks, pm) ∈ G.kws) && (chk G es).a c l && (chk G ws).k c kw | _ => false }
  | .mk C es => { e := fun c ex => match ex with | .Call (.Name x _) l [] _ => decide (C = x) && globC c x && (match clOf G.cls x with | some d => d.init.isSome | none => false) && l.all nst && (chk G es).a c l | _ => false }
  | .mkk C es ks ws pm => { e := fun c ex => match ex with | .Call (.Name x _) l kw _ => decide (C = x) && globC c x && (match clOf G.cls x with | some d => (match d.init with | some k => decide ((k, ks, pm) ∈ G.kws) | none => false) | none => false) && l.all nst && kw.all (fun k => k.arg.isSome) && decide (kw.filterMap (·.arg) = ks) && (chk G es).a c l && (chk G ws).k c kw | _ => false }
  | .me f x es => { e := fun c ex => match ex with | .Call (.Attribute o f' apos) l [] pos => decide (f = f') && nsup o && (apos.endLine == pos.line) && l.all nst && decide (l.length < 28) && (chk G x).e c o && (chk G es).a c l | _ => false }
  | .mek f x es ks ws pm => { e := fun c ex => match ex with | .Call (.Attribute o f' apos) l kw pos => decide (f = f') && nsup o && (apos.endLine == pos.line) && l.all nst && decide (l.length + kw.length < 28) && kw.all (fun k => k.arg.isSome) && decide (kw.filterMap (·.arg) = ks) &&
        (G.cls.all fun d => match d.meths.lookup f with | some k => decide ((k, ks, pm) ∈ G.kws) | none => true) && (chk G x).e c o && (chk G es).a c l && (chk G ws).k c kw | _ => false }
  | .eo ne x y => { e := fun c ex => match ex with | .Compare a [o'] [b] _ => decide ((if ne then CmpOp.NotEq else CmpOp.Eq) = o') && !behindInMarks o' b && (chk G x).e c a && (chk G y).e c b | _ => false }
  | .te ne x y => { t := fun c ex => match ex with | .Compare a [o'] [b] _ => decide ((if ne then CmpOp.NotEq else CmpOp.Eq) = o') && !behindInMarks o' b && (chk G x).e c a && (chk G y).e c b | _ => false }
  | .bo es => { e := fun c ex => match ex with | .Call (.Name x _) (a :: l) [] _ => decide (("bool" : Str) = x) && bltC G c x && (a :: l).all nst && (chk G es).a c (a :: l) | _ => false }
  | .bi f es => { e := fun c ex => match ex with | .Call (.Name x _) (a :: l) [] _ => decide ((f.nm : Str) = x) && bltC G c x && (a :: l).all nst && (chk G es).a c (a :: l) | _ => false }
  | .ty f mu es => { e := fun c ex => match ex with | .Call (.Name x _) (a :: l) [] _ => decide ((f.nm : Str) = x) && bltC G c x && (a :: l).all nst && (chk G es).a c (a :: l) | _ => false }
  | .bm f x es => { e := fun c ex => match ex with | .Call (.Attribute o f' apos) (a :: l) [] pos => decide ((f.nm : Str) = f') && nsup o && (apos.endLine == pos.line) && (a :: l).all nst && decide ((a :: l).length < 29) && (chk G x).e c o && (chk G es).a c (a :: l) | _ => false }
  | .jn x y => { e := fun c ex => match ex with | .Call (.Attribute o f' apos) [a] [] pos => decide (f' = ("join" : Str)) && nsup o && nst a && (apos.endLine == pos.line) && (chk G x).e c o && (chk G y).e c a | _ => false }
  | .li x y => { e := fun c ex => match ex with | .Call (.Attribute o f' apos) [a] [] pos => decide (f' = ("index" : Str)) && nsup o && nst a && (apos.endLine == pos.line) && (chk G x).e c o && (chk G y).e c a | _ => false }
  | .rl mu x => { e := fun c ex => match ex with | .Call (.Name y _) [.Call (.Name z _) [a] [] _] [] _ => decide (("list" : Str) = y) && bltC G c y && decide (("range" : Str) = z) && bltC G c z && nst a && (chk G x).e c a | _ => false }
  | .rl2 mu x x2 => { e := fun c ex => match ex with | .Call (.Name y _) [.Call (.Name z _) [a, b] [] _] [] _ => decide (("list" : Str) = y) && bltC G c y && decide (("range" : Str) = z) && bltC G c z && nst a && nst b && (chk G x).e c a && (chk G x2).e c b | _ => false }
  | .nil => { a := fun c l => match l with | [] => true | _ => false, k := fun c l => match l with | [] => true | _ => false, j := fun c l => match l with | [] => true | _ => false, gs := fun c l => match l with | [] => true | _ => false, ss := fun c l => match l with | [] => true | _ => false }
  | .cons x y => { a := fun c l => match l with | a :: l => nst a && (chk G x).e c a && (chk G y).a c l | _ => false,
                   k := fun c l => match l with | ⟨_, a, _⟩ :: l => (chk G x).e c a && (chk G y).k c l | _ => false,
                   j := fun c l => match l with | a :: l => (chk G x).e c a && (chk G y).j c l | _ => false,
                   gs := fun c l => match l with | a :: l => nst a && (chk G x).g c a && (chk G y).gs c l | _ => false,
                   ss := fun c l => match l with | a :: l => (chk G x).s c a && (chk G y).ss c l | _ => false }
  | .star x y => { a := fun c l => match l with | .Starred a _ :: l => (chk G x).e c a && (chk G y).a c l | _ => false }
  | .tc o x y => { t := fun c ex => match ex with | .Compare a [o'] [b] _ => decide (o = o') && !behindInMarks o' b && (chk G x).e c a && (chk G y).e c b | _ => false }
  | .tch o o2 x y z => { t := fun c ex => match ex with | .Compare a [o', o2'] [b, d] _ => decide (o = o') && decide (o2 = o2') && !lastMarks [o', o2'] [b, d] && (chk G x).e c a && (chk G y).e c b && (chk G z).e c d | _ => false }
  | .ta x y => { t := fun c ex => match ex with
      | .BoolOp .And [a, b] _ => (chk G x).t c a && (chk G y).t c b
      | .BoolOp .And (a :: b :: d :: r) p => (chk G x).t c a && (chk G y).t c (.BoolOp .And (b :: d :: r) p)
      | _ => false }
  | .to x y => { t := fun c ex => match ex with
      | .BoolOp .Or [a, b] _ => (chk G x).t c a && (chk G y).t c b
      | .BoolOp .Or (a :: b :: d :: r) p => (chk G x).t c a && (chk G y).t c (.BoolOp .Or (b :: d :: r) p)
      | _ => false }
  | .tn x => { t := fun c ex => match ex with | .UnaryOp .Not a _ => (chk G x).t c a | _ => false }
  | .tv x => { t := fun c ex => ntest ex && (chk G x).e c ex }
  | .itr es => { q := fun c tg ex => match ex with
      | .Call (.Name x _) [a] [] _ => decide (("range" : Str) = x) && bltC G c x && nst a && (chk G es).a c [a]
      | .Call (.Name x _) [a, b] [] _ => decide (("range" : Str) = x) && bltC G c x && nst a && nst b && (chk G es).a c [a, b]
      | .Call (.Name x _) [a, b, d] [] _ => decide (("range" : Str) = x) && bltC G c x && nst a && nst b && nst d && (chk G es).a c [a, b, d]
      | _ => false }
  | .ite es => { q := fun c tg ex => match tg, ex with
      | .Tuple _ _ _, .Call (.Name x _) [a] [] _ => decide (("enumerate" : Str) = x) && bltC G c x && nst a && (chk G es).a c [a]
      | _, _ => false }
  | .itz es => { q := fun c tg ex => match tg, ex with
      | .Tuple _ _ _, .Call (.Name x _) [a, b] [] _ => decide (("zip" : Str) = x) && bltC G c x && nst a && nst b && (chk G es).a c [a, b]
      | _, _ => false }
  | .itv x => { q := fun c tg ex => (chk G x).e c ex }
  | .gv k => { g := fun c ex => match ex with | .Name x _ => storeC c k x | _ => false }
  | .gt es => { g := fun c ex => match ex with | .Tuple l _ _ => l.all nst && (chk G es).gs c l | _ => false }
  | .gs x y => { g := fun c ex => match ex with | .Subscript a b _ => nsl b && (chk G x).e c a && (chk G y).e c b | _ => false }
  | .ga f x => { g := fun c ex => match ex with | .Attribute a f' _ => decide (f = f') && (chk G x).e c a | _ => false }
  | .ret0 => { s := fun c st => match st with | .Return none _ => true | _ => false }
  | .ret x => { s := fun c st => match st with | .Return (some a) _ => (chk G x).e c a | _ => false }
  | .ex1 x => { s := fun c st => match st with | .Expr a _ => ncomp a && (chk G x).e c a | _ => false }
  | .pass => { s := fun c st => match st with | .Pass _ => true | _ => false }
  | .brk => { s := fun c st => match st with | .Break _ => true | _ => false }
  | .cnt => { s := fun c st => match st with | .Continue _ => true | _ => false }
  | .ifs d x y => { s := fun c st => match st with | .If t a b _ => (chk G d).t c t && (chk G x).ss c a && (chk G y).ss c b | _ => false }
  | .whl d x => { s := fun c st => match st with | .While t a [] _ => (chk G d).t c t && (chk G x).ss c a | _ => false }
  | .fr g it x => { s := fun c st => match st with | .For tg iter body [] _ => nset iter && (chk G it).q c tg iter && (chk G g).g c tg && (chk G x).ss c body | _ => false }
  | .bad => { s := fun c st => true }
  | .aug k o x => { s := fun c st => match st with | .AugAssign (.Name y _) o' a _ => decide (o = o') && storeC c k y && (chk G x).e c a | _ => false }
  | .augs x y o z => { s := fun c st => match st with | .AugAssign (.Subscript a b _) o' e _ => decide (o = o') && nsl b && (chk G x).e c a && (chk G y).e c b && (chk G z).e c e | _ => false }
  | .try1 x => { s := fun c st => match st with | .Try body (_ :: _) [] [] _ => (chk G x).ss c body | _ => false }
  | .set k x => { s := fun c st => match st with | .Assign [.Name y py] a _ => storeC c k y && !swapC c y py a && (chk G x).e c a | _ => false }
  | .setc k x => { s := fun c st => match st with | .Assign [.Name y py] (.ListComp elt gs scope pos) _ => slotC c k y && swapL c y py pos scope && (chk G x).e c (.ListComp elt gs scope pos) | _ => false }
  | .par ks es => { s := fun c st => match st with
      | .Assign [.Tuple [.Name x px, .Name y py] _ _] (.Tuple [a, b] _ _) _ => (match ks with
          | [i, j] => slotC c i x && slotC c j y && decide (i ≠ j) && decide (x ≠ y) && isK c x .local && isK c y .local && (py.line == px.line) && !(foldedForSure 8 a && foldedForSure 8 b) && !(constantsAlone 8 a && constantsAlone 8 b) && nst a && nst b && (chk G es).a c [a, b]
          | _ => false)
      | .Assign [.Tuple [.Name x px, .Name y py, .Name z pz] _ _] (.Tuple [a, b, d] _ _) _ => (match ks with
          | [i, j, l] => slotC c i x && slotC c j y && slotC c l z && decide (i ≠ j) && decide (i ≠ l) && decide (j ≠ l) && decide (x ≠ y) && decide (x ≠ z) && decide (y ≠ z) && isK c x .local && isK c y .local && isK c z .local && (py.line == px.line) && (pz.line == px.line) &&
              !(foldedForSure 8 a && foldedForSure 8 b && foldedForSure 8 d) && !(constantsAlone 8 a && constantsAlone 8 b && constantsAlone 8 d) && nst a && nst b && nst d && (chk G es).a c [a, b, d]
          | _ => false)
      | _ => false }
  | .asg g x => { s := fun c st => match st with | .Assign [tg] a _ => nst tg && ncomp a && noPar c tg a && (chk G x).e c a && (chk G g).g c tg | _ => false }
end LC

/-! # LcQ: what is checked is so -/
namespace LC
open PySem PySem.Spec PyProof.Rows L2
/-- the surroundings of a text that is checked -/
structure Wx (G : GT) (P : Phi) (T : Nat → DefAt) (ca : Str → Addr) (L : Nat) (X : Cx) (c : CK) : Prop extends Wd X P T ca G.kws G.n L where
  hN : X.N = c.N
  hsc : X.env.scope = c.sc
  hfn : X.fn = c.fn
  hxe : X.xe = fun _ _ => False
  kf : c.sc.kind = .function
  cl : P.cls = G.cls
  fns : ∀ x k, G.fns.lookup x = some k → X.mg x = some (.ref (T k).ad) ∧ PySem.W.keepIn X.K (.ref (T k).ad) = true
  noG : ∀ x, G.noG.contains x = true → X.mg x = none
  glob : ∀ x d, P.glob.lookup x = some d → ∃ u v, X.mg x = some u ∧ RelV v u ∧ ∀ io N H, RepV X.K X.mg io N H d v
section
variable {G : GT} {P : Phi} {T : Nat → DefAt} {ca : Str → Addr} {L : Nat} {X : Cx} {c : CK}
theorem Wx.nox (W : Wx G P T ca L X c) : Wx G P T ca L X.nox c :=
  { top := W.top, bd := W.bd, kb := W.kb, fn := W.fn, out := W.out, gd := W.gd, rm := W.rm, cm := W.cm, nd := W.nd, hN := W.hN, hsc := W.hsc, hfn := W.hfn, hxe := rfl, kf := W.kf, cl := W.cl, fns := W.fns, noG := W.noG, glob := W.glob }
theorem Wx.blk (W : Wx G P T ca L X c) {scope : Scope} (hk : scope.kind = .function) (s : Shared) (H : Hp) (C : Addr) (cl : List (Str × Addr)) (fp : List Addr) : Wx G P T ca L (X.blk s H scope (compEnvC scope cl C X.env) fp) (blkK c scope) :=
  { top := W.top, bd := W.bd, kb := W.kb, fn := W.fn, out := W.out, gd := W.gd, rm := W.rm, cm := W.cm, nd := W.nd, hN := W.hN, hsc := (by
      show relabel scope X.env = relS scope c.sc
      rw [← W.hsc] <;> rfl), hfn := rfl, hxe := rfl, kf := hk, cl := W.cl, fns := W.fns, noG := W.noG, glob := W.glob }
theorem isK_of {x : Str} {k : NameKind} (h : isK c x k = true) : c.sc.names.lookup x = some k := beq_iff_eq.mp h
theorem Wx.slot (W : Wx G P T ca L X c) {k : Nat} {x : Str} (h : slotC c k x = true) : X.N[k]? = some x := by rw [W.hN]; exact beq_iff_eq.mp h
theorem Wx.vis (W : Wx G P T ca L X c) {x : Str} (h : visC c x = true) : Vis X.env.scope x := by
  unfold visC at h
  rw [Bool.or_eq_true, Bool.or_eq_true] at h
  unfold L2.Vis
  rw [W.hsc]
  rcases h with (h | h) | h
  · exact .inl (isK_of h)
  · exact .inr (.inl (isK_of h))
  · exact .inr (.inr (isK_of h))
theorem Wx.store (W : Wx G P T ca L X c) {k : Nat} {x : Str} (h : storeC c k x = true) : X.N[k]? = some x ∧ Loc X.env.scope x ∧ (X.fn x = true ∨ X.env.scope.names.lookup x = some .local) := by
  unfold storeC at h
  rw [Bool.and_eq_true, Bool.and_eq_true, Bool.or_eq_true, Bool.or_eq_true] at h
  obtain ⟨⟨h1, h2⟩, h3⟩ := h
  unfold L2.Loc
  rw [W.hsc, W.hfn]
  exact ⟨W.slot h1, h2.imp isK_of isK_of, h3.imp id isK_of⟩
theorem Wx.gl (W : Wx G P T ca L X c) {x : Str} (h : globC c x = true) : Gl X x ∧ (x == ("__debug__" : Str)) = false := by
  unfold globC ndb at h
  rw [Bool.and_eq_true] at h
  refine ⟨?_, by simpa using h.2⟩
  show X.env.scope.names.lookup x = _
  rw [W.hsc]
  exact isK_of h.1
theorem Wx.blt (W : Wx G P T ca L X c) {x : Str} (h : bltC G c x = true) : Gl X x ∧ X.mg x = none ∧ x ≠ "__name__" ∧ (x == ("__debug__" : Str)) = false := by
  unfold bltC at h
  rw [Bool.and_eq_true, Bool.and_eq_true] at h
  obtain ⟨h1, h2⟩ := W.gl h.1.1
  exact ⟨h1, W.noG x h.1.2, by simpa using h.2, h2⟩
theorem Wx.never (W : Wx G P T ca L X c) : PassesOwn (model X.prog X.w) X.A X.env X.xe := by rw [W.hxe]; exact PassesOwn.never
theorem swap_false {x : Str} {py : Pos} {a : Expr} {l : Nat} (W : Wx G P T ca L X c) (h : swapC c x py a = false) : swapsWith a (some (.Name x py)) l X.env = pure false := by
  cases a with
  | ListComp elt gs s p =>
    have h : swapL c x py p s = false := h
    unfold swapsWith
    show (pure (X.env.blockKind == .function && X.env.kindOf x == some .local && py.line == p.line && !(s.names.any fun (n, k) => n == x && (k == .local || k == .cell))) : Sem Bool) = pure false
    have e : (X.env.kindOf x == some .local) = isK c x .local := by
      show (X.env.scope.names.lookup x == some .local) = _
      rw [W.hsc] <;> rfl
    rw [e]
    unfold swapL at h
    congr 1
    cases h1 : isK c x .local <;> cases h2 : (py.line == p.line) <;> cases h3 : (s.names.any fun (n, k) => n == x && (k == .local || k == .cell)) <;> simp_all
  | SetComp _ _ _ _ => cases h
  | DictComp _ _ _ _ _ => cases h
  | _ => rfl
theorem swap_true {x : Str} {py pos : Pos} {elt : Expr} {gs : List Comprehension} {scope : Scope} {l : Nat} (W : Wx G P T ca L X c) (h : swapL c x py pos scope = true) : swapsWith (.ListComp elt gs scope pos) (some (.Name x py)) l X.env = pure true := by
  unfold swapL at h
  rw [Bool.and_eq_true, Bool.and_eq_true] at h
  exact sw_true (by rw [W.hsc]; exact W.kf) (by rw [W.hsc]; exact isK_of h.1.1) h.1.2 (by simpa using h.2)
theorem blockKind_of (W : Wx G P T ca L X c) : X.env.blockKind = .function := by
  unfold Env.blockKind
  rw [W.hsc, W.kf]
  rfl
theorem filterMap_short {α β : Type} {f : α → Option β} : ∀ {l : List α}, (∃ t ∈ l, f t = none) → (l.filterMap f).length ≠ l.length
  | [], h => by obtain ⟨t, h, _⟩ := h; cases h
  | a :: l, h => by
    have le := List.length_filterMap_le f l
    obtain ⟨t, h1, h2⟩ := h
    rw [List.filterMap_cons]
    rcases List.mem_cons.mp h1 with e | h1
    · rw [← e, h2]
      simp only [List.length_cons]
      omega
    · have ih := filterMap_short ⟨t, h1, h2⟩
      split
      · simp only [List.length_cons]; omega
      · simp only [List.length_cons]; omega
theorem stores_none (W : Wx G P T ca L X c) {tg a : Expr} (h : noPar c tg a = true) : swappedStores [tg] a X.env = pure none := by
  unfold noPar at h
  split at h
  · rename_i ts _ _ vs _ _
    unfold swappedStores
    simp only []
    split
    · rfl
    · rename_i n1
      split
      · rfl
      · rename_i n2
        split
        · rfl
        · rename_i n3
          split
          · rfl
          · rename_i n4
            exfalso
            simp only [Bool.or_eq_true] at h n1 n3
            rcases h with (((h | h) | h) | h) | h
            · exact n1 (.inl (.inl h))
            · exact n1 (.inl (.inr h))
            · exact n2 h
            · obtain ⟨t, ht, hn⟩ := List.any_eq_true.mp h
              refine n3 (.inl ?_)
              rw [bne_iff_ne]
              refine filterMap_short ⟨t, ht, ?_⟩
              cases t with
              | Name id pos =>
                have e : (X.env.kindOf id == some .local) = isK c id .local := by
                  show (X.env.scope.names.lookup id == some .local) = _
                  rw [W.hsc] <;> rfl
                have hn : (!isK c id .local) = true := hn
                have hn : isK c id .local = false := by simpa using hn
                simp only [e, hn, Bool.false_and, Bool.false_eq_true, if_false]
              | _ => rfl
            · exact n4 h
  · cases h
  · rename_i h1 h2
    cases tg with
    | Tuple ts k p =>
      cases a with
      | Tuple vs k2 p2 => exact (h1 ts k p vs k2 p2 rfl rfl).elim
      | _ => rfl
    | List ts p =>
      cases a with
      | Tuple vs k2 p2 => exact (h2 ts p vs k2 p2 rfl rfl).elim
      | _ => rfl
    | _ => rfl
theorem stores_two (W : Wx G P T ca L X c) {x y : Str} {px py pt pt2 : Pos} {kt k2 : Nat} {a b : Expr} (hx : isK c x .local = true) (hy : isK c y .local = true) (hl : (py.line == px.line) = true) (hn : x ≠ y) (ha : nst a = true) (hb : nst b = true)
    (h1 : (foldedForSure 8 a && foldedForSure 8 b) = false) (h2 : (constantsAlone 8 a && constantsAlone 8 b) = false) : swappedStores [.Tuple [.Name x px, .Name y py] kt pt] (.Tuple [a, b] k2 pt2) X.env = pure (some [x, y]) := by
  have e : ∀ id, (X.env.kindOf id == some .local) = isK c id .local := fun id => by
    show (X.env.scope.names.lookup id == some .local) = _
    rw [W.hsc] <;> rfl
  have st : ∀ z : Expr, nst z = true → isStar z = false := fun z hz => by cases z <;> first | rfl | cases hz
  have hne : (y == x) = false := beq_eq_false_iff_ne.mpr (Ne.symm hn)
  have hl' : (py.line == px.line) = true := hl
  unfold swappedStores
  simp only [List.length_cons, List.length_nil, blockKind_of W, List.any_cons, List.any_nil, List.filterMap_cons, List.filterMap_nil, e, hx, hy, List.head?_cons, Option.map_some, Option.getD_some, Expr.pos, hl', List.all_cons, List.all_nil, Bool.and_true, h1, h2, Bool.true_and]
  simp [List.eraseDups_cons, hne, hn, Ne.symm hn]
  rintro (h | h)
  · exact absurd (show isStar a = true from h) (by rw [st a ha]; simp)
  · exact absurd (show isStar b = true from h) (by rw [st b hb]; simp)
theorem stores_three (W : Wx G P T ca L X c) {x y z : Str} {px py pz pt pt2 : Pos} {kt k2 : Nat} {a b d : Expr} (hx : isK c x .local = true) (hy : isK c y .local = true) (hz : isK c z .local = true) (hl : (py.line == px.line) = true) (hl2 : (pz.line == px.line) = true) (hn : x ≠ y) (hn2 : x ≠ z) (hn3 : y ≠ z)
    (ha : nst a = true) (hb : nst b = true) (hd : nst d = true) (h1 : (foldedForSure 8 a && foldedForSure 8 b && foldedForSure 8 d) = false) (h2 : (constantsAlone 8 a && constantsAlone 8 b && constantsAlone 8 d) = false) :
    swappedStores [.Tuple [.Name x px, .Name y py, .Name z pz] kt pt] (.Tuple [a, b, d] k2 pt2) X.env = pure (some [x, y, z]) := by
  have e : ∀ id, (X.env.kindOf id == some .local) = isK c id .local := fun id => by
    show (X.env.scope.names.lookup id == some .local) = _
    rw [W.hsc] <;> rfl
  have st : ∀ z : Expr, nst z = true → isStar z = false := fun z hz => by cases z <;> first | rfl | cases hz
  rw [Bool.and_assoc] at h1 h2
  unfold swappedStores
  simp only [List.length_cons, List.length_nil, blockKind_of W, List.any_cons, List.any_nil, List.filterMap_cons, List.filterMap_nil, e, hx, hy, hz, List.head?_cons, Option.map_some, Option.getD_some, Expr.pos, hl, hl2, List.all_cons, List.all_nil, Bool.and_true, h1, h2, Bool.true_and]
  simp [List.eraseDups_cons, hn, hn2, hn3, Ne.symm hn, Ne.symm hn2, Ne.symm hn3]
  rintro (h | h | h)
  · exact absurd (show isStar a = true from h) (by rw [st a ha]; simp)
  · exact absurd (show isStar b = true from h) (by rw [st b hb]; simp)
  · exact absurd (show isStar d = true from h) (by rw [st d hd]; simp)
end
end LC

/-! # LcR: the terms are sound -/
namespace LC
open PySem PySem.Spec PyProof.Rows L2
section
variable {X : Cx} {P : Phi} {Tb : Nat → DefAt} {ca : Str → Addr} {kws : List (Nat × List Str × List Nat)} {n L : Nat} {a : Expr} {es : List Expr} {ml : Env → M (List D)} {np pos : Pos}
theorem boot_B (f : B) : bootBuiltins (f.nm : Str) = some (.builtin f.nm) := by cases f <;> decide +kernel
theorem boot_Ty (f : LC.Ty) : bootBuiltins (f.nm : Str) = some (.type f.nm) := by cases f <;> decide +kernel
theorem boot_known {x : String} (h : knownTy x = true) : bootBuiltins (x : Str) = some (.type x) := by
  unfold knownTy at h
  simp only [Bool.or_eq_true, beq_iff_eq] at h
  rcases h with ((((h | h) | h) | h) | h) | h <;> (subst h; decide +kernel)
theorem cb_any_B (W : Wd X P Tb ca kws n L) (f : B) : CallR X (.builtin f.nm) (rCB X.K X.mg (callB P f)) := by
  cases f with
  | len => exact cb_len
  | abs => exact cb_abs
  | max => exact cb_max W.cm
  | min => exact cb_min W.cm
  | sum => exact cb_sum W.cm
  | all => exact cb_all W.cm
  | any => exact cb_any W.cm
  | divmod => exact cb_divmod
  | isinst => exact cb_isinst W
  | repr => exact cb_repr W
  | sorted => exact cb_sorted
theorem ct_any (mu : Bool) (f : LC.Ty) : CallR X (.type f.nm) (rCB X.K X.mg (callT mu f)) := by
  cases f with
  | int => exact ct_int
  | str => exact ct_str
  | bool => exact ct_bool
  | tuple => exact ct_tuple
  | list => exact ct_list
theorem se_bi (W : Wd X P Tb ca kws n L) {f : B} (hg : Gl X f.nm) (hm : X.mg f.nm = none) (hn : (f.nm : Str) ≠ "__name__") (hd : ((f.nm : Str) == ("__debug__" : Str)) = false) (hs : (a :: es).all nst = true) (hl : PA X (a :: es) (tL X.K X.mg ml)) :
    PE X (.Call (.Name f.nm np) (a :: es) [] pos) (tM X.K X.mg fun r => bnd (ml r) (callB P f)) := by
  have hs' := hs
  rw [List.all_cons, Bool.and_eq_true] at hs'
  exact PE.mono (pe_callB (cb_any_B W f) hg hm (boot_B f) hl hn hd (each_nst hs'.1) (nst_none hs'.2)) fun st H Q ⟨io, r, m, s, h⟩ => many s h
theorem se_ty {mu : Bool} {f : LC.Ty} (hg : Gl X f.nm) (hm : X.mg f.nm = none) (hn : (f.nm : Str) ≠ "__name__") (hd : ((f.nm : Str) == ("__debug__" : Str)) = false) (hs : (a :: es).all nst = true) (hl : PA X (a :: es) (tL X.K X.mg ml)) :
    PE X (.Call (.Name f.nm np) (a :: es) [] pos) (tM X.K X.mg fun r => bnd (ml r) (callT mu f)) := by
  have hs' := hs
  rw [List.all_cons, Bool.and_eq_true] at hs'
  exact PE.mono (pe_callTy (ct_any mu f) hg hm (boot_Ty f) hl hn hd (each_nst hs'.1) (nst_none hs'.2)) fun st H Q ⟨io, r, m, s, h⟩ => many s h
end
theorem den_w (P : Phi) : ∀ t : T, (den P t).w = wOf t := by
  intro t
  induction t with
  | cons x y hx hy => show (den P x).w ++ (den P y).w = _; rw [hx, hy]; rfl
  | gt es h => exact h
  | gv k => rfl
  | _ => rfl

/-- a comprehension's parts -/
def LcOk (X : Cx) (elt : Expr) (gs : List Comprehension) (scope : Scope) (f : Env → M D) : Prop :=
  ∃ (tg it : Expr) (ifs : List Expr) (q : Env → M Src) (g : D → Env → M Env) (ws : List Nat) (t : Env → M Bool) (e : Env → M D) (own : List (Str × Nat)) (W : Nat) (mu : Bool), gs = [⟨tg, it, ifs, 0⟩] ∧ BlkOk X.N X.env.scope scope own ∧ (∀ k ∈ ws, k ∈ own.map (·.2)) ∧ PI X tg it (tQ X.K X.mg q) ∧
    (∀ (s : Shared) (H : Hp) (C : Addr) (cl : List (Str × Addr)) (fp : List Addr), PG (X.blk s H scope (compEnvC scope cl C X.env) fp) tg (tG X.K X.mg g ws)) ∧ (∀ (s : Shared) (H : Hp) (C : Addr) (cl : List (Str × Addr)) (fp : List Addr), PTs (X.blk s H scope (compEnvC scope cl C X.env) fp) ifs (tT X.K X.mg t)) ∧
    (∀ (s : Shared) (H : Hp) (C : Addr) (cl : List (Str × Addr)) (fp : List Addr), PE (X.blk s H scope (compEnvC scope cl C X.env) fp) elt (tM X.K X.mg e)) ∧ (∀ x, foldedSetIterable it X.env x = pure x) ∧
    f = fun r => bnd (q r) fun src => bnd (match src with
      | .fix ds => lcL (lcTurn g t e (wipeE r (own.map (·.2)))) ds []
      | .live n => lcV (lcTurn g t e (wipeE r (own.map (·.2)))) n W 0 []) fun xs => if mu then new (.lst xs) else LC.ret (.lst xs)

structure Snd (G : GT) (P : Phi) (Tb : Nat → DefAt) (ca : Str → Addr) (L : Nat) (tm : T) : Prop where
  e : ∀ X c ex, Wx G P Tb ca L X c → (chk G tm).e c ex = true → PE X ex (tM X.K X.mg (den P tm).e)
  lc : ∀ X c elt gs scope pos, Wx G P Tb ca L X c → (chk G tm).e c (.ListComp elt gs scope pos) = true → LcOk X elt gs scope (den P tm).e
  t : ∀ X c ex, Wx G P Tb ca L X c → (chk G tm).t c ex = true → PT X ex (tT X.K X.mg (den P tm).t) ∧ (isBoolOp ex = true → PW X ex (tT X.K X.mg (den P tm).t))
  a : ∀ X c l, Wx G P Tb ca L X c → (chk G tm).a c l = true → PA X l (tL X.K X.mg (den P tm).a) ∧ (l.all nst = true → ∀ r m ds m', (den P tm).a r m = .ok ds m' → ds.length = l.length)
  k : ∀ X c l, Wx G P Tb ca L X c → (chk G tm).k c l = true → PK X l (tL X.K X.mg (den P tm).a)
  j : ∀ X c l, Wx G P Tb ca L X c → (chk G tm).j c l = true → PJ X l ((jOf P tm).map (tM X.K X.mg)) ∧ isRow tm = true
  q : ∀ X c tg ex, Wx G P Tb ca L X c → (chk G tm).q c tg ex = true → PI X tg ex (tQ X.K X.mg (den P tm).q)
  g : ∀ X c ex, Wx G P Tb ca L X c → (chk G tm).g c ex = true → PG X ex (tG X.K X.mg (den P tm).g (den P tm).w)
  gs : ∀ X c l, Wx G P Tb ca L X c → (chk G tm).gs c l = true → PGs X l (tGs X.K X.mg (den P tm).gs (den P tm).w) ∧ ∀ ds r m F, Post ((den P tm).gs ds r m) F → ds.length = l.length
  s : ∀ X c st, Wx G P Tb ca L X c → (chk G tm).s c st = true → PS X st (tS X.K X.mg (den P tm).s)
  ss : ∀ X c st, Wx G P Tb ca L X c → (chk G tm).ss c st = true → PSs X st (tS X.K X.mg (den P tm).s)
section
variable {G : GT} {P : Phi} {Tb : Nat → DefAt} {ca : Str → Addr} {L : Nat} {t : T}
theorem Snd.ofE (ht : chk G t = { e := (chk G t).e }) (hl : ∀ c elt gs scope pos, (chk G t).e c (.ListComp elt gs scope pos) = false) (h : ∀ X c ex, Wx G P Tb ca L X c → (chk G t).e c ex = true → PE X ex (tM X.K X.mg (den P t).e)) : Snd G P Tb ca L t := by
  refine ⟨h, fun X c elt gs sc pos _ q => ?_, fun X c x _ q => ?_, fun X c x _ q => ?_, fun X c x _ q => ?_, fun X c x _ q => ?_, fun X c x y _ q => ?_, fun X c x _ q => ?_, fun X c x _ q => ?_, fun X c x _ q => ?_, fun X c x _ q => ?_⟩
  · rw [hl] at q; cases q
  all_goals (rw [ht] at q; cases q)
theorem Snd.ofT (ht : chk G t = { t := (chk G t).t }) (h : ∀ X c ex, Wx G P Tb ca L X c → (chk G t).t c ex = true → PT X ex (tT X.K X.mg (den P t).t) ∧ (isBoolOp ex = true → PW X ex (tT X.K X.mg (den P t).t))) : Snd G P Tb ca L t := by
  refine ⟨fun X c x _ q => ?_, fun X c elt gs sc pos _ q => ?_, h, fun X c x _ q => ?_, fun X c x _ q => ?_, fun X c x _ q => ?_, fun X c x y _ q => ?_, fun X c x _ q => ?_, fun X c x _ q => ?_, fun X c x _ q => ?_, fun X c x _ q => ?_⟩
  all_goals (rw [ht] at q; cases q)
theorem Snd.ofQ (ht : chk G t = { q := (chk G t).q }) (h : ∀ X c tg ex, Wx G P Tb ca L X c → (chk G t).q c tg ex = true → PI X tg ex (tQ X.K X.mg (den P t).q)) : Snd G P Tb ca L t := by
  refine ⟨fun X c x _ q => ?_, fun X c elt gs sc pos _ q => ?_, fun X c x _ q => ?_, fun X c x _ q => ?_, fun X c x _ q => ?_, fun X c x _ q => ?_, h, fun X c x _ q => ?_, fun X c x _ q => ?_, fun X c x _ q => ?_, fun X c x _ q => ?_⟩
  all_goals (rw [ht] at q; cases q)
theorem Snd.ofG (ht : chk G t = { g := (chk G t).g }) (h : ∀ X c ex, Wx G P Tb ca L X c → (chk G t).g c ex = true → PG X ex (tG X.K X.mg (den P t).g (den P t).w)) : Snd G P Tb ca L t := by
  refine ⟨fun X c x _ q => ?_, fun X c elt gs sc pos _ q => ?_, fun X c x _ q => ?_, fun X c x _ q => ?_, fun X c x _ q => ?_, fun X c x _ q => ?_, fun X c x y _ q => ?_, h, fun X c x _ q => ?_, fun X c x _ q => ?_, fun X c x _ q => ?_⟩
  all_goals (rw [ht] at q; cases q)
theorem Snd.ofS (ht : chk G t = { s := (chk G t).s }) (h : ∀ X c st, Wx G P Tb ca L X c → (chk G t).s c st = true → PS X st (tS X.K X.mg (den P t).s)) : Snd G P Tb ca L t := by
  refine ⟨fun X c x _ q => ?_, fun X c elt gs sc pos _ q => ?_, fun X c x _ q => ?_, fun X c x _ q => ?_, fun X c x _ q => ?_, fun X c x _ q => ?_, fun X c x y _ q => ?_, fun X c x _ q => ?_, fun X c x _ q => ?_, h, fun X c x _ q => ?_⟩
  all_goals (rw [ht] at q; cases q)
theorem Snd.of0 (ht : chk G t = {}) : Snd G P Tb ca L t := by
  refine ⟨fun X c x _ q => ?_, fun X c elt gs sc pos _ q => ?_, fun X c x _ q => ?_, fun X c x _ q => ?_, fun X c x _ q => ?_, fun X c x _ q => ?_, fun X c x y _ q => ?_, fun X c x _ q => ?_, fun X c x _ q => ?_, fun X c x _ q => ?_, fun X c x _ q => ?_⟩
  all_goals (rw [ht] at q; cases q)
theorem bnd_ok {α β : Type} {x : M α} {f : α → M β} {m m' : Sto} {b : β} (h : bnd x f m = .ok b m') : ∃ a m1, x m = .ok a m1 ∧ f a m1 = .ok b m' := by
  unfold bnd at h
  cases e : x m with
  | ok a m1 => rw [e] at h; exact ⟨a, m1, rfl, h⟩
  | exc C fs m1 => rw [e] at h; cases h
  | bad => rw [e] at h; cases h
theorem pe_absurd {X : Cx} {ex : Expr} {f : Env → M D} (h : ∀ r m, f r m = .bad) : PE X ex (tM X.K X.mg f) := ⟨fun pins s st H Q I ⟨io, r, m, s0, q⟩ => by rw [h r m] at q; exact (show False from q).elim⟩

theorem snd1 : ∀ t : T, Snd G P Tb ca L t := by
  intro t
  induction t with
  | v k =>
    refine Snd.ofE rfl (fun _ _ _ _ _ => rfl) fun X c ex W h => ?_
    cases ex with
    | Name x p =>
      have h : (slotC c k x && visC c x && ndb x && !(x == ("__classdict__" : Str))) = true := h
      rw [Bool.and_eq_true, Bool.and_eq_true, Bool.and_eq_true] at h
      obtain ⟨⟨⟨h1, h2⟩, h3⟩, h4⟩ := h
      exact se_var (W.slot h1) (W.vis h2) (by simpa [ndb] using h3) (by simpa using h4)
    | _ => cases h
  | g x =>
    refine Snd.ofE rfl (fun _ _ _ _ _ => rfl) fun X c ex W h => ?_
    cases ex with
    | Name y p =>
      have h : (decide (x = y) && globC c y) = true := h
      rw [Bool.and_eq_true, decide_eq_true_eq] at h
      obtain ⟨rfl, h⟩ := h
      obtain ⟨h1, h2⟩ := W.gl h
      cases e : P.glob.lookup x with
      | none => exact pe_absurd fun r m => by show oOut (P.glob.lookup x) m = _; rw [e]; rfl
      | some d =>
        obtain ⟨u, v, q1, q2, q3⟩ := W.glob x d e
        exact se_glob h1 q1 q2 h2 fun d' e' => by rw [e] at e'; cases e'; exact q3
    | _ => cases h
  | bt x =>
    refine Snd.ofE rfl (fun _ _ _ _ _ => rfl) fun X c ex W h => ?_
    cases ex with
    | Name y p =>
      have h : (decide ((x : Str) = y) && bltC G c y && knownTy x) = true := h
      rw [Bool.and_eq_true, Bool.and_eq_true, decide_eq_true_eq] at h
      obtain ⟨⟨rfl, h⟩, h3⟩ := h
      obtain ⟨h1, h2, h4, h5⟩ := W.blt h
      exact se_bt h1 h2 (boot_known h3) h4 h5
    | _ => cases h
  | i n =>
    refine Snd.ofE rfl (fun _ _ _ _ _ => rfl) fun X c ex W h => ?_
    cases ex with
    | Constant k j p =>
      cases k with
      | int i => cases of_decide_eq_true (show decide (n = i) = true from h); exact se_int
      | _ => cases h
    | _ => cases h
  | s x =>
    refine Snd.ofE rfl (fun _ _ _ _ _ => rfl) fun X c ex W h => ?_
    cases ex with
    | Constant k j p =>
      cases k with
      | str i => cases of_decide_eq_true (show decide (x = i) = true from h); exact se_str
      | _ => cases h
    | _ => cases h
  | b x =>
    refine Snd.ofE rfl (fun _ _ _ _ _ => rfl) fun X c ex W h => ?_
    cases ex with
    | Constant k j p =>
      cases k with
      | bool i => cases of_decide_eq_true (show decide (x = i) = true from h); exact se_bl
      | _ => cases h
    | _ => cases h
  | n =>
    refine Snd.ofE rfl (fun _ _ _ _ _ => rfl) fun X c ex W h => ?_
    cases ex with
    | Constant k j p =>
      cases k with
      | none => exact se_non
      | _ => cases h
    | _ => cases h
  | bin mu o x y hx hy =>
    refine Snd.ofE rfl (fun _ _ _ _ _ => rfl) fun X c ex W h => ?_
    cases ex with
    | BinOp a o' b p =>
      have h : (decide (o = o') && (chk G x).e c a && (chk G y).e c b) = true := h
      rw [Bool.and_eq_true, Bool.and_eq_true, decide_eq_true_eq] at h
      obtain ⟨⟨rfl, h1⟩, h2⟩ := h
      exact se_bin (hx.e X c a W h1) (hy.e X c b W h2)
    | _ => cases h
  | neg x hx =>
    refine Snd.ofE rfl (fun _ _ _ _ _ => rfl) fun X c ex W h => ?_
    cases ex with
    | UnaryOp o a p =>
      cases o with
      | USub => exact se_neg (hx.e X c a W h)
      | _ => cases h
    | _ => cases h
  | cmp o x y hx hy =>
    refine Snd.ofE rfl (fun _ _ _ _ _ => rfl) fun X c ex W h => ?_
    simp only [chk] at h
    split at h <;> first | cases h | skip
    simp only [Bool.and_eq_true, decide_eq_true_eq, Bool.not_eq_true'] at h
    obtain ⟨⟨⟨rfl, h1⟩, h2⟩, h3⟩ := h
    exact se_cmp W.rm.units h1 (hx.e X c _ W h2) (hy.e X c _ W h3)
  | chn o o2 x y z hx hy hz =>
    refine Snd.ofE rfl (fun _ _ _ _ _ => rfl) fun X c ex W h => ?_
    simp only [chk] at h
    split at h <;> first | cases h | skip
    simp only [Bool.and_eq_true, decide_eq_true_eq, Bool.not_eq_true'] at h
    obtain ⟨⟨⟨⟨⟨rfl, rfl⟩, h1⟩, h2⟩, h3⟩, h4⟩ := h
    exact se_chain W.rm.units h1 (hx.e X c _ W h2) (hy.e X c _ W h3) (hz.e X c _ W h4)
  | an x y hx hy =>
    refine Snd.ofE rfl (fun _ _ _ _ _ => rfl) fun X c ex W h => ?_
    simp only [chk] at h
    split at h <;> first | cases h | skip
    · rw [Bool.and_eq_true] at h
      exact se_and (hx.e X c _ W h.1) (pe_one (hy.e X c _ W h.2))
    · rw [Bool.and_eq_true] at h
      exact se_and (hx.e X c _ W h.1) (hy.e X c _ W h.2)
  | or x y hx hy =>
    refine Snd.ofE rfl (fun _ _ _ _ _ => rfl) fun X c ex W h => ?_
    simp only [chk] at h
    split at h <;> first | cases h | skip
    · rw [Bool.and_eq_true] at h
      exact se_or (hx.e X c _ W h.1) (pe_one (hy.e X c _ W h.2))
    · rw [Bool.and_eq_true] at h
      exact se_or (hx.e X c _ W h.1) (hy.e X c _ W h.2)
  | nt x hx =>
    refine Snd.ofE rfl (fun _ _ _ _ _ => rfl) fun X c ex W h => ?_
    simp only [chk] at h
    split at h <;> first | cases h | skip
    exact se_not (hx.e X c _ W h)
  | ife d x y hd hx hy =>
    refine Snd.ofE rfl (fun _ _ _ _ _ => rfl) fun X c ex W h => ?_
    simp only [chk] at h
    split at h <;> first | cases h | skip
    simp only [Bool.and_eq_true] at h
    exact se_if (hd.t X c _ W h.1.1).1 (hx.e X c _ W h.1.2) (hy.e X c _ W h.2)
  | tup es he =>
    refine Snd.ofE rfl (fun _ _ _ _ _ => rfl) fun X c ex W h => ?_
    simp only [chk] at h
    split at h <;> first | cases h | skip
    exact se_tup (he.a X c _ W h).1
  | ls mu es he =>
    refine Snd.ofE rfl (fun _ _ _ _ _ => rfl) fun X c ex W h => ?_
    simp only [chk] at h
    split at h <;> first | cases h | skip
    exact se_lst (he.a X c _ W h).1
  | ix x y hx hy =>
    refine Snd.ofE rfl (fun _ _ _ _ _ => rfl) fun X c ex W h => ?_
    simp only [chk] at h
    split at h <;> first | cases h | skip
    simp only [Bool.and_eq_true] at h
    exact se_ix h.1.1 (hx.e X c _ W h.1.2) (hy.e X c _ W h.2)
  | sl mu x lo hi hx hlo hhi =>
    refine Snd.ofE rfl (fun _ _ _ _ _ => rfl) fun X c ex W h => ?_
    simp only [chk] at h
    split at h <;> first | cases h | skip
    rename_i a l u p1 p2
    rw [Bool.and_eq_true, Bool.and_eq_true] at h
    obtain ⟨⟨h1, h2⟩, h3⟩ := h
    refine se_sl (hx.e X c _ W h1) ?_ ?_
    · cases l with
      | none =>
        cases lo with
        | nil => exact so_none
        | _ => cases h2
      | some l =>
        have h2 : (!isNil lo && (chk G lo).e c l) = true := h2
        rw [Bool.and_eq_true] at h2
        cases lo with
        | nil => exact absurd h2.1 (by simp [isNil])
        | _ => exact so_some (hlo.e X c _ W h2.2)
    · cases u with
      | none =>
        cases hi with
        | nil => exact so_none
        | _ => cases h3
      | some l =>
        have h3 : (!isNil hi && (chk G hi).e c l) = true := h3
        rw [Bool.and_eq_true] at h3
        cases hi with
        | nil => exact absurd h3.1 (by simp [isNil])
        | _ => exact so_some (hhi.e X c _ W h3.2)
  | rv mu x hx =>
    refine Snd.ofE rfl (fun _ _ _ _ _ => rfl) fun X c ex W h => ?_
    simp only [chk] at h
    split at h <;> first | cases h | skip
    rw [Bool.and_eq_true, decide_eq_true_eq] at h
    obtain ⟨rfl, h⟩ := h
    exact se_rv (hx.e X c _ W h)
  | «at» f x hx =>
    refine Snd.ofE rfl (fun _ _ _ _ _ => rfl) fun X c ex W h => ?_
    simp only [chk] at h
    split at h <;> first | cases h | skip
    rw [Bool.and_eq_true, Bool.and_eq_true, decide_eq_true_eq] at h
    obtain ⟨⟨rfl, h1⟩, h2⟩ := h
    exact se_at W.toWd h1 (hx.e X c _ W h2)
  | fs es he =>
    refine Snd.ofE rfl (fun _ _ _ _ _ => rfl) fun X c ex W h => ?_
    simp only [chk] at h
    split at h <;> first | cases h | skip
    obtain ⟨h1, h2⟩ := he.j X c _ W h
    exact se_fs h2 h1
  | fv x hx =>
    refine Snd.ofE rfl (fun _ _ _ _ _ => rfl) fun X c ex W h => ?_
    simp only [chk] at h
    split at h <;> first | cases h | skip
    · rw [Bool.and_eq_true, decide_eq_true_eq] at h
      obtain ⟨rfl, h⟩ := h
      exact se_fmt (hx.e X c _ W h)
    · rw [Bool.and_eq_true, decide_eq_true_eq] at h
      obtain ⟨rfl, h⟩ := h
      exact pe_joined1 (se_fmt (hx.e X c _ W h))
  | lc mu own e g it d he hg hi hd =>
    have key : ∀ X c elt gs scope pos, Wx G P Tb ca L X c → (chk G (.lc mu own e g it d)).e c (.ListComp elt gs scope pos) = true → LcOk X elt gs scope (den P (.lc mu own e g it d)).e := by
      intro X c elt gs scope pos W h
      simp only [chk] at h
      split at h <;> first | cases h | skip
      rename_i elt2 tg iter ifs z scope2 pos2 heq
      injection heq with e1 e2 e3 e4
      subst e1 e2 e3 e4
      simp only [Bool.and_eq_true, decide_eq_true_eq] at h
      obtain ⟨⟨⟨⟨⟨⟨⟨⟨rfl, h1⟩, h2⟩, h3⟩, h4⟩, h5⟩, h6⟩, h7⟩, h8⟩ := h
      have bk : BlkOk c.N c.sc scope (ownP c own) := blkOk_by h2
      refine ⟨tg, iter, ifs, (den P it).q, (den P g).g, (den P g).w, ifT d (den P d).t, (den P e).e, ownP c own, P.W, mu, rfl, ?_, ?_, hi.q X c tg iter W h5, ?_, ?_, ?_, nset_ok h1, ?_⟩
      · rw [W.hN, W.hsc]; exact bk
      · intro k hk
        rw [den_w] at hk
        rw [h3]
        have := List.all_eq_true.mp h4 k hk
        simpa using this
      · exact fun s H C cl fp => hg.g _ _ tg (W.blk bk.kind s H C cl fp) h6
      · intro s H C cl fp
        cases ifs with
        | nil =>
          cases d with
          | nil => exact ⟨fun pins s st H Q I ⟨io, r, m, s0, q⟩ => pts_nil.run pins s st H Q I ((show WB _ _ io m H Q true m from q) io H LC.Ext.refl s0.s)⟩
          | _ => cases h7
        | cons x r =>
          cases r with
          | cons y r => cases h7
          | nil =>
            have h7 : (!isNil d && (chk G d).t (blkK c scope) x) = true := h7
            rw [Bool.and_eq_true] at h7
            cases d with
            | nil => exact absurd h7.1 (by simp [isNil])
            | _ => exact pts_one (hd.t _ _ x (W.blk bk.kind s H C cl fp) h7.2).1
      · exact fun s H C cl fp => he.e _ _ elt (W.blk bk.kind s H C cl fp) h8
      · rw [h3] <;> rfl
    refine ⟨fun X c ex W h => ?_, key, fun X c x _ q => ?_, fun X c x _ q => ?_, fun X c x _ q => ?_, fun X c x _ q => ?_, fun X c x y _ q => ?_, fun X c x _ q => ?_, fun X c x _ q => ?_, fun X c x _ q => ?_, fun X c x _ q => ?_⟩
    · cases ex with
      | ListComp elt gs scope pos =>
        obtain ⟨tg, it, ifs, q, g, ws, t, e, own, Wn, mu, rfl, ok, hsub, hi, hg, ht, he, hs, hf⟩ := key X c elt gs scope pos W h
        rw [hf]
        exact se_lc W.cm W.nd ok hsub hi hg ht he hs
      | _ => cases h
    all_goals cases q
  | call k es he =>
    refine Snd.ofE rfl (fun _ _ _ _ _ => rfl) fun X c ex W h => ?_
    simp only [chk] at h
    split at h <;> first | cases h | skip
    rename_i x np l pos
    simp only [Bool.and_eq_true, decide_eq_true_eq] at h
    obtain ⟨⟨⟨h1, h2⟩, h3⟩, h4⟩ := h
    obtain ⟨g1, g2⟩ := W.gl h1
    obtain ⟨g3, g4⟩ := W.fns x k h2
    have run : ∀ (pins : List (Addr × Obj)) (st : L2.St) (H : Hp) (s : Shared) (Q : VK) (us : List Value) (vs : List V), L2.Inv X pins st H s → Vals vs us → rCB X.K X.mg (P.call k) vs H Q → wpAny (model X.prog X.w) X.A (PySem.call (.ref (Tb k).ad) us) (EP X pins st Q) X.xe s :=
      fun pins st H s Q us vs I rl q => W.toWd.call0 (rCB.lt W.toWd q) I rl q
    cases l with
    | nil =>
      cases es with
      | nil => exact se_run0 g1 g3 g4 g2 run
      | _ => cases h4
    | cons a l => exact se_run g1 g3 g4 g2 h3 (he.a X c _ W h4).1 run
  | callk k es ks ws pm he hw =>
    refine Snd.ofE rfl (fun _ _ _ _ _ => rfl) fun X c ex W h => ?_
    simp only [chk] at h
    split at h <;> first | cases h | skip
    rename_i x np l kw pos
    simp only [Bool.and_eq_true, decide_eq_true_eq] at h
    obtain ⟨⟨⟨⟨⟨⟨⟨h1, h2⟩, h3⟩, h5⟩, h6⟩, h7⟩, h4⟩, h8⟩ := h
    obtain ⟨g1, g2⟩ := W.gl h1
    obtain ⟨g3, g4⟩ := W.fns x k h2
    subst h6
    have run : ∀ (pins : List (Addr × Obj)) (st : L2.St) (H : Hp) (s : Shared) (Q : VK) (us ws : List Value) (vs zs : List V), L2.Inv X pins st H s → Vals vs us → Vals zs ws → rCK X.K X.mg (fun as bs => bnd (permK (pm.length - (kw.filterMap (·.arg)).length) (kw.filterMap (·.arg)).length pm as bs) (P.call k)) vs zs H Q →
        wpAny (model X.prog X.w) X.A (PySem.call (.ref (Tb k).ad) us ((kw.filterMap (·.arg)).zip ws)) (EP X pins st Q) X.xe s := fun pins st H s Q us ws vs zs I rl rz q => se_callRunK W.toWd h7 pins st H s Q us ws vs zs I rl rz q
    cases l with
    | nil =>
      cases es with
      | nil => exact se_runK0 g1 g3 g4 g2 h5 (hw.k X c _ W h8) run
      | _ => cases h4
    | cons a l => exact se_runK g1 g3 g4 g2 h3 h5 (he.a X c _ W h4).1 (hw.k X c _ W h8) run
  | mk C es he =>
    refine Snd.ofE rfl (fun _ _ _ _ _ => rfl) fun X c ex W h => ?_
    simp only [chk] at h
    split at h <;> first | cases h | skip
    rename_i x np l pos
    simp only [Bool.and_eq_true, decide_eq_true_eq] at h
    obtain ⟨⟨⟨⟨rfl, h1⟩, h2⟩, h3⟩, h4⟩ := h
    obtain ⟨g1, g2⟩ := W.gl h1
    split at h2 <;> first | cases h2 | skip
    rename_i d ed
    obtain ⟨k, ek⟩ := Option.isSome_iff_exists.mp h2
    have ed' : P.cl C = some d := by unfold Phi.cl; rw [W.cl]; exact ed
    have A := W.top.one C d ed'
    have run := se_mkRun W.toWd ed' ek
    cases l with
    | nil =>
      cases es with
      | nil => exact se_run0 g1 A.mg (A.ini k ek).kp g2 run
      | _ => cases h4
    | cons a l => exact se_run g1 A.mg (A.ini k ek).kp g2 h3 (he.a X c _ W h4).1 run
  | mkk C es ks ws pm he hw =>
    refine Snd.ofE rfl (fun _ _ _ _ _ => rfl) fun X c ex W h => ?_
    simp only [chk] at h
    split at h <;> first | cases h | skip
    rename_i x np l kw pos
    simp only [Bool.and_eq_true, decide_eq_true_eq] at h
    obtain ⟨⟨⟨⟨⟨⟨⟨rfl, h1⟩, h2⟩, h3⟩, h5⟩, h6⟩, h4⟩, h8⟩ := h
    obtain ⟨g1, g2⟩ := W.gl h1
    split at h2 <;> first | cases h2 | skip
    rename_i d ed
    split at h2 <;> first | cases h2 | skip
    rename_i k ek
    have h7 := of_decide_eq_true h2
    have ed' : P.cl C = some d := by unfold Phi.cl; rw [W.cl]; exact ed
    have A := W.top.one C d ed'
    subst h6
    have run := se_mkRunK W.toWd ed' ek h7
    cases l with
    | nil =>
      cases es with
      | nil => exact se_runK0 g1 A.mg (A.ini k ek).kp g2 h5 (hw.k X c _ W h8) run
      | _ => cases h4
    | cons a l => exact se_runK g1 A.mg (A.ini k ek).kp g2 h3 h5 (he.a X c _ W h4).1 (hw.k X c _ W h8) run
  | me f x es hx he =>
    refine Snd.ofE rfl (fun _ _ _ _ _ => rfl) fun X c ex W h => ?_
    simp only [chk] at h
    split at h <;> first | cases h | skip
    rename_i o f' apos l pos
    simp only [Bool.and_eq_true, decide_eq_true_eq] at h
    obtain ⟨⟨⟨⟨⟨⟨rfl, h1⟩, h2⟩, h3⟩, h4⟩, h5⟩, h6⟩ := h
    cases l with
    | nil =>
      cases es with
      | nil => exact se_me0 W.toWd (hx.e X c _ W h5) h1 h2
      | _ => cases h6
    | cons a l => exact se_me W.toWd (hx.e X c _ W h5) h1 h2 h3 (decide_eq_true (Nat.lt_succ_of_lt h4)) (he.a X c _ W h6).1
  | mek f x es ks ws pm hx he hw =>
    refine Snd.ofE rfl (fun _ _ _ _ _ => rfl) fun X c ex W h => ?_
    simp only [chk] at h
    split at h <;> first | cases h | skip
    rename_i o f' apos l kw pos
    rw [Bool.and_eq_true, Bool.and_eq_true, Bool.and_eq_true, Bool.and_eq_true, Bool.and_eq_true, Bool.and_eq_true, Bool.and_eq_true, Bool.and_eq_true, Bool.and_eq_true, Bool.and_eq_true, decide_eq_true_eq, decide_eq_true_eq, decide_eq_true_eq] at h
    obtain ⟨⟨⟨⟨⟨⟨⟨⟨⟨⟨rfl, h1⟩, h2⟩, h3⟩, h4⟩, h5⟩, h6⟩, h7⟩, h8⟩, h9⟩, h10⟩ := h
    have hkw : ∀ C d k, P.cl C = some d → d.meths.lookup f = some k → (k, ks, pm) ∈ G.kws := fun C d k e1 e2 => by
      unfold Phi.cl at e1
      rw [W.cl] at e1
      have q := List.all_eq_true.mp h7 d (List.mem_of_find?_eq_some e1)
      rw [e2] at q
      exact of_decide_eq_true q
    cases l with
    | nil =>
      cases es with
      | nil => exact se_mek0 W.toWd (hx.e X c _ W h8) h1 h2 (decide_eq_true (by simpa using h4)) h5 h6 hkw (hw.k X c _ W h10)
      | _ => cases h9
    | cons a l => exact se_mek W.toWd (hx.e X c _ W h8) h1 h2 h3 (decide_eq_true h4) h5 h6 hkw (he.a X c _ W h9).1 (hw.k X c _ W h10)
  | bi f es he =>
    refine Snd.ofE rfl (fun _ _ _ _ _ => rfl) fun X c ex W h => ?_
    simp only [chk] at h
    split at h <;> first | cases h | skip
    rw [Bool.and_eq_true, Bool.and_eq_true, Bool.and_eq_true, decide_eq_true_eq] at h
    obtain ⟨⟨⟨rfl, h1⟩, h2⟩, h3⟩ := h
    obtain ⟨g1, g2, g3, g4⟩ := W.blt h1
    exact se_bi W.toWd g1 g2 g3 g4 h2 (he.a X c _ W h3).1
  | ty f mu es he =>
    refine Snd.ofE rfl (fun _ _ _ _ _ => rfl) fun X c ex W h => ?_
    simp only [chk] at h
    split at h <;> first | cases h | skip
    rw [Bool.and_eq_true, Bool.and_eq_true, Bool.and_eq_true, decide_eq_true_eq] at h
    obtain ⟨⟨⟨rfl, h1⟩, h2⟩, h3⟩ := h
    obtain ⟨g1, g2, g3, g4⟩ := W.blt h1
    exact se_ty g1 g2 g3 g4 h2 (he.a X c _ W h3).1
  | eo ne x y hx hy =>
    refine Snd.ofE rfl (fun _ _ _ _ _ => rfl) fun X c ex W h => ?_
    simp only [chk] at h
    split at h <;> first | cases h | skip
    simp only [Bool.and_eq_true, decide_eq_true_eq, Bool.not_eq_true'] at h
    obtain ⟨⟨⟨rfl, h1⟩, h2⟩, h3⟩ := h
    exact se_eo W.toWd h1 (hx.e X c _ W h2) (hy.e X c _ W h3)
  | te ne x y hx hy =>
    refine Snd.ofT rfl fun X c ex W h => ?_
    simp only [chk] at h
    split at h <;> first | cases h | skip
    simp only [Bool.and_eq_true, decide_eq_true_eq, Bool.not_eq_true'] at h
    obtain ⟨⟨⟨rfl, h1⟩, h2⟩, h3⟩ := h
    exact ⟨st_te W.toWd h1 (hx.e X c _ W h2) (hy.e X c _ W h3), fun z => by cases z⟩
  | bo es he =>
    refine Snd.ofE rfl (fun _ _ _ _ _ => rfl) fun X c ex W h => ?_
    simp only [chk] at h
    split at h <;> first | cases h | skip
    rw [Bool.and_eq_true, Bool.and_eq_true, Bool.and_eq_true, decide_eq_true_eq] at h
    obtain ⟨⟨⟨rfl, h1⟩, h2⟩, h3⟩ := h
    obtain ⟨g1, g2, g3, g4⟩ := W.blt h1
    exact se_bo W.toWd g1 g2 h2 (he.a X c _ W h3).1
  | jn x y hx hy =>
    refine Snd.ofE rfl (fun _ _ _ _ _ => rfl) fun X c ex W h => ?_
    simp only [chk] at h
    split at h <;> first | cases h | skip
    simp only [Bool.and_eq_true, decide_eq_true_eq] at h
    obtain ⟨⟨⟨⟨⟨rfl, h1⟩, h2⟩, h3⟩, h4⟩, h5⟩ := h
    exact se_jn (hx.e X c _ W h4) (hy.e X c _ W h5) h1 h2 h3
  | li x y hx hy =>
    refine Snd.ofE rfl (fun _ _ _ _ _ => rfl) fun X c ex W h => ?_
    simp only [chk] at h
    split at h <;> first | cases h | skip
    simp only [Bool.and_eq_true, decide_eq_true_eq] at h
    obtain ⟨⟨⟨⟨⟨rfl, h1⟩, h2⟩, h3⟩, h4⟩, h5⟩ := h
    exact se_li (hx.e X c _ W h4) (hy.e X c _ W h5) h1 h2 h3
  | rl mu x hx =>
    refine Snd.ofE rfl (fun _ _ _ _ _ => rfl) fun X c ex W h => ?_
    simp only [chk] at h
    split at h <;> first | cases h | skip
    simp only [Bool.and_eq_true, decide_eq_true_eq] at h
    obtain ⟨⟨⟨⟨⟨rfl, h1⟩, rfl⟩, h2⟩, h3⟩, h4⟩ := h
    obtain ⟨g1, g2, g3, g4⟩ := W.blt h1
    obtain ⟨k1, k2, k3, k4⟩ := W.blt h2
    exact se_rl W.cm g1 g2 k1 k2 h3 (hx.e X c _ W h4)
  | rl2 mu x y hx hy =>
    refine Snd.ofE rfl (fun _ _ _ _ _ => rfl) fun X c ex W h => ?_
    simp only [chk] at h
    split at h <;> first | cases h | skip
    simp only [Bool.and_eq_true, decide_eq_true_eq] at h
    obtain ⟨⟨⟨⟨⟨⟨⟨rfl, h1⟩, rfl⟩, h2⟩, h3⟩, h3b⟩, h4⟩, h5⟩ := h
    obtain ⟨g1, g2, g3, g4⟩ := W.blt h1
    obtain ⟨k1, k2, k3, k4⟩ := W.blt h2
    exact se_rl2 W.cm g1 g2 k1 k2 h3 h3b (hx.e X c _ W h4) (hy.e X c _ W h5)
  | bm f x es hx he =>
    refine Snd.ofE rfl (fun _ _ _ _ _ => rfl) fun X c ex W h => ?_
    simp only [chk] at h
    split at h <;> first | cases h | skip
    rw [Bool.and_eq_true, Bool.and_eq_true, Bool.and_eq_true, Bool.and_eq_true, Bool.and_eq_true, Bool.and_eq_true, decide_eq_true_eq] at h
    obtain ⟨⟨⟨⟨⟨⟨rfl, h1⟩, h2⟩, h3⟩, h4⟩, h5⟩, h6⟩ := h
    cases f with
    | append => exact se_bm PySem.F.slot_list_append PySem.F.type_list_append mr_append (hx.e X c _ W h5) h1 h2 h3 h4 (he.a X c _ W h6).1
    | extend => exact se_bm PySem.F.slot_list_extend PySem.F.type_list_extend mr_extend (hx.e X c _ W h5) h1 h2 h3 h4 (he.a X c _ W h6).1
  | nil =>
    refine ⟨fun X c x _ q => ?_, fun X c elt gs sc pos _ q => ?_, fun X c x _ q => ?_, fun X c l W q => ?_, fun X c l W q => ?_, fun X c l W q => ?_, fun X c x y _ q => ?_, fun X c x _ q => ?_, fun X c l W q => ?_, fun X c x _ q => ?_, fun X c l W q => ?_⟩
    · cases q
    · cases q
    · cases q
    · cases l with
      | nil => exact ⟨sa_nil, fun _ r m ds m' e => by cases e; rfl⟩
      | cons _ _ => cases q
    · cases l with
      | nil => exact sk_nil
      | cons _ _ => cases q
    · cases l with
      | nil => exact ⟨.nil, rfl⟩
      | cons _ _ => cases q
    · cases q
    · cases q
    · cases l with
      | nil =>
        refine ⟨sgs_nil, fun ds r m F h => ?_⟩
        cases ds with
        | nil => rfl
        | cons _ _ => exact (show False from h).elim
      | cons _ _ => cases q
    · cases q
    · cases l with
      | nil => exact ss_nil
      | cons _ _ => cases q
  | cons x y hx hy =>
    refine ⟨fun X c x _ q => ?_, fun X c elt gs sc pos _ q => ?_, fun X c x _ q => ?_, fun X c l W q => ?_, fun X c l W q => ?_, fun X c l W q => ?_, fun X c x y _ q => ?_, fun X c x _ q => ?_, fun X c l W q => ?_, fun X c x _ q => ?_, fun X c l W q => ?_⟩
    · cases q
    · cases q
    · cases q
    · cases l with
      | nil => cases q
      | cons a l =>
        have q : (nst a && (chk G x).e c a && (chk G y).a c l) = true := q
        rw [Bool.and_eq_true, Bool.and_eq_true] at q
        obtain ⟨h1, h2⟩ := hy.a X c l W q.2
        refine ⟨sa_cons q.1.1 (hx.e X c a W q.1.2) h1, fun hn r m ds m' e => ?_⟩
        rw [List.all_cons, Bool.and_eq_true] at hn
        obtain ⟨p, m1, e1, e2⟩ := bnd_ok e
        obtain ⟨q2, m2, e3, e4⟩ := bnd_ok e2
        cases e4
        rw [List.length_cons, List.length_cons, h2 hn.2 _ _ _ _ e3]
    · cases l with
      | nil => cases q
      | cons a l =>
        obtain ⟨nm, a, kp⟩ := a
        have q : ((chk G x).e c a && (chk G y).k c l) = true := q
        rw [Bool.and_eq_true] at q
        exact sk_cons (hx.e X c a W q.1) (hy.k X c l W q.2)
    · cases l with
      | nil => cases q
      | cons a l =>
        have q : ((chk G x).e c a && (chk G y).j c l) = true := q
        rw [Bool.and_eq_true] at q
        obtain ⟨h1, h2⟩ := hy.j X c l W q.2
        exact ⟨.cons (hx.e X c a W q.1) h1, h2⟩
    · cases q
    · cases q
    · cases l with
      | nil => cases q
      | cons a l =>
        have q : (nst a && (chk G x).g c a && (chk G y).gs c l) = true := q
        rw [Bool.and_eq_true, Bool.and_eq_true] at q
        obtain ⟨h1, h2⟩ := hy.gs X c l W q.2
        refine ⟨sgs_cons q.1.1 (hx.g X c a W q.1.2) h1, fun ds r m F h => ?_⟩
        cases ds with
        | nil => exact (show False from h).elim
        | cons d ds =>
          have h := Post.of_bnd (show Post (bnd ((den P x).g d r) (fun r' => (den P y).gs ds r') m) F from h)
          cases e : (den P x).g d r m with
          | ok r2 m2 =>
            rw [e] at h
            rw [List.length_cons, List.length_cons, h2 ds r2 m2 F h]
          | exc C fs m2 => rw [e] at h; exact (show False from h).elim
          | bad => rw [e] at h; exact (show False from h).elim
    · cases q
    · cases l with
      | nil => cases q
      | cons a l =>
        have q : ((chk G x).s c a && (chk G y).ss c l) = true := q
        rw [Bool.and_eq_true] at q
        exact ss_cons (hx.s X c a W q.1) (hy.ss X c l W q.2)
  | star x y hx hy =>
    refine ⟨fun X c x _ q => ?_, fun X c elt gs sc pos _ q => ?_, fun X c x _ q => ?_, fun X c l W q => ?_, fun X c l W q => ?_, fun X c l W q => ?_, fun X c x y _ q => ?_, fun X c x _ q => ?_, fun X c l W q => ?_, fun X c x _ q => ?_, fun X c l W q => ?_⟩
    · cases q
    · cases q
    · cases q
    · simp only [chk] at q
      split at q <;> first | cases q | skip
      rw [Bool.and_eq_true] at q
      refine ⟨sa_star (hx.e X c _ W q.1) (hy.a X c _ W q.2).1, fun hn => ?_⟩
      rw [List.all_cons, Bool.and_eq_true] at hn
      exact absurd hn.1 (by simp [nst])
    all_goals cases q
  | tc o x y hx hy =>
    refine Snd.ofT rfl fun X c ex W h => ?_
    simp only [chk] at h
    split at h <;> first | cases h | skip
    simp only [Bool.and_eq_true, decide_eq_true_eq, Bool.not_eq_true'] at h
    obtain ⟨⟨⟨rfl, h1⟩, h2⟩, h3⟩ := h
    exact ⟨st_cmp W.rm.units h1 (hx.e X c _ W h2) (hy.e X c _ W h3), fun z => by cases z⟩
  | tch o o2 x y z hx hy hz =>
    refine Snd.ofT rfl fun X c ex W h => ?_
    simp only [chk] at h
    split at h <;> first | cases h | skip
    simp only [Bool.and_eq_true, decide_eq_true_eq, Bool.not_eq_true'] at h
    obtain ⟨⟨⟨⟨⟨rfl, rfl⟩, h1⟩, h2⟩, h3⟩, h4⟩ := h
    exact ⟨st_chain W.rm.units h1 (hx.e X c _ W h2) (hy.e X c _ W h3) (hz.e X c _ W h4), fun z => by cases z⟩
  | ta x y hx hy =>
    refine Snd.ofT rfl fun X c ex W h => ?_
    simp only [chk] at h
    split at h <;> first | cases h | skip
    · rw [Bool.and_eq_true] at h
      have := sw_and (pos := ‹Pos›) (hx.t X c _ W h.1).1 (pw_and1 (hy.t X c _ W h.2).1)
      exact ⟨this.pt, fun _ => this⟩
    · rw [Bool.and_eq_true] at h
      have := sw_and (hx.t X c _ W h.1).1 ((hy.t X c _ W h.2).2 rfl)
      exact ⟨this.pt, fun _ => this⟩
  | to x y hx hy =>
    refine Snd.ofT rfl fun X c ex W h => ?_
    simp only [chk] at h
    split at h <;> first | cases h | skip
    · rw [Bool.and_eq_true] at h
      have := sw_or (pos := ‹Pos›) (hx.t X c _ W h.1).1 (pw_or1 (hy.t X c _ W h.2).1)
      exact ⟨this.pt, fun _ => this⟩
    · rw [Bool.and_eq_true] at h
      have := sw_or (hx.t X c _ W h.1).1 ((hy.t X c _ W h.2).2 rfl)
      exact ⟨this.pt, fun _ => this⟩
  | tn x hx =>
    refine Snd.ofT rfl fun X c ex W h => ?_
    simp only [chk] at h
    split at h <;> first | cases h | skip
    exact ⟨st_not (hx.t X c _ W h).1, fun z => by cases z⟩
  | tv x hx =>
    refine Snd.ofT rfl fun X c ex W h => ?_
    have h : (ntest ex && (chk G x).e c ex) = true := h
    rw [Bool.and_eq_true] at h
    refine ⟨st_val (hx.e X c _ W h.2) (true_ntest h.1), fun z => ?_⟩
    cases ex with
    | BoolOp _ _ _ => cases h.1
    | _ => cases z
  | itr es he =>
    refine Snd.ofQ rfl fun X c tg ex W h => ?_
    simp only [chk] at h
    split at h <;> first | cases h | skip
    · rw [Bool.and_eq_true, Bool.and_eq_true, Bool.and_eq_true, decide_eq_true_eq] at h
      obtain ⟨⟨⟨rfl, h1⟩, h2⟩, h3⟩ := h
      obtain ⟨g1, g2, g3, g4⟩ := W.blt h1
      obtain ⟨a1, a2⟩ := he.a X c _ W h3
      exact si_range1 g1 g2 h2 a1 (a2 (by rw [List.all_cons, h2] <;> rfl))
    · rw [Bool.and_eq_true, Bool.and_eq_true, Bool.and_eq_true, Bool.and_eq_true, decide_eq_true_eq] at h
      obtain ⟨⟨⟨⟨rfl, h1⟩, h2⟩, h4⟩, h3⟩ := h
      obtain ⟨g1, g2, g3, g4⟩ := W.blt h1
      obtain ⟨a1, a2⟩ := he.a X c _ W h3
      exact si_range2 g1 g2 h2 h4 a1 (a2 (by rw [List.all_cons, List.all_cons, h2, h4] <;> rfl))
    · rw [Bool.and_eq_true, Bool.and_eq_true, Bool.and_eq_true, Bool.and_eq_true, Bool.and_eq_true, decide_eq_true_eq] at h
      obtain ⟨⟨⟨⟨⟨rfl, h1⟩, h2⟩, h4⟩, h5⟩, h3⟩ := h
      obtain ⟨g1, g2, g3, g4⟩ := W.blt h1
      obtain ⟨a1, a2⟩ := he.a X c _ W h3
      exact si_range3 g1 g2 h2 h4 h5 a1 (a2 (by rw [List.all_cons, List.all_cons, List.all_cons, h2, h4, h5] <;> rfl))
  | ite es he =>
    refine Snd.ofQ rfl fun X c tg ex W h => ?_
    simp only [chk] at h
    split at h <;> first | cases h | skip
    rw [Bool.and_eq_true, Bool.and_eq_true, Bool.and_eq_true, decide_eq_true_eq] at h
    obtain ⟨⟨⟨rfl, h1⟩, h2⟩, h3⟩ := h
    obtain ⟨g1, g2, g3, g4⟩ := W.blt h1
    exact si_enum g1 g2 h2 (he.a X c _ W h3).1
  | itz es he =>
    refine Snd.ofQ rfl fun X c tg ex W h => ?_
    simp only [chk] at h
    split at h <;> first | cases h | skip
    rw [Bool.and_eq_true, Bool.and_eq_true, Bool.and_eq_true, Bool.and_eq_true, decide_eq_true_eq] at h
    obtain ⟨⟨⟨⟨rfl, h1⟩, h2⟩, h4⟩, h3⟩ := h
    obtain ⟨g1, g2, g3, g4⟩ := W.blt h1
    exact si_zip g1 g2 h2 h4 (he.a X c _ W h3).1
  | itv x hx => exact Snd.ofQ rfl fun X c tg ex W h => si_val (hx.e X c ex W h)
  | gv k =>
    refine Snd.ofG rfl fun X c ex W h => ?_
    simp only [chk] at h
    split at h <;> first | cases h | skip
    obtain ⟨h1, h2, h3⟩ := W.store h
    exact sg_var W.nd h1 h2 h3
  | gt es he =>
    refine Snd.ofG rfl fun X c ex W h => ?_
    simp only [chk] at h
    split at h <;> first | cases h | skip
    rw [Bool.and_eq_true] at h
    obtain ⟨h1, h2⟩ := he.gs X c _ W h.2
    exact sg_tup W.cm h.1 h1 h2
  | gs x y hx hy =>
    refine Snd.ofG rfl fun X c ex W h => ?_
    simp only [chk] at h
    split at h <;> first | cases h | skip
    rw [Bool.and_eq_true, Bool.and_eq_true] at h
    exact sg_sub h.1.1 (hx.e X c _ W h.1.2) (hy.e X c _ W h.2)
  | ga f x hx =>
    refine Snd.ofG rfl fun X c ex W h => ?_
    simp only [chk] at h
    split at h <;> first | cases h | skip
    rw [Bool.and_eq_true, decide_eq_true_eq] at h
    obtain ⟨rfl, h⟩ := h
    exact sg_at W.toWd (hx.e X c _ W h)
  | ret0 =>
    refine Snd.ofS rfl fun X c st W h => ?_
    simp only [chk] at h
    split at h <;> first | cases h | skip
    exact s_ret0
  | ret x hx =>
    refine Snd.ofS rfl fun X c st W h => ?_
    simp only [chk] at h
    split at h <;> first | cases h | skip
    exact s_ret (hx.e X c _ W h)
  | ex1 x hx =>
    refine Snd.ofS rfl fun X c st W h => ?_
    simp only [chk] at h
    split at h <;> first | cases h | skip
    rw [Bool.and_eq_true] at h
    exact s_expr h.1 (hx.e X c _ W h.2)
  | pass =>
    refine Snd.ofS rfl fun X c st W h => ?_
    simp only [chk] at h
    split at h <;> first | cases h | skip
    exact s_pass
  | brk =>
    refine Snd.ofS rfl fun X c st W h => ?_
    simp only [chk] at h
    split at h <;> first | cases h | skip
    exact s_brk
  | cnt =>
    refine Snd.ofS rfl fun X c st W h => ?_
    simp only [chk] at h
    split at h <;> first | cases h | skip
    exact s_cnt
  | ifs d x y hd hx hy =>
    refine Snd.ofS rfl fun X c st W h => ?_
    simp only [chk] at h
    split at h <;> first | cases h | skip
    rw [Bool.and_eq_true, Bool.and_eq_true] at h
    exact s_if (hd.t X c _ W h.1.1).1 (hx.ss X c _ W h.1.2) (hy.ss X c _ W h.2)
  | whl d x hd hx =>
    refine Snd.ofS rfl fun X c st W h => ?_
    simp only [chk] at h
    split at h <;> first | cases h | skip
    rw [Bool.and_eq_true] at h
    exact ss_while W.hxe (hd.t X c _ W h.1).1 (hx.ss X c _ W h.2)
  | fr g it x hg hi hx =>
    refine Snd.ofS rfl fun X c st W h => ?_
    simp only [chk] at h
    split at h <;> first | cases h | skip
    rw [Bool.and_eq_true, Bool.and_eq_true, Bool.and_eq_true] at h
    obtain ⟨⟨⟨h1, h2⟩, h3⟩, h4⟩ := h
    exact ss_for W.hxe W.cm (hi.q X c _ _ W h2) (hg.g X c _ W h3) (hx.ss X c _ W h4) (nset_ok h1)
  | bad => exact Snd.ofS rfl fun X c st W h => s_bad
  | aug k o x hx =>
    refine Snd.ofS rfl fun X c st W h => ?_
    simp only [chk] at h
    split at h <;> first | cases h | skip
    rw [Bool.and_eq_true, Bool.and_eq_true, decide_eq_true_eq] at h
    obtain ⟨⟨rfl, h1⟩, h2⟩ := h
    obtain ⟨g1, g2, g3⟩ := W.store h1
    exact s_aug W.nd g1 g2 g3 (hx.e X c _ W h2)
  | augs x y o z hx hy hz =>
    refine Snd.ofS rfl fun X c st W h => ?_
    simp only [chk] at h
    split at h <;> first | cases h | skip
    rw [Bool.and_eq_true, Bool.and_eq_true, Bool.and_eq_true, Bool.and_eq_true, decide_eq_true_eq] at h
    obtain ⟨⟨⟨⟨rfl, h1⟩, h2⟩, h3⟩, h4⟩ := h
    exact s_augs (hx.e X c _ W h2) (hy.e X c _ W h3) (hz.e X c _ W h4) h1
  | try1 x hx =>
    refine Snd.ofS rfl fun X c st W h => ?_
    simp only [chk] at h
    split at h <;> first | cases h | skip
    exact s_try (hx.ss _ c _ W.nox h)
  | set k x hx =>
    refine Snd.ofS rfl fun X c st W h => ?_
    simp only [chk] at h
    split at h <;> first | cases h | skip
    rw [Bool.and_eq_true, Bool.and_eq_true, Bool.not_eq_true'] at h
    obtain ⟨⟨h1, h2⟩, h3⟩ := h
    obtain ⟨g1, g2, g3⟩ := W.store h1
    exact s_set W.nd g1 g2 g3 (swap_false W h2) (hx.e X c _ W h3)
  | setc k x hx =>
    refine Snd.ofS rfl fun X c st W h => ?_
    simp only [chk] at h
    split at h <;> first | cases h | skip
    rw [Bool.and_eq_true, Bool.and_eq_true] at h
    obtain ⟨⟨h1, h2⟩, h3⟩ := h
    obtain ⟨tg, it, ifs, q, g, ws, t, e, own, Wn, mu, rfl, ok, hsub, hi, hg, ht, he, hs, hf⟩ := hx.lc X c _ _ _ _ W h3
    show PS X _ (tS X.K X.mg fun r => bnd ((den P x).e r) fun p => LC.ret (.nx (r.set k (some p))))
    rw [hf]
    have h2' := h2
    unfold swapL at h2'
    rw [Bool.and_eq_true, Bool.and_eq_true] at h2'
    exact s_setc W.cm W.nd (W.slot h1) (by rw [W.hsc]; exact isK_of h2'.1.1) (swap_true W h2) ok hsub hi hg ht he hs
  | par ks es he =>
    refine Snd.ofS rfl fun X c st W h => ?_
    simp only [chk] at h
    split at h <;> first | cases h | skip
    · split at h <;> first | cases h | skip
      simp only [Bool.and_eq_true, decide_eq_true_eq, Bool.not_eq_true'] at h
      obtain ⟨⟨⟨⟨⟨⟨⟨⟨⟨⟨⟨h1, h2⟩, h3⟩, h4⟩, h5⟩, h6⟩, h7⟩, h8⟩, h9⟩, h10⟩, h11⟩, h12⟩ := h
      exact s_par2 W.cm W.nd (W.slot h1) (W.slot h2) h3 (by rw [W.hsc]; exact isK_of h5) (by rw [W.hsc]; exact isK_of h6) (he.a X c _ W h12).1 (stores_two W h5 h6 h7 h4 h10 h11 h8 h9) rfl
    · split at h <;> first | cases h | skip
      simp only [Bool.and_eq_true, decide_eq_true_eq, Bool.not_eq_true'] at h
      obtain ⟨⟨⟨⟨⟨⟨⟨⟨⟨⟨⟨⟨⟨⟨⟨⟨⟨⟨⟨h1, h2⟩, h3⟩, h4⟩, h5⟩, h6⟩, h7⟩, h8⟩, h9⟩, h10⟩, h11⟩, h12⟩, h13⟩, h14⟩, h15⟩, h16⟩, h17⟩, h18⟩, h19⟩, h20⟩ := h
      exact s_par3 W.cm W.nd (W.slot h1) (W.slot h2) (W.slot h3) h4 h5 h6 (by rw [W.hsc]; exact isK_of h10) (by rw [W.hsc]; exact isK_of h11) (by rw [W.hsc]; exact isK_of h12) (he.a X c _ W h20).1 (stores_three W h10 h11 h12 h13 h14 h7 h8 h9 h17 h18 h19 h15 h16) rfl
  | asg g x hg hx =>
    refine Snd.ofS rfl fun X c st W h => ?_
    simp only [chk] at h
    split at h <;> first | cases h | skip
    rw [Bool.and_eq_true, Bool.and_eq_true, Bool.and_eq_true, Bool.and_eq_true] at h
    obtain ⟨⟨⟨⟨h1, h2⟩, h3⟩, h4⟩, h5⟩ := h
    exact s_asg h1 (hx.e X c _ W h4) (hg.g X c _ W h5) (swaps_ncomp h2) (stores_none W h3)
end
end LC

/-! # LcS: the whole program, the law's own call -/
namespace LC
open PySem PySem.Spec PyProof.Rows L2
/-- a def of the text, with its term -/
structure DInfo where
  x : Str
  qual : Str
  st : Stmt
  N : List Str
  ps : List Str
  body : T
def scopeC (N ps : List Str) (sc : Scope) : Bool :=
  decide (sc.kind = .function) && !sc.isCoroutine && !sc.isGenerator && decide N.Nodup && decide (N.take ps.length = ps) && (ps.all fun x => sc.names.lookup x == some .local || sc.names.lookup x == some .cell) && sc.names.all fun y => decide (y.2 ≠ .free)
theorem scope_of {N ps : List Str} {sc : Scope} (h : scopeC N ps sc = true) : FnScope N ps sc := by
  unfold scopeC at h
  simp only [Bool.and_eq_true, decide_eq_true_eq, Bool.not_eq_true', List.all_eq_true, Bool.or_eq_true, beq_iff_eq] at h
  obtain ⟨⟨⟨⟨⟨⟨h1, h2⟩, h3⟩, h4⟩, h5⟩, h6⟩, h7⟩ := h
  exact ⟨h1, h2, h3, h4, h5, h6, h7⟩
/-- what is asked of the text of a def alone -/
def okD (G : GT) (d : DInfo) : Bool := scopeC d.N d.ps (defScope d.st) && (chk G d.body).ss ⟨d.N, defScope d.st, fun _ => true⟩ (defBody d.st)
/-- .. as it stands behind the top -/
structure DefOk (K : PySem.W.Frag) (d : DInfo) (t : DefAt) : Prop where
  fn : Fun K d.x d.qual d.st t.ad t.fd
  ps : t.ps = d.ps
  bd : Binds K t.fd t.ps []
inductive All2 {α β : Type} (R : α → β → Prop) : List α → List β → Prop where
  | nil : All2 R [] []
  | cons {a : α} {b : β} {l : List α} {m : List β} : R a b → All2 R l m → All2 R (a :: l) (b :: m)
theorem All2.get {α β : Type} {R : α → β → Prop} {l : List α} {m : List β} (h : All2 R l m) : ∀ {k : Nat} {a : α}, l[k]? = some a → ∃ b, m[k]? = some b ∧ R a b := by
  induction h with
  | nil => intro k a e; simp at e
  | cons r t ih =>
    intro k a e
    cases k with
    | zero => simp at e; subst e; exact ⟨_, rfl, r⟩
    | succ k => obtain ⟨b, e1, r1⟩ := ih (k := k) (by simpa using e); exact ⟨b, by simpa using e1, r1⟩
def dat0 : DefAt := ⟨0, PySem.W.fnOf (Str.ofString "") (Str.ofString "") { posonlyargs := [], args := [], vararg := none, kwonlyargs := [], kw_defaults := [], kwarg := none, defaults := [] } [] { kind := .function, names := [], isGenerator := false, isCoroutine := false } .none .none .none .none none .none .none, []⟩
def tbOf (ts : List DefAt) : Nat → DefAt := fun k => (ts[k]?).getD dat0
def progOf (dis : List DInfo) (cls : List LC.Cls) (gl : List (Str × D)) (W : Nat) : Prog := ⟨dis.map fun d => ⟨d.ps.length, d.N.length, d.body⟩, cls, gl, W⟩
/-- all that is asked of the program behind its top -/
structure Pg (K : PySem.W.Frag) (mg : Str → Option Value) (G : GT) (dis : List DInfo) (gl : List (Str × D)) (ts : List DefAt) (ca : Str → Addr) : Prop where
  n : G.n = dis.length
  ck : dis.all (okD G) = true
  defs : All2 (DefOk K) dis ts
  top : Top K mg G.cls (tbOf ts) ca
  kb : ∀ k ks pm, (k, ks, pm) ∈ G.kws → KBinds K (tbOf ts k).fd (tbOf ts k).ps ks (gOf (pm.length - ks.length) ks.length pm) (gOf (pm.length - ks.length) ks.length pm)
  fns : ∀ x k, G.fns.lookup x = some k → k < G.n ∧ mg x = some (.ref (tbOf ts k).ad)
  noG : ∀ x, G.noG.contains x = true → mg x = none
  glob : ∀ x d, gl.lookup x = some d → ∃ u v, mg x = some u ∧ RelV v u ∧ ∀ io N H, RepV K mg io N H d v
theorem callD_lt {Gp : Prog} : ∀ (n k : Nat) (as : List D) (m : Sto) (F : D → Sto → Prop), Post (callD Gp n k as m) F → k < Gp.defs.length
  | 0, k, as, m, F, h => (show False from h).elim
  | n + 1, k, as, m, F, h => by
    unfold callD at h
    cases e : Gp.defs[k]? with
    | none => rw [e] at h; exact (show False from h).elim
    | some d => exact (List.getElem?_eq_some_iff.mp e).1
theorem post_run {P : Phi} {d : DefI} {as : List D} {m : Sto} {F : D → Sto → Prop} (h : Post (runDef P d as m) F) : as.length = d.np ∧ Post ((den P d.body).s (as.map some ++ List.replicate (d.ns - d.np) none) m) (fun fl m' => match fl with
    | .nx _ => F .non m'
    | .rt x => F x m'
    | _ => False) := by
  unfold runDef at h
  split at h
  · rename_i hl
    refine ⟨hl, ?_⟩
    cases e : (den P d.body).s (as.map some ++ List.replicate (d.ns - d.np) none) m with
    | ok fl m' => rw [e] at h; cases fl <;> exact h
    | exc C fs m' => rw [e] at h; exact (show False from h).elim
    | bad => rw [e] at h; exact (show False from h).elim
  · exact (show False from h).elim
section
variable {Q : Program} {w : World} {K : PySem.W.Frag} {mg : Str → Option Value} {base : Heap} {G : GT} {dis : List DInfo} {gl : List (Str × D)} {ts : List DefAt} {ca : Str → Addr} {Wn : Nat}
theorem Pg.at_ (g : Pg K mg G dis gl ts ca) {k : Nat} (hk : k < G.n) : ∃ d, dis[k]? = some d ∧ okD G d = true ∧ DefOk K d (tbOf ts k) := by
  rw [g.n] at hk
  have e := List.getElem?_eq_getElem hk
  obtain ⟨b, e1, r⟩ := g.defs.get e
  refine ⟨_, e, List.all_eq_true.mp g.ck _ (List.mem_of_getElem? e), ?_⟩
  unfold tbOf
  rw [e1]
  exact r
/-- every def keeps its promise, at every depth -/
theorem Pg.fn (g : Pg K mg G dis gl ts ca) : ∀ n k, k < G.n → FnG Q w K mg base (2 * n) (tbOf ts k).ad (tbOf ts k).fd (tbOf ts k).ps (spM K mg (callD (progOf dis G.cls gl Wn) n k))
  | 0, k, _ => ⟨fun vs H Q E h => by obtain ⟨io, m, ps, _, _, h⟩ := h; exact (show False from h).elim, fun A outer s H args us vs Q hg hr e0 hb rl h => by obtain ⟨io, m, ps, _, _, h⟩ := h; exact (show False from h).elim⟩
  | n + 1, k, hk => by
    obtain ⟨d, ed, ok, dk⟩ := g.at_ hk
    unfold okD at ok
    rw [Bool.and_eq_true] at ok
    have S := scope_of ok.1
    rw [dk.ps]
    have ek : (progOf dis G.cls gl Wn).defs[k]? = some ⟨d.ps.length, d.N.length, d.body⟩ := by
      show (dis.map _)[k]? = _
      rw [List.getElem?_map, ed]
      rfl
    have un : ∀ {as : List D} {m : Sto} {F : D → Sto → Prop}, Post (callD (progOf dis G.cls gl Wn) (n + 1) k as m) F → Post (runDef (phi (progOf dis G.cls gl Wn) n) ⟨d.ps.length, d.N.length, d.body⟩ as m) F := fun {as m F} h => by
      unfold callD at h
      rw [ek] at h
      exact h
    refine FnG.of_body (k := 2 * n + 1) (N := d.N) dk.fn S (fun vs H Q E h => ?_) fun cdv A outer s H vs Q' hg hr h => ?_
    · obtain ⟨io, m, as, _, hr, h⟩ := h
      rw [← hr.length]
      exact (post_run (un h)).1
    · obtain ⟨io, m, as, S0', hr', h⟩ := h
      obtain ⟨hl, h⟩ := post_run (un h)
      let X := (cxOf CX0 Q w K mg base d.N d.qual (defScope d.st) (tbOf ts k).ad cdv A outer s H E0).nox
      have W : Wx G (phi (progOf dis G.cls gl Wn) n) (tbOf ts) ca (2 * n) X ⟨d.N, defScope d.st, fun _ => true⟩ :=
        { top := g.top, bd := fun j hj => (by obtain ⟨_, _, _, z⟩ := g.at_ hj; exact z.bd), kb := g.kb, fn := fun j hj => g.fn n j hj, out := fun j as m F z => (by
            have := callD_lt n j as m F z
            rw [g.n]
            simpa [progOf] using this),
          gd := hg, rm := hr, cm := rfl, nd := S.nd, hN := rfl, hsc := rfl, hfn := rfl, hxe := rfl, kf := S.kind, cl := rfl, fns := fun x j e => (by
            obtain ⟨h1, h2⟩ := g.fns x j e
            obtain ⟨_, _, _, z⟩ := g.at_ h1
            exact ⟨h2, z.fn.kp⟩), noG := g.noG, glob := g.glob }
      refine ⟨_, (snd1 d.body).ss X _ (defBody d.st) W ok.2, io, as.map some ++ List.replicate (d.N.length - d.ps.length) none, m, ⟨S0', ?_⟩, h.mono fun fl m' q => ?_⟩
      · exact RelE.start hr' d.N.length _ (by rw [← hr'.length, hl])
      · cases fl with
        | nx r => exact fun io' st' H' x S' _ => (show WV K mg io m H Q' .non m' from q) io' H' .non x S' rfl
        | rt v => exact q
        | bk r => exact (show False from q).elim
        | ct r => exact (show False from q).elim
/-- the law's own call -/
theorem lawG {k : Nat} {mb : Str → Option Value} {fa a : Addr} {fd : FuncData} {x : Str} {sp : Sp} {s₁ : Shared} {vs : List Value} {ns : List Int}
    (KX : K.In s₁.heap) (hns : s₁.heap.Ns mainGlobals mg) (hb : s₁.heap.Ns builtinsNs mb) (hbb : ∀ x : Str, x ≠ "__name__" → mb x = bootBuiltins x) (hlim : s₁.heap.NoLimit) (hg : s₁.gens = #[])
    (ha : s₁.heap.get? a = some { cls := .type "list", data := .seq vs.toArray }) (hi : IntsAre vs ns) (hl : ns.length ≤ sizeLine) (hr : Room k callerA)
    (F : ∀ base : Heap, K.In base → base.Ns mainGlobals mg → FnG Q w K mg base k fa fd [x] sp) (hbind : ∀ (s : Shared) (u : Value), BindsTo s fd ⟨[u], []⟩ [(x, u)])
    (hsp : ∀ H : Hp, SqRead K H a (ns.map V.int) → sp [.ref a] H (fun v _ => v = .bl true) E0) :
    codeAny (model Q w) callerA (.call (.ref fa) ⟨[.ref a], []⟩) (fun r s' => r = .ok (.ret (.bool true)) ∧ OldK s₁.heap s'.heap ∧ s'.os = s₁.os ∧ AllBare s'.gens) s₁ := by
  have rels := vals_ints hi
  have nlen := hi.length
  have main : ∀ H : Hp, L2.Only H → SqRead K H a (ns.map V.int) → HOk Q w H s₁.heap → (∀ b, H b ≠ none → b = a ∧ K.lookup a = none) →
      codeAny (model Q w) callerA (.call (.ref fa) ⟨[.ref a], []⟩) (fun r s' => r = .ok (.ret (.bool true)) ∧ OldK s₁.heap s'.heap ∧ s'.os = s₁.os ∧ AllBare s'.gens) s₁ := by
    intro H only sq hok just
    have nodict : ∀ {b : Addr} {o : Obj} {es : Array DictEntry} {ep : Nat}, s₁.heap.get? b = some o → o.data = .dict es ep → H b = none := fun {b o es ep} e dd => by
      cases q : H b with
      | none => rfl
      | some u =>
        obtain ⟨rfl, _⟩ := just b (by rw [q]; simp)
        rw [ha] at e
        cases e
        have dd : Data.seq vs.toArray _ = Data.dict es ep := dd
        cases dd
    have ns' : ∀ {b : Addr} {f : Str → Option Value}, s₁.heap.Ns b f → (hidT s₁.heap H).Ns b f := fun {b f} z => by
      obtain ⟨o, es, ep, e, dd, r⟩ := z
      exact ⟨o, es, ep, hidT_get e (nodict e dd), dd, r⟩
    have kb : K.In (hidT s₁.heap H) := fun b o e => by
      refine hidT_get (KX b o e) ?_
      cases q : H b with
      | none => rfl
      | some u =>
        obtain ⟨rfl, z⟩ := just b (by rw [q]; simp)
        rw [z] at e
        cases e
    have md : Mod K mg (hidT s₁.heap H) := ⟨kb, ns' hns, ⟨mb, ns' hb, hbb⟩, by obtain ⟨mc, z1, z2⟩ := hlim; exact ⟨mc, ns' z1, z2⟩⟩
    have env : Env0 Q w K mg (hidT s₁.heap H) callerA [] s₁ H := ⟨rfl, md, fun b o e => of_hidT e, Nat.le_of_eq (hidT_size _ _), trivial, fun b z => absurd z (by simp [frs]), hok, .of_eq hg⟩
    refine codeAny_mono ((F _ kb (ns' hns)).go callerA [] s₁ H ⟨[.ref a], []⟩ [.ref a] [.ref a] _ rfl hr env (hbind s₁ (.ref a)) (.cons rfl .nil) (hsp H sq)) fun res s' z => ?_
    cases res with
    | error e => exact False.elim z
    | ok fl =>
      cases fl with
      | next => exact False.elim z
      | brk => exact False.elim z
      | cont => exact False.elim z
      | ret u =>
        obtain ⟨v, H', os, bare, un, ok', rv, ev⟩ := z
        have ev : v = .bl true := ev
        subst ev
        cases (show u = Value.bool true from rv)
        refine ⟨rfl, OldK.of_keep fun b o e => ?_, os, bare⟩
        cases q : H b with
        | none => exact un.keep b o e q (fun y => by cases y) (by simp)
        | some t =>
          rcases only b with y | ⟨ob, xs, y⟩
          · rw [q] at y
            cases y
          · obtain ⟨y1, _⟩ := hok b _ y
            obtain ⟨y2, _⟩ := ok' b _ (un.frzs b ob _ y)
            rw [e] at y1
            cases y1
            exact y2
  cases hk : K.lookup a with
  | some o =>
    have e := KX a o hk
    rw [ha] at e
    cases e
    exact main (fun _ => none) (fun _ => .inl rfl) (.inr ⟨_, vs.toArray, _, hk, rfl, rfl, rfl, by rw [List.size_toArray, nlen]; exact hl, by simpa using rels⟩) (fun b u z => by cases z) fun b z => absurd rfl z
  | none =>
    have own : ∀ b u, (if b = a then some (HO.frz { cls := .type "list", data := .seq vs.toArray } (.lst (ns.map V.int))) else none) = some u → b = a ∧ u = HO.frz { cls := .type "list", data := .seq vs.toArray } (.lst (ns.map V.int)) := fun b u z => by
      by_cases e : b = a
      · rw [if_pos e] at z
        exact ⟨e, (Option.some.inj z).symm⟩
      · rw [if_neg e] at z
        cases z
    refine main (fun b => if b = a then some (.frz { cls := .type "list", data := .seq vs.toArray } (.lst (ns.map V.int))) else none) (fun b => ?_) (.inl ⟨{ cls := .type "list", data := .seq vs.toArray }, if_pos rfl⟩) (fun b u z => ?_) fun b z => ?_
    · by_cases e : b = a
      · exact .inr ⟨_, _, if_pos e⟩
      · exact .inl (if_neg e)
    · obtain ⟨rfl, rfl⟩ := own b u z
      exact ⟨ha, by rw [List.length_map]; exact hl, vs, _, rels, ha⟩
    · by_cases e : b = a
      · exact ⟨e, hk⟩
      · exact absurd (if_neg e) z
end
/-- from what the term of law gives to the row's own goal -/
theorem walkG {l : PySem.W.OpenLaw} {n : Nat} {q : Program} {loose : List Str} {XP : (Str → Option Value) → Heap → Prop} {YP : World → Heap → Prop} {d : DefRec} {K : Params → PySem.W.Frag} {x : Str} {G : GT} {dis : List DInfo} {gl : List (Str × D)} {Wn kl : Nat}
    (hn : l.most = some 63) (hdf : d.params.defaults = []) (hr : Room (2 * n) callerA) (hY : ∀ (w : World) (h : Heap), YP w h → (K w.params).In h)
    (F : ∀ (w : World) (mg : Str → Option Value) (fa : Addr) (h : Heap), (K w.params).In h → h.Ns mainGlobals mg → mg d.name = some (.ref fa) →
      ∃ (ts : List DefAt) (ca : Str → Addr), Pg (K w.params) mg G dis gl ts ca ∧ kl < G.n ∧ (tbOf ts kl).ad = fa ∧ (tbOf ts kl).ps = [x] ∧ ∀ (s : Shared) (u : Value), BindsTo s (tbOf ts kl).fd ⟨[u], []⟩ [(x, u)])
    (hlaw : ∀ ns : List Int, ns.length ≤ 63 → ∃ m, callD (progOf dis G.cls gl Wn) n kl [.scr ns] [] = .ok (.bl true) m) :
    PySem.W.WalkO q loose XP YP l.row.toRowW d [] (fun f vs => PySem.call f vs) := by
  refine Att.attach_call hn hdf fun w s₀ s₁ mg mb fa o pm cd doc a vs ns Gr Y ho hd hcd hmg hobj hints hlen hg => ?_
  have KX := hY w _ Y
  obtain ⟨ts, ca, g, hk, e1, e2, hb⟩ := F w mg fa _ KX Gr.T.g hmg
  refine lawG (k := 2 * n) (fd := (tbOf ts kl).fd) (sp := spM (K w.params) mg (callD (progOf dis G.cls gl Wn) n kl)) KX Gr.T.g Gr.T.b Gr.T.builtins Gr.T.nolimit hg hobj hints (Nat.le_trans hlen (by decide)) hr (fun base _ _ => ?_) hb fun H sq => ?_
  · have z := g.fn (Q := l.prog) (w := w) (base := base) (Wn := Wn) n kl hk
    rw [e1, e2] at z
    exact z
  · obtain ⟨m, em⟩ := hlaw ns hlen
    refine ⟨⟨fun _ => 0, fun _ => False⟩, [], [.scr ns], ⟨fun j k hj => absurd hj (Nat.not_lt_zero _), fun k o e => by simp at e, fun a z => z.elim, fun n hn => absurd hn (Nat.not_lt_zero _)⟩, ⟨_, _, rfl, ⟨a, rfl, sq⟩, rfl⟩, ?_⟩
    rw [em]
    exact fun io' H' v _ _ r => r
end LC

/-! # LcT: the facts of a program, put together -/
namespace LC
open PySem PySem.Spec PyProof.Rows L2
inductive AllP {α : Type} (R : α → Prop) : List α → Prop where
  | nil : AllP R []
  | cons {a : α} {l : List α} : R a → AllP R l → AllP R (a :: l)
theorem AllP.get {α : Type} {R : α → Prop} {l : List α} (h : AllP R l) : ∀ a ∈ l, R a := by
  induction h with
  | nil => intro a h; cases h
  | cons r t ih =>
    intro a h
    rcases List.mem_cons.mp h with e | h
    · subst e; exact r
    · exact ih a h
def caOf (mg : Str → Option Value) (C : Str) : Addr := match mg C with
  | some (.ref a) => a
  | _ => 0
theorem caOf_eq {mg : Str → Option Value} {C : Str} {a : Addr} (h : mg C = some (.ref a)) : caOf mg C = a := by unfold caOf; rw [h]
/-- a class as the top has made it -/
structure KCls (K : PySem.W.Frag) (Ca : Addr) : Prop where
  pg : PySem.W.plainGet K Ca Str.empty = true
  hd : PySem.W.hasDictIn K Ca = true
  po : PySem.W.plainOver K Ca = true
  sa : PySem.W.findIn K (.ref Ca) "__setattr__" = some (some (.builtin "object.__setattr__"))
  cl : PySem.W.isClsIn K Ca = true
  ty : PySem.W.typeIn K (.ref Ca) = some (.type "type")
  kc : PySem.W.findIn K (.ref Ca) "__class__" = some (some (.builtin "object.__class__"))
  kg : PySem.W.specialIn K (.builtin "object.__class__") "__get__" = some (some (.builtin "getset_descriptor.__get__"))
  kt : PySem.W.takesIn K (.builtin "object.__class__") = some true
  ko : PySem.W.mroIn K Ca (.type "object") = some true
  n1 : PySem.W.mroIn K Ca (.type "int") = some false
  n2 : PySem.W.mroIn K Ca (.type "bool") = some false
  n3 : PySem.W.mroIn K Ca (.type "str") = some false
  n4 : PySem.W.mroIn K Ca (.type "tuple") = some false
  n5 : PySem.W.mroIn K Ca (.type "list") = some false
  n6 : PySem.W.mroIn K Ca (.type "dict") = some false
  n7 : PySem.W.mroIn K Ca (.type "NoneType") = some false
  kn : PySem.W.findIn K (.ref Ca) "__ne__" = some (some (.builtin "object.__ne__"))
theorem meta6 : (["int", "bool", "str", "tuple", "list", "dict"].all PySem.W.kitMeta) = true := by decide +kernel
theorem mro6 : (["NoneType", "bool", "int", "str", "tuple", "list"].all fun a => (PySem.fastBuiltinMro a).isSome && ((PySem.fastBuiltinMro a).getD []).all fun v => match v with | .type _ => true | _ => false) = true := by decide +kernel
theorem KCls.kitT {K : PySem.W.Frag} {Ca : Addr} (k : KCls K Ca) {b : String} (h : knownTy b = true) : PySem.W.kitOne K (.ref Ca) (.type b) = some false := by
  have hb : b ∈ ["int", "bool", "str", "tuple", "list", "dict"] := by
    unfold knownTy at h
    simp only [Bool.or_eq_true, beq_iff_eq] at h
    simp only [List.mem_cons, List.not_mem_nil, or_false]
    rcases h with ((((h | h) | h) | h) | h) | h <;> simp [h]
  have hm := List.all_eq_true.mp meta6 b hb
  have e : PySem.W.mroIn K Ca (.type b) = some false := by
    simp only [List.mem_cons, List.not_mem_nil, or_false] at hb
    rcases hb with h | h | h | h | h | h <;> subst h
    · exact k.n1
    · exact k.n2
    · exact k.n3
    · exact k.n4
    · exact k.n5
    · exact k.n6
  show (if (Value.ref Ca == Value.type b) = true then some true else if PySem.W.kitMeta b = true then PySem.W.mroIn K Ca (.type b) else none) = some false
  rw [if_neg (by simp), if_pos hm, e]
theorem KCls.kitC {K : PySem.W.Frag} {Ca : Addr} (k : KCls K Ca) {t : Value} {r : Bool} (hne : (t == Value.ref Ca) = false) (h : PySem.W.subIn K t (.ref Ca) = some r) : PySem.W.kitOne K t (.ref Ca) = some r := by
  show (if (t == Value.ref Ca) = true then some true else if ((PySem.W.clsIn K Ca).isSome && PySem.W.typeIn K (.ref Ca) == some (.type "type")) = true then PySem.W.subIn K t (.ref Ca) else none) = some r
  rw [hne, if_neg Bool.false_ne_true, if_pos (by
    have z : (PySem.W.clsIn K Ca).isSome = true := k.cl
    rw [z, k.ty]
    rfl), h]
theorem KCls.kitB {K : PySem.W.Frag} {Ca : Addr} (k : KCls K Ca) {a : String} (h : a ∈ ["NoneType", "bool", "int", "str", "tuple", "list"]) : PySem.W.kitOne K (.type a) (.ref Ca) = some false := by
  refine k.kitC (by simp) ?_
  have z := List.all_eq_true.mp mro6 a h
  rw [Bool.and_eq_true] at z
  obtain ⟨l, e⟩ := Option.isSome_iff_exists.mp z.1
  show (PySem.fastBuiltinMro a).map (fun l => l.contains (.ref Ca)) = some false
  have z2 := z.2
  rw [e] at z2 ⊢
  show some (l.contains (.ref Ca)) = some false
  congr 1
  cases q : l.contains (Value.ref Ca) with
  | false => rfl
  | true =>
    have m : Value.ref Ca ∈ l := by simpa using q
    have := List.all_eq_true.mp z2 _ m
    cases this
theorem KCls.self {K : PySem.W.Frag} {Ca : Addr} : PySem.W.kitOne K (.ref Ca) (.ref Ca) = some true := by
  show (if (Value.ref Ca == Value.ref Ca) = true then some true else _) = some true
  rw [if_pos (by simp)]
theorem KCls.nt {K : PySem.W.Frag} {Ca : Addr} (k : KCls K Ca) {T : String} (hT : T ∈ ["NoneType", "bool", "int", "str", "tuple", "list"]) : PySem.W.mroIn K Ca (.type T) = some false := by
  simp only [List.mem_cons, List.not_mem_nil, or_false] at hT
  rcases hT with h | h | h | h | h | h <;> subst h
  · exact k.n7
  · exact k.n2
  · exact k.n1
  · exact k.n3
  · exact k.n4
  · exact k.n5
/-- a class of the table -/
structure ClsF (K : PySem.W.Frag) (mg : Str → Option Value) (T : Nat → DefAt) (c : LC.Cls) : Prop where
  ex : ∃ Ca, mg c.name = some (.ref Ca) ∧ KCls K Ca ∧ (∀ k, c.init = some k → L2.Mk K Ca (T k).ad) ∧ AllP (fun p : Str × Nat => L2.Meth K Ca p.1 (T p.2).ad) c.meths ∧ AllP (fun p : Str × Nat => ∃ q, L2.PropOf K Ca p.1 q (T p.2).ad) c.props ∧ AllP (fun f => L2.NoAttr K Ca f) c.flds
theorem top_mk {K : PySem.W.Frag} {mg : Str → Option Value} {cls : List LC.Cls} {T : Nat → DefAt} (h : AllP (ClsF K mg T) cls)
    (hk : ∀ c ∈ cls, ∀ c' ∈ cls, c.name ≠ c'.name → PySem.W.kitOne K (.ref (caOf mg c.name)) (.ref (caOf mg c'.name)) = some false) : Top K mg cls T (caOf mg) := by
  have mem : ∀ {C c}, clOf cls C = some c → c ∈ cls ∧ c.name = C := fun {C c} e => ⟨List.mem_of_find?_eq_some e, by simpa using List.find?_some e⟩
  refine ⟨fun C c e => ?_, fun C c C' c' e e' => ?_, fun C c b e hb => ?_, fun C c a e ha => ?_⟩
  · obtain ⟨m, rfl⟩ := mem e
    obtain ⟨Ca, h1, h2, h3, h4, h5, h6⟩ := (h.get c m).ex
    rw [caOf_eq h1]
    exact ⟨h1, ⟨h2.pg, h2.hd, h2.po, h2.sa⟩, h3, fun f k q => h4.get (f, k) (PySem.mem_of_lookup q), fun f k q => h5.get (f, k) (PySem.mem_of_lookup q), fun f q => h6.get f (by simpa using q), h2.kc, h2.kg, h2.kt, h2.ko, h2.kn, fun T hT => h2.nt hT⟩
  · obtain ⟨m, rfl⟩ := mem e
    obtain ⟨m', rfl⟩ := mem e'
    by_cases q : c.name = c'.name
    · rw [q, beq_self_eq_true]
      exact KCls.self
    · rw [beq_eq_false_iff_ne.mpr q]
      exact hk c m c' m' q
  · obtain ⟨m, rfl⟩ := mem e
    obtain ⟨Ca, h1, h2, _⟩ := (h.get c m).ex
    rw [caOf_eq h1]
    exact h2.kitT hb
  · obtain ⟨m, rfl⟩ := mem e
    obtain ⟨Ca, h1, h2, _⟩ := (h.get c m).ex
    rw [caOf_eq h1]
    exact h2.kitB ha
/-- two classes, neither over the other -/
theorem kk_mk {K : PySem.W.Frag} {mg : Str → Option Value} {C C' : Str} {a b : Addr} (h1 : mg C = some (.ref a)) (h2 : mg C' = some (.ref b)) (k : KCls K b) (ne : a ≠ b) (h : PySem.W.mroIn K a (.ref b) = some false) : PySem.W.kitOne K (.ref (caOf mg C)) (.ref (caOf mg C')) = some false := by
  rw [caOf_eq h1, caOf_eq h2]
  exact k.kitC (by simpa using ne) h
theorem pg_mk {K : PySem.W.Frag} {mg : Str → Option Value} {G : GT} {dis : List DInfo} {gl : List (Str × D)} {ts : List DefAt} (n : G.n = dis.length) (ck : dis.all (okD G) = true) (defs : All2 (DefOk K) dis ts) (top : Top K mg G.cls (tbOf ts) (caOf mg))
    (kb : AllP (fun p : Nat × List Str × List Nat => KBinds K (tbOf ts p.1).fd (tbOf ts p.1).ps p.2.1 (gOf (p.2.2.length - p.2.1.length) p.2.1.length p.2.2) (gOf (p.2.2.length - p.2.1.length) p.2.1.length p.2.2)) G.kws)
    (fns : AllP (fun p : Str × Nat => p.2 < G.n ∧ mg p.1 = some (.ref (tbOf ts p.2).ad)) G.fns) (noG : AllP (fun x => mg x = none) G.noG) (glob : AllP (fun p : Str × D => ∃ u v, mg p.1 = some u ∧ RelV v u ∧ ∀ io N H, RepV K mg io N H p.2 v) gl) : Pg K mg G dis gl ts (caOf mg) :=
  ⟨n, ck, defs, top, fun k ks pm h => kb.get (k, ks, pm) h, fun x k h => fns.get (x, k) (PySem.mem_of_lookup h), fun x h => noG.get x (by simpa using h), fun x d h => glob.get (x, d) (PySem.mem_of_lookup h)⟩
theorem gl_glb {K : PySem.W.Frag} {mg : Str → Option Value} {x : Str} {a : Addr} (h : mg x = some (.ref a)) : ∃ u v, mg x = some u ∧ RelV v u ∧ ∀ io N H, RepV K mg io N H (.glb x) v := ⟨.ref a, .ref a, h, rfl, fun _ _ _ => ⟨a, h, rfl⟩⟩
theorem gl_int {K : PySem.W.Frag} {mg : Str → Option Value} {x : Str} {i : Int} {t : Tok} (h : mg x = some (.int i t)) : ∃ u v, mg x = some u ∧ RelV v u ∧ ∀ io N H, RepV K mg io N H (.int i) v := ⟨.int i t, .int i, h, ⟨t, rfl⟩, fun _ _ _ => rfl⟩
theorem gl_str {K : PySem.W.Frag} {mg : Str → Option Value} {x : Str} {i : Str} {t : Tok} (h : mg x = some (.str i t)) : ∃ u v, mg x = some u ∧ RelV v u ∧ ∀ io N H, RepV K mg io N H (.str i) v := ⟨.str i t, .str i, h, ⟨t, rfl⟩, fun _ _ _ => rfl⟩
theorem gl_tup {K : PySem.W.Frag} {mg : Str → Option Value} {x : Str} {a : Addr} {dd : Option Addr} {its : Array Value} {k : Nat} {sl : Array (Option Value)} {ds : List D} {vs : List V} (h : mg x = some (.ref a)) (hl : K.lookup a = some ⟨.type "tuple", dd, .seq its k, sl⟩) (hz : its.size ≤ sizeLine)
    (hv : Vals vs its.toList) (hr : ∀ io N H, RepVs K mg io N H ds vs) : ∃ u v, mg x = some u ∧ RelV v u ∧ ∀ io N H, RepV K mg io N H (.tup ds) v :=
  ⟨.ref a, .ref a, h, rfl, fun io N H => ⟨a, vs, rfl, .inr ⟨_, its, k, hl, rfl, rfl, hz, hv⟩, hr io N H⟩⟩
theorem strs_rep' {K : PySem.W.Frag} {mg : Str → Option Value} {io : Pl} {N : Nat} {H : Hp} : ∀ xs : List Str, RepVs K mg io N H (xs.map D.str) (xs.map V.str)
  | [] => rfl
  | x :: xs => ⟨.str x, xs.map V.str, rfl, rfl, strs_rep' xs⟩
/-- keywords, where n arguments stand by place: h by one match an arity -/
theorem kb_mk {K : PySem.W.Frag} {fd : FuncData} {ps ks : List Str} {n m : Nat} {pm : List Nat} (hz : 0 < ps.length) (h : ∀ us ws : List Value, us.length = n → ws.length = m → bindArgs fd ⟨us, ks.zip ws⟩ = pure (ps.zip (gOf n m pm us ws))) : KBinds K fd ps ks (gOf n m pm) (gOf n m pm) :=
  ⟨fun s us ws _ hl => by
    by_cases q : us.length = n ∧ ws.length = m
    · exact .of_eq (h us ws q.1 q.2)
    · unfold gOf at hl
      rw [if_neg q] at hl
      exact absurd hl (by simp only [List.length_nil]; omega), fun a b => gOf_rel a b⟩
end LC

/-! # LcU: reckoning with terms -/
namespace LC
open PySem
theorem post_bnd {α β : Type} {x : M α} {f : α → M β} {m : Sto} {F : β → Sto → Prop} : Post (bnd x f m) F = Post (x m) fun a m1 => Post (f a m1) F := by
  unfold bnd
  cases x m <;> rfl
theorem post_ret {α : Type} {a : α} {m : Sto} {F : α → Sto → Prop} : Post (ret a m) F = F a m := rfl
theorem post_ok {α : Type} {a : α} {m : Sto} {F : α → Sto → Prop} : Post (.ok a m) F = F a m := rfl
theorem post_bad {α : Type} {F : α → Sto → Prop} : Post (.bad : Out α) F = False := rfl
theorem post_exc {α : Type} {C : Str} {fs : List (Str × D)} {m : Sto} {F : α → Sto → Prop} : Post (.exc C fs m : Out α) F = False := rfl
theorem post_ite {α : Type} {c : Prop} [Decidable c] {a b : Out α} {F : α → Sto → Prop} : Post (if c then a else b) F = if c then Post a F else Post b F := by split <;> rfl
theorem app_ite {α : Type} {c : Prop} [Decidable c] {a b : M α} {m : Sto} : (if c then a else b) m = if c then a m else b m := by split <;> rfl
/-- a def, one level down -/
theorem post_call {G : Prog} {n k : Nat} {d : DefI} {as : List D} {m : Sto} {F : D → Sto → Prop} (e : G.defs[k]? = some d) (hl : as.length = d.np) (h : Post ((den (phi G n) d.body).s (as.map some ++ List.replicate (d.ns - d.np) none) m) fun fl m' => match fl with
    | .nx _ => F .non m'
    | .rt x => F x m'
    | _ => False) : Post (callD G (n + 1) k as m) F := by
  unfold callD
  rw [e]
  show Post (runDef _ d as m) F
  unfold runDef
  rw [if_pos hl]
  show Post (match (den (phi G n) d.body).s (as.map some ++ List.replicate (d.ns - d.np) none) m with
    | .ok (.nx _) m' => .ok .non m'
    | .ok (.rt x) m' => .ok x m'
    | .ok _ _ => .bad
    | .exc C fs m' => .exc C fs m'
    | .bad => .bad) F
  cases q : (den (phi G n) d.body).s (as.map some ++ List.replicate (d.ns - d.np) none) m with
  | ok fl m' => rw [q] at h; cases fl <;> first | exact h | exact (show False from h).elim
  | exc C fs m' => rw [q] at h; exact (show False from h).elim
  | bad => rw [q] at h; exact (show False from h).elim
theorem post_and {α : Type} {o : Out α} {F F' : α → Sto → Prop} (h : Post o F) (k : ∀ a m, F a m → F' a m) : Post o F' := h.mono k
theorem post_eq {α : Type} {o : Out α} {a : α} {m : Sto} (h : Post o fun b m' => b = a ∧ m' = m) : o = .ok a m := by
  cases o with
  | ok b m' => obtain ⟨rfl, rfl⟩ := h; rfl
  | exc C fs m' => exact (show False from h).elim
  | bad => exact (show False from h).elim
theorem eq_post {α : Type} {o : Out α} {a : α} {m : Sto} {F : α → Sto → Prop} (e : o = .ok a m) (h : F a m) : Post o F := by rw [e]; exact h
/-- the same, closed: what is behind it is not reckoned by itself -/
structure Po {α : Type} (o : Out α) (F : α → Sto → Prop) : Prop where
  h : Post o F
theorem po_iff {α : Type} {o : Out α} {F : α → Sto → Prop} : Po o F = Post o F := propext ⟨fun x => x.h, fun x => ⟨x⟩⟩
theorem Po.mono {α : Type} {o : Out α} {F F' : α → Sto → Prop} (h : Po o F) (k : ∀ a m, F a m → F' a m) : Po o F' := ⟨h.h.mono k⟩
theorem po_eq {α : Type} {o : Out α} {a : α} {m : Sto} (h : Po o fun b m' => b = a ∧ m' = m) : o = .ok a m := post_eq h.h
theorem eq_po {α : Type} {o : Out α} {a : α} {m : Sto} {F : α → Sto → Prop} (e : o = .ok a m) (h : F a m) : Po o F := ⟨eq_post e h⟩
end LC

/-! # LcU2: loops, lists of ints, draws -/
namespace LC
open PySem
/-! ### comprehensions and loops -/
theorem lcL_fm {turn : D → M (Option D)} {g : D → Option D} {m : Sto} : ∀ {ds acc : List D}, (∀ d ∈ ds, turn d m = .ok (g d) m) → acc.length + ds.length ≤ LIM → lcL turn ds acc m = .ok (acc ++ ds.filterMap g) m
  | [], acc, _, _ => by simp [lcL, ret]
  | d :: ds, acc, h, hz => by
    unfold lcL
    rw [h d (by simp)]
    have hl : acc.length + (ds.length + 1) ≤ LIM := hz
    cases e : g d with
    | none => simp only [List.filterMap_cons, e]; exact lcL_fm (fun x hx => h x (by simp [hx])) (by omega)
    | some x =>
      simp only
      rw [if_pos (by simp; omega), lcL_fm (fun x hx => h x (by simp [hx])) (by simp; omega)]
      simp [e]
theorem lcL_map {turn : D → M (Option D)} {g : D → D} {m : Sto} {ds acc : List D} (h : ∀ d ∈ ds, turn d m = .ok (some (g d)) m) (hz : acc.length + ds.length ≤ LIM) : lcL turn ds acc m = .ok (acc ++ ds.map g) m := by
  have := lcL_fm (g := fun d => some (g d)) h hz
  rw [this]
  congr 2
  induction ds with
  | nil => rfl
  | cons d ds ih =>
    simp only [List.filterMap_cons, List.map_cons]
    rw [ih (fun x hx => h x (by simp [hx])) (by simp at hz; omega) (lcL_fm (g := fun d => some (g d)) (fun x hx => h x (by simp [hx])) (by simp at hz; omega))]
/-- a comprehension that draws: R by the turn -/
theorem lcL_inv {turn : D → M (Option D)} {F : List D → Sto → Prop} (R : Nat → List D → Sto → Prop) {n : Nat} {ds0 : List D} (hn : ds0.length = n) (hz : n ≤ LIM)
    (hs : ∀ i acc m d, i < n → ds0[i]? = some d → acc.length ≤ i → R i acc m → Post (turn d m) fun o m' => match o with | none => R (i + 1) acc m' | some x => R (i + 1) (acc ++ [x]) m') (hd : ∀ acc m, R n acc m → F acc m) :
    ∀ (ds acc : List D) (m : Sto) (i : Nat), ds = ds0.drop i → i ≤ n → acc.length ≤ i → R i acc m → Post (lcL turn ds acc m) F
  | [], acc, m, i, e, hi, ha, r => by
    have : i = n := by
      have := congrArg List.length e
      simp at this
      omega
    subst this
    exact hd acc m r
  | d :: ds, acc, m, i, e, hi, ha, r => by
    have hlt : i < n := by
      have := congrArg List.length e
      simp at this
      omega
    have e1 : ds0[i]? = some d := by
      have := congrArg (fun l => l[0]?) e
      simpa using this.symm
    have e2 : ds = ds0.drop (i + 1) := by
      have := congrArg List.tail e
      simpa using this
    have h := hs i acc m d hlt e1 ha r
    unfold lcL
    cases q : turn d m with
    | ok o m' =>
      rw [q] at h
      cases o with
      | none => exact lcL_inv R hn hz hs hd ds acc m' (i + 1) e2 hlt (by omega) h
      | some x =>
        simp only
        rw [if_pos (by simp; omega)]
        exact lcL_inv R hn hz hs hd ds (acc ++ [x]) m' (i + 1) e2 hlt (by simp; omega) h
    | exc C fs m' => rw [q] at h; exact (show False from h).elim
    | bad => rw [q] at h; exact (show False from h).elim
/-- a for: R by the turn -/
theorem forL_inv {body : D → Env → M Flow} {F : Flow → Sto → Prop} (R : Nat → Env → Sto → Prop) {n : Nat} {ds0 : List D} (hn : ds0.length = n)
    (hs : ∀ i r m d, i < n → ds0[i]? = some d → R i r m → Post (body d r m) fun fl m' => match fl with | .nx r' => R (i + 1) r' m' | .ct r' => R (i + 1) r' m' | .bk r' => F (.nx r') m' | .rt x => F (.rt x) m')
    (hd : ∀ r m, R n r m → F (.nx r) m) : ∀ (ds : List D) (r : Env) (m : Sto) (i : Nat), ds = ds0.drop i → i ≤ n → R i r m → Post (forL body ds r m) F
  | [], r, m, i, e, hi, q => by
    have : i = n := by
      have := congrArg List.length e
      simp at this
      omega
    subst this
    exact hd r m q
  | d :: ds, r, m, i, e, hi, q => by
    have hlt : i < n := by
      have := congrArg List.length e
      simp at this
      omega
    have e1 : ds0[i]? = some d := by
      have := congrArg (fun l => l[0]?) e
      simpa using this.symm
    have e2 : ds = ds0.drop (i + 1) := by
      have := congrArg List.tail e
      simpa using this
    have h := hs i r m d hlt e1 q
    unfold forL
    cases z : body d r m with
    | ok fl m' =>
      rw [z] at h
      cases fl with
      | nx r' => exact forL_inv R hn hs hd ds r' m' (i + 1) e2 hlt h
      | ct r' => exact forL_inv R hn hs hd ds r' m' (i + 1) e2 hlt h
      | bk r' => exact h
      | rt x => exact h
    | exc C fs m' => rw [z] at h; exact (show False from h).elim
    | bad => rw [z] at h; exact (show False from h).elim
/-- a while: R with a measure below the fuel -/
theorem while_inv {c : Env → M Bool} {body : Env → M Flow} {F : Flow → Sto → Prop} (R : Nat → Env → Sto → Prop)
    (hs : ∀ k r m, R k r m → Post (c r m) fun b m' => if b = true then Post (body r m') (fun fl m2 => match fl with | .nx r' => ∃ j, j < k ∧ R j r' m2 | .ct r' => ∃ j, j < k ∧ R j r' m2 | .bk r' => F (.nx r') m2 | .rt x => F (.rt x) m2) else F (.nx r) m') :
    ∀ (w k : Nat) (r : Env) (m : Sto), k < w → R k r m → Post (whileM c body w r m) F
  | 0, k, r, m, hk, q => absurd hk (Nat.not_lt_zero _)
  | w + 1, k, r, m, hk, q => by
    have h := hs k r m q
    unfold whileM
    cases z : c r m with
    | ok b m' =>
      rw [z] at h
      cases b with
      | false => exact h
      | true =>
        have h : Post (body r m') _ := h
        simp only
        cases z2 : body r m' with
        | ok fl m2 =>
          rw [z2] at h
          cases fl with
          | nx r' => obtain ⟨j, hj, q2⟩ := h; exact while_inv R hs w j r' m2 (by omega) q2
          | ct r' => obtain ⟨j, hj, q2⟩ := h; exact while_inv R hs w j r' m2 (by omega) q2
          | bk r' => exact h
          | rt x => exact h
        | exc C fs m2 => rw [z2] at h; exact (show False from h).elim
        | bad => rw [z2] at h; exact (show False from h).elim
    | exc C fs m' => rw [z] at h; exact (show False from h).elim
    | bad => rw [z] at h; exact (show False from h).elim

theorem lcL_po {turn : D → M (Option D)} {F : List D → Sto → Prop} (R : Nat → List D → Sto → Prop) {n : Nat} {ds : List D} {m : Sto} (hn : ds.length = n) (hz : n ≤ LIM) (h0 : R 0 [] m)
    (hs : ∀ i acc m d, i < n → ds[i]? = some d → acc.length ≤ i → R i acc m → Po (turn d m) fun o m' => match o with | none => R (i + 1) acc m' | some x => R (i + 1) (acc ++ [x]) m') (hd : ∀ acc m, R n acc m → F acc m) : Po (lcL turn ds [] m) F :=
  ⟨lcL_inv R hn hz (fun i acc m d a b c e => (hs i acc m d a b c e).h) hd ds [] m 0 rfl (Nat.zero_le _) (Nat.le_refl _) h0⟩
theorem forL_po {body : D → Env → M Flow} {F : Flow → Sto → Prop} (R : Nat → Env → Sto → Prop) {n : Nat} {ds : List D} {r : Env} {m : Sto} (hn : ds.length = n) (h0 : R 0 r m)
    (hs : ∀ i r m d, i < n → ds[i]? = some d → R i r m → Po (body d r m) fun fl m' => match fl with | .nx r' => R (i + 1) r' m' | .ct r' => R (i + 1) r' m' | .bk r' => F (.nx r') m' | .rt x => F (.rt x) m')
    (hd : ∀ r m, R n r m → F (.nx r) m) : Po (forL body ds r m) F :=
  ⟨forL_inv R hn (fun i r m d a b c => (hs i r m d a b c).h) hd ds r m 0 rfl (Nat.zero_le _) h0⟩
theorem while_po {c : Env → M Bool} {body : Env → M Flow} {F : Flow → Sto → Prop} (R : Nat → Env → Sto → Prop) {w k : Nat} {r : Env} {m : Sto} (hk : k < w) (h0 : R k r m)
    (hs : ∀ k r m, R k r m → Po (c r m) fun b m' => if b = true then Po (body r m') (fun fl m2 => match fl with | .nx r' => ∃ j, j < k ∧ R j r' m2 | .ct r' => ∃ j, j < k ∧ R j r' m2 | .bk r' => F (.nx r') m2 | .rt x => F (.rt x) m2) else F (.nx r) m') : Po (whileM c body w r m) F :=
  ⟨while_inv R (fun k r m q => (hs k r m q).h.mono fun b m' z => by
    cases b with
    | true => rw [if_pos rfl] at z; exact z.h
    | false => exact z) w k r m hk h0⟩
/-! ### lists of ints -/
def dints (xs : List Int) : List D := xs.map .int
theorem asInts_d : ∀ xs : List Int, asInts (dints xs) = some xs
  | [] => rfl
  | x :: xs => by show (asInts (dints xs)).map (x :: ·) = _; rw [asInts_d xs]; rfl
theorem asBools_t : ∀ xs : List D, (∀ d ∈ xs, d = .bl true) → ∃ bs, asBools xs = some bs ∧ bs.all id = true
  | [], _ => ⟨[], rfl, rfl⟩
  | x :: xs, h => by
    obtain ⟨bs, e, q⟩ := asBools_t xs fun d hd => h d (by simp [hd])
    rw [h x (by simp)]
    exact ⟨true :: bs, by show (asBools xs).map _ = _; rw [e]; rfl, by simp [q]⟩
theorem asBools_d : ∀ xs : List Bool, asBools (xs.map .bl) = some xs
  | [] => rfl
  | x :: xs => by show (asBools (xs.map .bl)).map (x :: ·) = _; rw [asBools_d xs]; rfl
theorem dints_len {xs : List Int} : (dints xs).length = xs.length := List.length_map ..
theorem ixN_of {n : Nat} {i : Int} (h0 : 0 ≤ i) (h1 : i < n) : ixN n i = some i.toNat := by unfold ixN; rw [if_pos h0, if_pos h1]
theorem atI_d {xs : List Int} {i : Int} (h0 : 0 ≤ i) (h1 : i < xs.length) : atI (dints xs) i = some (.int (xs.getD i.toNat 0)) := by
  unfold atI
  rw [ixN_of h0 (by rw [dints_len]; exact h1)]
  show (xs.map D.int)[i.toNat]? = _
  have : i.toNat < xs.length := by omega
  rw [List.getElem?_map, List.getElem?_eq_getElem this]
  simp [List.getD, List.getElem?_eq_getElem this]
theorem most_spec : ∀ {xs : List Int}, xs ≠ [] → most xs ∈ xs ∧ ∀ x ∈ xs, x ≤ most xs := fun {xs} h => ⟨most_mem xs (List.length_pos_iff.mpr h), fun x hx => most_ge xs x hx⟩
theorem least_spec : ∀ {xs : List Int}, xs ≠ [] → least xs ∈ xs ∧ ∀ x ∈ xs, least xs ≤ x := fun {xs} h => ⟨least_mem xs (List.length_pos_iff.mpr h), fun x hx => least_le xs x hx⟩

/-! ### the purse of the laws' draws -/
/-- a purse stands at p -/
def Purse (p : Nat) (m : Sto) : Prop := ∃ s b k : Int, m[p]? = some (.lst [.int s, .int b, .int k]) ∧ 0 ≤ s ∧ s < 2147483629 ∧ 0 ≤ b
/-- behind draws: the purse again, all else as it was, maybe new places -/
structure Drawn (p : Nat) (m m' : Sto) : Prop where
  pu : Purse p m'
  len : m.length ≤ m'.length
  off : ∀ j, j < m.length → j ≠ p → m'[j]? = m[j]?
theorem Drawn.refl {p : Nat} {m : Sto} (h : Purse p m) : Drawn p m m := ⟨h, Nat.le_refl _, fun _ _ _ => rfl⟩
theorem Drawn.trans {p : Nat} {m m' m2 : Sto} (a : Drawn p m m') (b : Drawn p m' m2) : Drawn p m m2 := ⟨b.pu, Nat.le_trans a.len b.len, fun j h1 h2 => (b.off j (Nat.lt_of_lt_of_le h1 a.len) h2).trans (a.off j h1 h2)⟩
theorem Purse.lt {p : Nat} {m : Sto} (h : Purse p m) : p < m.length := by
  obtain ⟨s, b, k, e, _⟩ := h
  exact (List.getElem?_eq_some_iff.mp e).1
theorem Drawn.new {p : Nat} {m : Sto} (h : Purse p m) (o : List Ob) : Drawn p m (m ++ o) := by
  have hl := h.lt
  obtain ⟨s, b, k, e, q⟩ := h
  exact ⟨⟨s, b, k, by rw [List.getElem?_append_left hl]; exact e, q⟩, by simp, fun j hj _ => by rw [List.getElem?_append_left hj]⟩
end LC

/-! # LcV: what simp knows of terms -/
namespace LC
open PySem
/-- a body's end is a def's end -/
def fin (F : D → Sto → Prop) : Flow → Sto → Prop
  | .nx _, m => F .non m
  | .rt x, m => F x m
  | _, _ => False
theorem po_call {G : Prog} {n k : Nat} {d : DefI} {as : List D} {m : Sto} {F : D → Sto → Prop} (e : G.defs[k]? = some d) (hl : as.length = d.np) (h : Po ((den (phi G n) d.body).s (as.map some ++ List.replicate (d.ns - d.np) none) m) (fin F)) : Po (callD G (n + 1) k as m) F :=
  ⟨post_call e hl (h.h.mono fun fl m' q => by cases fl <;> exact q)⟩
section
variable {mu : Bool} {m : Sto} {i j : Int} {x y : D} {P : Phi} {r : Env} {k : Nat} {xs ys : List D} {F : D → Sto → Prop} {α : Type}
@[simp] theorem v_bnd {β : Type} {x : M α} {f : α → M β} {F : β → Sto → Prop} : Po (bnd x f m) F = Po (x m) fun a m1 => Po (f a m1) F := by simp only [po_iff, post_bnd]
@[simp] theorem v_ret {a : α} {F : α → Sto → Prop} : Po (ret a m) F = F a m := po_iff
@[simp] theorem v_ok {a : α} {F : α → Sto → Prop} : Po (.ok a m) F = F a m := po_iff
@[simp] theorem v_bad {F : α → Sto → Prop} : Po (.bad : Out α) F = False := po_iff
@[simp] theorem v_badm {F : α → Sto → Prop} : Po ((LC.bad : M α) m) F = False := po_iff
@[simp] theorem v_ite {c : Prop} [Decidable c] {a b : M α} {F : α → Sto → Prop} : Po ((if c then a else b) m) F = if c then Po (a m) F else Po (b m) F := by split <;> rfl
@[simp] theorem v_fin_nx : fin F (.nx r) m = F .non m := rfl
@[simp] theorem v_fin_rt : fin F (.rt x) m = F x m := rfl
@[simp] theorem v_seq_nx {k : Env → M Flow} : seqF (.nx r) k = k r := rfl
@[simp] theorem v_seq_rt {k : Env → M Flow} : seqF (.rt x) k = LC.ret (.rt x) := rfl
@[simp] theorem v_seq_bk {k : Env → M Flow} : seqF (.bk r) k = LC.ret (.bk r) := rfl
@[simp] theorem v_seq_ct {k : Env → M Flow} : seqF (.ct r) k = LC.ret (.ct r) := rfl
@[simp] theorem v_asB {b : Bool} : asB (.bl b) m = .ok b m := rfl
@[simp] theorem v_asI : asI (.int i) m = .ok (some i) m := rfl
@[simp] theorem v_asS {s : Str} : asS (.str s) m = .ok s m := rfl
@[simp] theorem v_getV0 {o : Option D} : getV 0 (o :: r) m = (match o with | some d => .ok d m | none => .bad) := by
  unfold getV
  cases o <;> rfl
@[simp] theorem v_getVS {o : Option D} : getV (k + 1) (o :: r) m = getV k r m := by
  unfold getV
  rw [List.getElem?_cons_succ]
@[simp] theorem v_add : opBin mu .Add (.int i) (.int j) m = .ok (.int (i + j)) m := rfl
@[simp] theorem v_sub : opBin mu .Sub (.int i) (.int j) m = .ok (.int (i - j)) m := rfl
@[simp] theorem v_mul : opBin mu .Mult (.int i) (.int j) m = if mulOk i j then .ok (.int (i * j)) m else .bad := rfl
@[simp] theorem v_fdiv : opBin mu .FloorDiv (.int i) (.int j) m = if divOk j then .ok (.int (i / j)) m else .bad := rfl
@[simp] theorem v_mod : opBin mu .Mod (.int i) (.int j) m = if 0 < j then .ok (.int (i % j)) m else .bad := by show (if decide (0 < j) = true then _ else _) = _; simp
@[simp] theorem v_pow : opBin mu .Pow (.int i) (.int j) m = if 0 ≤ j ∧ j ≤ 1000000 ∧ i.natAbs < 2 ^ 64 then .ok (.int (i ^ j.toNat)) m else .bad := by show (if decide (0 ≤ j ∧ j ≤ 1000000 ∧ i.natAbs < 2 ^ 64) = true then _ else _) = _; simp
@[simp] theorem v_cat : opBin mu .Add (.tup xs) (.tup ys) m = if xs.length + ys.length ≤ LIM then .ok (.tup (xs ++ ys)) m else .bad := by show (if decide (xs.length + ys.length ≤ LIM) = true then _ else _) = _; simp
@[simp] theorem v_catL : opBin false .Add (.lst xs) (.lst ys) m = if xs.length + ys.length ≤ LIM then .ok (.lst (xs ++ ys)) m else .bad := by show (if decide (xs.length + ys.length ≤ LIM) = true then _ else _) = _; simp
@[simp] theorem v_eqI : opCmp .Eq (.int i) (.int j) m = .ok (.bl (decide (i = j))) m := by
  show bOut (if (fitD (.int i) && fitD (.int j)) = true then some (PyData.eqv (.int i) (.int j)) else none) m = _
  have h1 : (fitD (.int i) && fitD (.int j)) = true := rfl
  rw [if_pos h1]
  have : PyData.eqv (.int i) (.int j) = decide (i = j) := by
    simp only [PyData.eqv]
    by_cases h : i = j
    · subst h; simp
    · simp [h]
  rw [this]; rfl
@[simp] theorem v_neI : opCmp .NotEq (.int i) (.int j) m = .ok (.bl (!decide (i = j))) m := by
  show bOut ((if (fitD (.int i) && fitD (.int j)) = true then some (PyData.eqv (.int i) (.int j)) else none).map not) m = _
  have h1 : (fitD (.int i) && fitD (.int j)) = true := rfl
  rw [if_pos h1]
  have : PyData.eqv (.int i) (.int j) = decide (i = j) := by
    simp only [PyData.eqv]
    by_cases h : i = j
    · subst h; simp
    · simp [h]
  rw [this]; rfl
@[simp] theorem v_lt : opCmp .Lt (.int i) (.int j) m = .ok (.bl (decide (i < j))) m := rfl
@[simp] theorem v_le : opCmp .LtE (.int i) (.int j) m = .ok (.bl (decide (i ≤ j))) m := rfl
@[simp] theorem v_gt : opCmp .Gt (.int i) (.int j) m = .ok (.bl (decide (j < i))) m := rfl
@[simp] theorem v_ge : opCmp .GtE (.int i) (.int j) m = .ok (.bl (decide (j ≤ i))) m := rfl
@[simp] theorem v_is0 : opCmp .Is .non .non m = .ok (.bl true) m := rfl
@[simp] theorem v_is1 : opCmp .Is (.int i) .non m = .ok (.bl false) m := rfl
@[simp] theorem v_is2 : opCmp .Is (.tup xs) .non m = .ok (.bl false) m := rfl
@[simp] theorem v_isn0 : opCmp .IsNot .non .non m = .ok (.bl false) m := rfl
@[simp] theorem v_isn1 : opCmp .IsNot (.int i) .non m = .ok (.bl true) m := rfl
@[simp] theorem v_isn2 : opCmp .IsNot (.tup xs) .non m = .ok (.bl true) m := rfl
@[simp] theorem v_truB {b : Bool} : tru (.bl b) m = .ok b m := rfl
@[simp] theorem v_ixT : opIx (.tup xs) (.int i) m = oOut (atI xs i) m := rfl
@[simp] theorem v_ixL : opIx (.lst xs) (.int i) m = oOut (atI xs i) m := rfl
@[simp] theorem v_ixS {ns : List Int} : opIx (.scr ns) (.int i) m = oOut ((atI ns i).map .int) m := rfl
@[simp] theorem v_oOut {d : D} : oOut (some d) m = .ok d m := rfl
@[simp] theorem v_oOutN : oOut none m = .bad := rfl
@[simp] theorem v_slT {lo hi : Option Int} : opSl mu (.tup xs) lo hi m = .ok (.tup (cut xs lo hi)) m := rfl
@[simp] theorem v_slL {lo hi : Option Int} : opSl false (.lst xs) lo hi m = .ok (.lst (cut xs lo hi)) m := rfl
@[simp] theorem v_rvT : opRv mu (.tup xs) m = .ok (.tup xs.reverse) m := rfl
@[simp] theorem v_slS {lo hi : Option Int} {ns : List Int} : opSl mu (.scr ns) lo hi m = .ok (.lst (cut (ns.map .int) lo hi)) m := rfl
@[simp] theorem v_mkTup : mkTup xs m = if xs.length ≤ LIM then .ok (.tup xs) m else .bad := by unfold mkTup; simp
@[simp] theorem v_mkLst : mkLst false xs m = if xs.length ≤ LIM then .ok (.lst xs) m else .bad := by unfold mkLst; simp
@[simp] theorem v_mkLstM : mkLst true xs m = if xs.length ≤ LIM then .ok (.ref m.length) (m ++ [.lst xs]) else .bad := by unfold mkLst; simp [new]
@[simp] theorem v_stT : starred (.tup xs) m = .ok xs m := rfl
@[simp] theorem v_stL : starred (.lst xs) m = .ok xs m := rfl
@[simp] theorem v_lenT : callB P .len [.tup xs] m = .ok (.int xs.length) m := rfl
@[simp] theorem v_lenL : callB P .len [.lst xs] m = .ok (.int xs.length) m := rfl
@[simp] theorem v_lenS {ns : List Int} : callB P .len [.scr ns] m = .ok (.int ns.length) m := by show Out.ok (D.int ((ns.map D.int).length : Nat)) m = _; simp
@[simp] theorem v_abs : callB P .abs [.int i] m = .ok (.int (if i < 0 then -i else i)) m := rfl
@[simp] theorem v_max2 : callB P .max [.int i, .int j] m = .ok (.int (if j > i then j else i)) m := rfl
@[simp] theorem v_min2 : callB P .min [.int i, .int j] m = .ok (.int (if j < i then j else i)) m := rfl
@[simp] theorem v_divmod : callB P .divmod [.int i, .int j] m = if divOk j then .ok (.tup [.int (i / j), .int (i % j)]) m else .bad := rfl
@[simp] theorem v_isI : callB P .isinst [.int i, .ty "int"] m = .ok (.bl true) m := rfl
@[simp] theorem v_isIB : callB P .isinst [.int i, .ty "bool"] m = .ok (.bl false) m := rfl
@[simp] theorem v_isT : callB P .isinst [.tup xs, .ty "tuple"] m = .ok (.bl true) m := rfl
@[simp] theorem v_isIT : callB P .isinst [.int i, .ty "tuple"] m = .ok (.bl false) m := rfl
@[simp] theorem v_tyInt : callT mu .int [.int i] m = .ok (.int i) m := rfl
@[simp] theorem v_tyTupL : callT mu .tuple [.lst xs] m = .ok (.tup xs) m := rfl
@[simp] theorem v_tyTupT : callT mu .tuple [.tup xs] m = .ok (.tup xs) m := rfl
@[simp] theorem v_tyLstL : callT false .list [.lst xs] m = .ok (.lst xs) m := rfl
@[simp] theorem v_tyLstT : callT false .list [.tup xs] m = .ok (.lst xs) m := rfl
@[simp] theorem v_srcT : srcV (.tup xs) m = .ok (.fix xs) m := rfl
@[simp] theorem v_srcL : srcV (.lst xs) m = .ok (.fix xs) m := rfl
@[simp] theorem v_srcS {ns : List Int} : srcV (.scr ns) m = .ok (.fix (ns.map .int)) m := rfl
@[simp] theorem v_rng1 : srcR [.int j] m = if small62 j then .ok (.fix (rangeL 0 j)) m else .bad := rfl
@[simp] theorem v_rng3 {c : Int} : srcR [.int i, .int j, .int c] m = if rgOk3 i j c then .ok (.fix (rangeC i j c)) m else .bad := rfl
@[simp] theorem v_rng2 : srcR [.int i, .int j] m = if small62 i && small62 j then .ok (.fix (rangeL i j)) m else .bad := rfl
@[simp] theorem v_all {bs : List Bool} : callB P .all [.lst (bs.map .bl)] m = .ok (.bl (bs.all id)) m := by
  show (match asBools (bs.map .bl) with | some ns => Out.ok (D.bl (ns.all id)) m | _ => .bad) = _
  rw [asBools_d]
@[simp] theorem v_maxL {n : Int} {ns : List Int} : callB P .max [.lst (dints (n :: ns))] m = .ok (.int (most (n :: ns))) m := by
  show (match asInts (dints (n :: ns)) with | some (n :: ns) => Out.ok (D.int (most (n :: ns))) m | _ => .bad) = _
  rw [asInts_d]
@[simp] theorem v_set2 {a b : Nat} {d e : D} : setAll [a, b] [d, e] r = LC.ret ((r.set a (some d)).set b (some e)) := rfl
@[simp] theorem v_set3 {a b c : Nat} {d e f : D} : setAll [a, b, c] [d, e, f] r = LC.ret (((r.set a (some d)).set b (some e)).set c (some f)) := rfl
@[simp] theorem v_phi {G : Prog} {n : Nat} : (phi G n).call = callD G n := rfl
@[simp] theorem v_phiW {G : Prog} {n : Nat} : (phi G n).W = G.W := rfl
@[simp] theorem v_iteB {c : Prop} [Decidable c] {a b : Out α} {F : α → Sto → Prop} : Po (if c then a else b) F = if c then Po a F else Po b F := by split <;> rfl
end
@[simp] theorem v_allF {β : Type} {P : Phi} {m : Sto} {l : List β} {f : β → Bool} : callB P .all [.lst (l.map fun x => D.bl (f x))] m = .ok (.bl (l.all f)) m := by
  have e : (l.map fun x => D.bl (f x)) = (l.map f).map .bl := by simp
  rw [e, v_all]
  simp [List.all_map]
theorem lcL_ints {turn : D → M (Option D)} {f : Int → D} {m : Sto} {xs : List Int} (h : ∀ x ∈ xs, turn (.int x) m = .ok (some (f x)) m) (hz : xs.length ≤ LIM) : lcL turn (dints xs) [] m = .ok (xs.map f) m := by
  have := lcL_map (turn := turn) (m := m) (ds := dints xs) (acc := []) (g := fun d => match d with | .int x => f x | _ => d) (fun d hd => by
    obtain ⟨x, hx, rfl⟩ := List.mem_map.mp hd
    exact h x hx) (by simp [dints_len]; exact hz)
  rw [this]
  simp [dints, Function.comp_def]
theorem lcL_rangeF {turn : D → M (Option D)} {g : Nat → Option D} {m : Sto} {lo hi : Int} (h : ∀ k : Nat, lo + k < hi → turn (.int (lo + k)) m = .ok (g k) m) (hz : (hi - lo).toNat ≤ LIM) : lcL turn (rangeL lo hi) [] m = .ok ((List.range (hi - lo).toNat).filterMap g) m := by
  have := lcL_fm (turn := turn) (m := m) (ds := rangeL lo hi) (acc := []) (g := fun d => match d with | .int x => g (x - lo).toNat | _ => none) (fun d hd => by
    obtain ⟨k, hk, rfl⟩ := List.mem_map.mp hd
    have hk := List.mem_range.mp hk
    rw [h k (by omega)]
    show _ = Out.ok (g (lo + k - lo).toNat) m
    rw [show (lo + (k : Int) - lo).toNat = k by omega]) (by simp [rangeL]; omega)
  rw [this]
  unfold rangeL
  rw [List.filterMap_map, List.nil_append]
  congr 2
  funext k
  show g (lo + (k : Int) - lo).toNat = g k
  rw [show (lo + (k : Int) - lo).toNat = k by omega]
theorem lcL_range {turn : D → M (Option D)} {f : Nat → D} {m : Sto} {n : Nat} (h : ∀ k : Nat, k < n → turn (.int k) m = .ok (some (f k)) m) (hz : n ≤ LIM) : lcL turn (rangeL 0 n) [] m = .ok ((List.range n).map f) m := by
  have := lcL_rangeF (turn := turn) (m := m) (lo := 0) (hi := n) (g := fun k => some (f k)) (fun k hk => by rw [Int.zero_add]; exact h k (by omega)) (by omega)
  rw [this]
  congr 1
  rw [show ((n : Int) - 0).toNat = n by omega]
  induction n with
  | zero => rfl
  | succ n ih => simp [List.filterMap_eq_map]
theorem dints_app {a b : List Int} : dints a ++ dints b = dints (a ++ b) := by simp [dints]
set_option exponentiation.threshold 20000 in
theorem divOk_of {j : Int} (h0 : 0 < j) (h1 : j < 2 ^ 8000) : divOk j = true := by
  unfold divOk
  rw [Bool.and_eq_true, decide_eq_true_eq, decide_eq_true_eq]
  refine ⟨h0, ?_⟩
  have : j.natAbs ≠ 0 := by omega
  rw [Nat.log2_lt this]
  have h2 : j.natAbs < 2 ^ 8000 := by
    have : (j.natAbs : Int) < ((2 ^ 8000 : Nat) : Int) := by rw [show (j.natAbs : Int) = j by omega]; exact_mod_cast h1
    exact_mod_cast this
  exact Nat.lt_of_lt_of_le h2 (Nat.pow_le_pow_right (by decide) (by decide))
theorem mulOk_l {i j : Int} (h0 : -(2 ^ 64) < i) (h1 : i < 2 ^ 64) : mulOk i j = true := by
  unfold mulOk
  rw [decide_eq_true (show -(2 ^ 64) < i ∧ i < 2 ^ 64 from ⟨h0, h1⟩)]
  rfl
theorem mulOk_r {i j : Int} (h0 : -(2 ^ 64) < j) (h1 : j < 2 ^ 64) : mulOk i j = true := by
  unfold mulOk
  rw [decide_eq_true (show -(2 ^ 64) < j ∧ j < 2 ^ 64 from ⟨h0, h1⟩), Bool.or_true, Bool.true_or]
/-- behind a statement: the rest -/
def sq (k : LC.Env → M Flow) (F : Flow → Sto → Prop) : Flow → Sto → Prop
  | .nx r, m => Po (k r m) F
  | .rt d, m => F (.rt d) m
  | .bk r, m => F (.bk r) m
  | .ct r, m => F (.ct r) m
theorem po_seq {P : Phi} {x y : T} {r : LC.Env} {m : Sto} {F : Flow → Sto → Prop} (h : Po ((den P x).s r m) (sq (den P y).s F)) : Po ((den P (.cons x y)).s r m) F := by
  show Po (bnd ((den P x).s r) (fun fl => seqF fl (den P y).s) m) F
  rw [v_bnd]
  exact h.mono fun fl m1 q => by
    cases fl with
    | nx r => exact q
    | rt d => exact ⟨q⟩
    | bk r => exact ⟨q⟩
    | ct r => exact ⟨q⟩
section
variable {k : LC.Env → M Flow} {F : Flow → Sto → Prop} {r : LC.Env} {m : Sto} {d : D}
@[simp] theorem v_sq_nx : sq k F (.nx r) m = Po (k r m) F := rfl
@[simp] theorem v_sq_rt : sq k F (.rt d) m = F (.rt d) m := rfl
@[simp] theorem v_sq_bk : sq k F (.bk r) m = F (.bk r) m := rfl
@[simp] theorem v_sq_ct : sq k F (.ct r) m = F (.ct r) m := rfl
end
theorem cut_take {α : Type} {xs : List α} {s : Nat} : cut xs none (some (s : Int)) = xs.take s := by
  unfold cut
  have h : sIx xs.length xs.length (some (s : Int)) = min s xs.length := by
    show (if (s : Int) < 0 then ((s : Int) + (xs.length : Int)).toNat else min (s : Int).toNat xs.length) = _
    rw [if_neg (by omega), Int.toNat_natCast]
  rw [h]
  show (xs.drop 0).take (min s xs.length - 0) = _
  rw [List.drop_zero, Nat.sub_zero]
  by_cases q : s ≤ xs.length
  · rw [Nat.min_eq_left q]
  · rw [Nat.min_eq_right (by omega), List.take_length, List.take_of_length_le (by omega)]
theorem cut_last {α : Type} {xs : List α} : cut xs none (some (-1)) = xs.dropLast := by
  unfold cut
  have h : sIx xs.length xs.length (some (-1)) = xs.length - 1 := by
    show (if (-1 : Int) < 0 then (-1 + (xs.length : Int)).toNat else min (-1 : Int).toNat xs.length) = _
    rw [if_pos (by omega)]
    omega
  rw [h]
  show (xs.drop 0).take (xs.length - 1 - 0) = _
  rw [List.drop_zero, Nat.sub_zero, List.dropLast_eq_take]
theorem dints_take {xs : List Int} {k : Nat} : (dints xs).take k = dints (xs.take k) := by simp [dints, List.map_take]
theorem dints_dropLast {xs : List Int} : (dints xs).dropLast = dints xs.dropLast := by simp [dints, List.map_dropLast]
theorem fld_put {P : Phi} {C f : Str} {c : Cls} {fs : List (Str × D)} {v : D} {p : Nat} {m : Sto} (hp : m[p]? = some (.ins C fs)) (hc : P.cl C = some c) (hf : c.flds.contains f = true) (hl : fs.length < 1000) : opFld P f (.ref p) v m = .ok () (m.set p (.ins C (putF f v fs))) := by
  unfold opFld
  simp only [hp, hc, hf, decide_eq_true hl, Bool.and_self, if_true]
theorem fld_get {P : Phi} {C f : Str} {c : Cls} {fs : List (Str × D)} {v : D} {p : Nat} {m : Sto} (hp : m[p]? = some (.ins C fs)) (hc : P.cl C = some c) (hf : c.flds.contains f = true) (hv : fs.lookup f = some v) : opAt P f (.ref p) m = .ok v m := by
  unfold opAt
  simp only [hp, hc, hf, if_true, hv]
  rfl
theorem at_set {m : Sto} {p : Nat} {o o' : Ob} (hp : m[p]? = some o) : (m.set p o')[p]? = some o' := List.getElem?_set_self (List.getElem?_eq_some_iff.mp hp).1
theorem ix_ref {p : Nat} {m : Sto} {xs : List D} {i : Int} (hp : m[p]? = some (.lst xs)) : opIx (.ref p) (.int i) m = oOut (atI xs i) m := by
  have e : top m (.ref p) = .lst xs := by show topR (.ref p) m[p]? = _; rw [hp]; rfl
  unfold opIx
  rw [e]
theorem set_ref {p j : Nat} {m : Sto} {xs : List D} {i : Int} {v : D} (hp : m[p]? = some (.lst xs)) (hj : ixN xs.length i = some j) : opSet (.ref p) (.int i) v m = .ok () (m.set p (.lst (xs.set j v))) := by
  unfold opSet
  simp only [hp, hj]
theorem po_end {P : Phi} {r : LC.Env} {m : Sto} {F : Flow → Sto → Prop} (h : F (.nx r) m) : Po ((den P .nil).s r m) F := ⟨h⟩
end LC

/-! # LcW: programs by what they have -/
namespace LC
open PySem
class HasD (G : Prog) (k : Nat) (d : outParam DefI) : Prop where
  h : G.defs[k]? = some d
class HasG (G : Prog) (x : Str) (d : outParam D) : Prop where
  h : G.glob.lookup x = some d
class HasF (G : Prog) (C f : Str) : Prop where
  h : ∃ c, (G.cls.find? fun c => c.name == C) = some c ∧ c.flds.contains f = true
class HasP (G : Prog) (C f : Str) (k : outParam Nat) : Prop where
  h : ∃ c, (G.cls.find? fun c => c.name == C) = some c ∧ c.flds.contains f = false ∧ c.props.lookup f = some k
class HasM (G : Prog) (C f : Str) (k : outParam Nat) : Prop where
  h : ∃ c, (G.cls.find? fun c => c.name == C) = some c ∧ c.meths.lookup f = some k
class HasI (G : Prog) (C : Str) (k : outParam Nat) : Prop where
  h : ∃ c, (G.cls.find? fun c => c.name == C) = some c ∧ c.init = some k
class HasC (G : Prog) (C : Str) : Prop where
  h : ∃ c, (G.cls.find? fun c => c.name == C) = some c
section
variable {G : Prog} {n k : Nat} {x C f : Str} {d : DefI}
theorem po_callD [i : HasD G k d] {as : List D} {m : Sto} {F : D → Sto → Prop} (hl : as.length = d.np) (h : Po ((den (phi G n) d.body).s (as.map some ++ List.replicate (d.ns - d.np) none) m) (fin F)) : Po (callD G (n + 1) k as m) F := po_call i.h hl h
@[simp] theorem glob_eq {v : D} [i : HasG G x v] : (phi G n).glob.lookup x = some v := i.h
theorem at_fld [i : HasF G C f] {fs : List (Str × D)} {v : D} {p : Nat} {m : Sto} (hp : m[p]? = some (.ins C fs)) (hv : fs.lookup f = some v) : opAt (phi G n) f (.ref p) m = .ok v m := by
  obtain ⟨c, h1, h2⟩ := i.h
  exact fld_get hp h1 h2 hv
theorem put_fld [i : HasF G C f] {fs : List (Str × D)} {v : D} {p : Nat} {m : Sto} (hp : m[p]? = some (.ins C fs)) (hl : fs.length < 1000) : opFld (phi G n) f (.ref p) v m = .ok () (m.set p (.ins C (putF f v fs))) := by
  obtain ⟨c, h1, h2⟩ := i.h
  exact fld_put hp h1 h2 hl
theorem at_prop [i : HasP G C f k] {fs : List (Str × D)} {p : Nat} {m : Sto} (hp : m[p]? = some (.ins C fs)) : opAt (phi G n) f (.ref p) m = callD G n k [.ref p] m := by
  obtain ⟨c, h1, h2, h3⟩ := i.h
  unfold opAt
  have h1 : (phi G n).cl C = some c := h1
  simp only [hp, h1, h2, h3]
  rfl
theorem pre_me [i : HasM G C f k] {fs : List (Str × D)} {p : Nat} {m : Sto} (hp : m[p]? = some (.ins C fs)) (hf : (fs.lookup f).isNone = true) : preMe (phi G n) f (.ref p) m = .ok k m := by
  obtain ⟨c, h1, h2⟩ := i.h
  have h1 : (phi G n).cl C = some c := h1
  unfold preMe
  simp only [hp, h1, h2, hf, if_true]
theorem mk_new [i : HasI G C k] {as : List D} {m : Sto} {F : D → Sto → Prop} (h : Po (callD G n k (.ref m.length :: as) (m ++ [.ins C []])) fun d m' => d = .non ∧ F (.ref m.length) m') : Po (opMk (phi G n) C as m) F := by
  obtain ⟨c, h1, h2⟩ := i.h
  have h1 : (phi G n).cl C = some c := h1
  unfold opMk opMkK
  simp only [h1, h2]
  rw [v_bnd, v_bnd, v_ret]
  refine Po.mono h ?_
  rintro _ m1 ⟨rfl, hF⟩
  exact ⟨hF⟩
theorem mk_newK [i : HasI G C k] {as bs : List D} {g : List D → List D → M (List D)} {l : List D} {m : Sto} {F : D → Sto → Prop} (hg : g (.ref m.length :: as) bs (m ++ [.ins C []]) = .ok l (m ++ [.ins C []])) (h : Po (callD G n k l (m ++ [.ins C []])) fun d m' => d = .non ∧ F (.ref m.length) m') : Po (opMkK (phi G n) C g as bs m) F := by
  obtain ⟨c, h1, h2⟩ := i.h
  have h1 : (phi G n).cl C = some c := h1
  unfold opMkK
  simp only [h1, h2]
  rw [v_bnd, v_bnd, hg, v_ok]
  refine Po.mono h ?_
  rintro _ m1 ⟨rfl, hF⟩
  exact ⟨hF⟩
theorem is_own [i : HasC G C] {fs : List (Str × D)} {p : Nat} {m : Sto} (hp : m[p]? = some (.ins C fs)) : callB (phi G n) .isinst [.ref p, .glb C] m = .ok (.bl true) m := by
  obtain ⟨c, h1⟩ := i.h
  have h1 : (phi G n).cl C = some c := h1
  show bOut (isInst1 _ m (.ref p) (.glb C)) m = _
  unfold isInst1
  simp only [h1, hp, Option.isSome_some, if_true, beq_self_eq_true]
  rfl
end
end LC

/-! # LcX: texts of values -/
namespace LC
open PySem
theorem log2_lt {i : Int} {k : Nat} (hk : 0 < k) (h0 : -(2 ^ k) < i) (h1 : i < 2 ^ k) : i.natAbs.log2 < k := by
  by_cases z : i.natAbs = 0
  · rw [z]; simpa using hk
  · rw [Nat.log2_lt z]
    have e : ((2 ^ k : Nat) : Int) = 2 ^ k := by push_cast; rfl
    rw [← e] at h0 h1
    omega
theorem po_ok {α : Type} {o : Out α} {a : α} (h : Po o fun v _ => v = a) : ∃ m, o = .ok a m := by
  have h := h.h
  cases o with
  | ok v m => have h : v = a := h; subst h; exact ⟨m, rfl⟩
  | exc C fs m => exact (show False from h).elim
  | bad => exact (show False from h).elim
mutual
def wt : PyData → Nat
  | .none => 4
  | .bool _ => 5
  | .int _ => 1921
  | .str s => 10 * s.length + 2
  | .list xs => 4 + wts xs
  | .tuple xs => 4 + wts xs
  | .dict _ => 2 ^ 30
def wts : List PyData → Nat
  | [] => 0
  | x :: xs => wt x + 2 + wts xs
end
mutual
/-- what is told: ints of a moderate size, texts of real signs -/
def tel : PyData → Bool
  | .none => true
  | .bool _ => true
  | .int i => decide (i.natAbs.log2 < 1920)
  | .str s => s.cps.toList.all fun c => decide (c < 16 ^ 8)
  | .list xs => tels xs
  | .tuple xs => tels xs
  | .dict _ => false
def tels : List PyData → Bool
  | [] => true
  | x :: xs => tel x && tels xs
end
theorem str_len_app (a b : Str) : (a ++ b).length = a.length + b.length := by
  show (a.cps ++ b.cps).size = a.cps.size + b.cps.size
  exact Array.size_append
theorem join_len (s : Str) : ∀ l : List Str, (Str.join s l).length ≤ (l.map fun x => x.length + s.length).sum
  | [] => by simp [Str.join]; rfl
  | [x] => by simp [Str.join]
  | x :: y :: r => by
    have := join_len s (y :: r)
    have e : Str.join s (x :: y :: r) = x ++ s ++ Str.join s (y :: r) := by simp [Str.join]
    rw [e, str_len_app, str_len_app]
    simp only [List.map_cons, List.sum_cons] at this ⊢
    omega
mutual
theorem shown_le : ∀ a : PyData, tel a = true → a.showable = true ∧ a.shown.length ≤ wt a
  | .none, _ => by simp only [PyData.showable, PyData.shown, wt]; decide +kernel
  | .bool b, _ => by cases b <;> simp only [PyData.showable, PyData.shown, wt] <;> decide +kernel
  | .int i, h => by
    simp only [tel, decide_eq_true_eq] at h
    simp only [PyData.showable, PyData.shown, wt, decide_eq_true_eq]
    exact ⟨h, PyProof.Rows.int_text_len_1921 h⟩
  | .str s, h => by
    simp only [tel, List.all_eq_true, decide_eq_true_eq] at h
    simp only [PyData.showable, PyData.shown, wt, true_and]
    exact StrLaws.reprText_len s h
  | .list xs, h => by
    simp only [tel] at h
    have := shown_les xs h
    simp only [PyData.showable, PyData.shown_list, wt]
    refine ⟨this.1, ?_⟩
    rw [str_len_app, str_len_app]
    have j := join_len ", " (PyData.shownAll xs)
    have e1 : ("[" : Str).length = 1 := by decide +kernel
    have e2 : ("]" : Str).length = 1 := by decide +kernel
    have e3 : (", " : Str).length = 2 := by decide +kernel
    rw [e3] at j
    omega
  | .tuple xs, h => by
    simp only [tel] at h
    have := shown_les xs h
    simp only [PyData.showable, PyData.shown_tuple, wt]
    refine ⟨this.1, ?_⟩
    rw [str_len_app, str_len_app]
    have j := join_len ", " (PyData.shownAll xs)
    have e1 : ("(" : Str).length = 1 := by decide +kernel
    have e2 : Str.length (if xs.length == 1 then ",)" else ")" : String) ≤ 2 := by split <;> decide +kernel
    have e3 : (", " : Str).length = 2 := by decide +kernel
    rw [e3] at j
    omega
  | .dict _, h => by simp [tel] at h
theorem shown_les : ∀ xs : List PyData, tels xs = true → PyData.showableAll xs = true ∧ ((PyData.shownAll xs).map fun x => x.length + 2).sum ≤ wts xs
  | [], _ => by simp [PyData.showableAll, PyData.shownAll, wts]
  | x :: xs, h => by
    simp only [tels, Bool.and_eq_true] at h
    have a := shown_le x h.1
    have b := shown_les xs h.2
    simp only [PyData.showableAll, PyData.shownAll, wts, List.map_cons, List.sum_cons, Bool.and_eq_true]
    exact ⟨⟨a.1, b.1⟩, by omega⟩
end
theorem repr_ok {P : Phi} {d : D} {a : PyData} {m : Sto} (e : (top m d).py = some a) (ht : tel a = true) (hd : a.depth ≤ 64) (hw : wt a ≤ LIM) : callB P .repr [d] m = .ok (.str a.shown) m := by
  have := shown_le a ht
  show bRepr P d m = _
  unfold bRepr
  simp only [e]
  have : showOk a = true := by
    unfold showOk
    rw [this.1, decide_eq_true hd, decide_eq_true (Nat.le_trans this.2 hw)]
    rfl
  rw [if_pos this]
@[simp] theorem lim_lit (k : Nat) : ((no_index (OfNat.ofNat k) : Nat) ≤ LIM) = ((OfNat.ofNat k : Nat) ≤ 16777216) := rfl
@[simp] theorem lim_1 : (1 ≤ LIM) = True := by simp [LIM]
@[simp] theorem lim_0 : (0 ≤ LIM) = True := by simp
/-! ### texts are of real signs -/
abbrev okS (s : Str) : Prop := PyData.strOk s = true
theorem okS_iff {s : Str} : okS s ↔ ∀ c ∈ s.cps.toList, c < 0x110000 := by
  unfold okS PyData.strOk
  rw [← Array.all_toList, List.all_eq_true]
  simp
theorem okS_app {a b : Str} (ha : okS a) (hb : okS b) : okS (a ++ b) := by
  rw [okS_iff] at ha hb ⊢
  intro c hc
  have e : (a ++ b).cps.toList = a.cps.toList ++ b.cps.toList := by
    show (a.cps ++ b.cps).toList = _
    simp
  rw [e] at hc
  rcases List.mem_append.mp hc with h | h
  · exact ha c h
  · exact hb c h
theorem okS_of (s : String) : okS (Str.ofString s) := by
  rw [okS_iff, Str.ofString_eq_toList]
  intro c hc
  simp only [List.mem_map] at hc
  obtain ⟨x, _, rfl⟩ := hc
  have : x.toNat < 0x110000 := by
    have h := x.valid
    have e : x.toNat = x.val.toNat := rfl
    rcases h with h | h
    · have : x.val.toNat < 0xd800 := h
      omega
    · have : x.val.toNat < 0x110000 := h.2
      omega
  exact this
theorem okS_join {s : Str} (hs : okS s) : ∀ l : List Str, (∀ x ∈ l, okS x) → okS (Str.join s l)
  | [], _ => by show okS Str.empty; decide +kernel
  | [x], h => by simpa [Str.join] using h x (by simp)
  | x :: y :: r, h => by
    have e : Str.join s (x :: y :: r) = x ++ s ++ Str.join s (y :: r) := by simp [Str.join]
    rw [e]
    exact okS_app (okS_app (h x (by simp)) hs) (okS_join hs _ fun z hz => h z (by simp [hz]))
theorem reprChar_ok (q c : Nat) (hc : c < 0x110000) : ∀ x ∈ Builtin.Str.reprChar q c, x < 0x110000 := by
  have hx : ∀ w, ∀ x ∈ List.replicate (w - ((Nat.toDigits 16 c).map Char.toNat).length) 48 ++ (Nat.toDigits 16 c).map Char.toNat, x < 0x110000 := by
    intro w x hx
    rcases List.mem_append.mp hx with h | h
    · rw [(List.mem_replicate.mp h).2]; decide
    · obtain ⟨y, _, rfl⟩ := List.mem_map.mp h
      have h := y.valid
      have e : y.toNat = y.val.toNat := rfl
      rcases h with h | h
      · have : y.val.toNat < 0xd800 := h
        omega
      · have : y.val.toNat < 0x110000 := h.2
        omega
  unfold Builtin.Str.reprChar
  dsimp only
  intro x
  repeat' split
  all_goals simp only [List.mem_append, List.mem_cons, List.not_mem_nil, or_false]
  all_goals intro h
  · rcases h with rfl | rfl
    · decide
    · exact hc
  · rcases h with rfl | rfl <;> decide
  · rcases h with rfl | rfl <;> decide
  · rcases h with rfl | rfl <;> decide
  · subst h; exact hc
  · rcases h with (rfl | rfl) | h
    · decide
    · decide
    · exact hx 2 x (List.mem_append.mpr h)
  · rcases h with (rfl | rfl) | h
    · decide
    · decide
    · exact hx 4 x (List.mem_append.mpr h)
  · rcases h with (rfl | rfl) | h
    · decide
    · decide
    · exact hx 8 x (List.mem_append.mpr h)
theorem okS_repr {s : Str} (h : okS s) : okS (reprText s) := by
  rw [okS_iff] at h ⊢
  have q : reprQuote s < 0x110000 := by
    unfold reprQuote
    split <;> decide
  have fold : ∀ (l : List Nat) (acc : Array Nat), (∀ c ∈ l, c < 0x110000) → (∀ c ∈ acc.toList, c < 0x110000) → ∀ c ∈ (l.foldl (fun out c => out ++ (Builtin.Str.reprChar (reprQuote s) c).toArray) acc).toList, c < 0x110000 := by
    intro l
    induction l with
    | nil => intro acc _ h; exact h
    | cons x l ih =>
      intro acc h1 h2
      refine ih _ (fun c hc => h1 c (by simp [hc])) fun c hc => ?_
      rw [Array.toList_append] at hc
      rcases List.mem_append.mp hc with h | h
      · exact h2 c h
      · exact reprChar_ok _ _ (h1 x (by simp)) c (by simpa using h)
  intro c hc
  have e : (reprText s).cps = (s.cps.foldl (fun out c => out ++ (Builtin.Str.reprChar (reprQuote s) c).toArray) #[reprQuote s]).push (reprQuote s) := rfl
  rw [e, Array.toList_push, ← Array.foldl_toList] at hc
  rcases List.mem_append.mp hc with h1 | h1
  · refine fold s.cps.toList #[reprQuote s] h ?_ c h1
    intro c hc
    have : c = reprQuote s := by simpa using hc
    rw [this]; exact q
  · rw [List.mem_singleton.mp h1]; exact q
mutual
/-- all strings within are of real signs -/
def rs : PyData → Bool
  | .str s => PyData.strOk s
  | .list xs => rss xs
  | .tuple xs => rss xs
  | .dict _ => false
  | _ => true
def rss : List PyData → Bool
  | [] => true
  | x :: xs => rs x && rss xs
end
mutual
theorem okS_shown : ∀ a : PyData, rs a = true → okS a.shown
  | .none, _ => by simp only [PyData.shown]; exact okS_of _
  | .bool b, _ => by cases b <;> simp only [PyData.shown] <;> exact okS_of _
  | .int i, _ => by simp only [PyData.shown]; exact okS_of _
  | .str s, h => by simp only [PyData.shown]; exact okS_repr (by simpa only [rs] using h)
  | .list xs, h => by
    rw [PyData.shown_list]
    exact okS_app (okS_app (okS_of _) (okS_join (okS_of _) _ (okS_showns xs (by simpa only [rs] using h)))) (okS_of _)
  | .tuple xs, h => by
    rw [PyData.shown_tuple]
    exact okS_app (okS_app (okS_of _) (okS_join (okS_of _) _ (okS_showns xs (by simpa only [rs] using h)))) (okS_of _)
  | .dict _, h => by simp [rs] at h
theorem okS_showns : ∀ xs : List PyData, rss xs = true → ∀ x ∈ PyData.shownAll xs, okS x
  | [], _ => by simp [PyData.shownAll]
  | x :: xs, h => by
    simp only [rss, Bool.and_eq_true] at h
    intro y hy
    simp only [PyData.shownAll, List.mem_cons] at hy
    rcases hy with rfl | hy
    · exact okS_shown x h.1
    · exact okS_showns xs h.2 y hy
end
theorem fitS {a : Str} (h : okS a) : fitD (.str a) = true := by
  unfold fitD
  simp only [PyData.canLay0, PyData.depth, Bool.and_eq_true]
  exact ⟨h, rfl⟩
theorem eqS {a b : Str} {m : Sto} (ha : okS a) (hb : okS b) : opCmp .Eq (.str a) (.str b) m = .ok (.bl (decide (a = b))) m := by
  show bOut (if (fitD (.str a) && fitD (.str b)) = true then some (PyData.eqv (.str a) (.str b)) else none) m = _
  have h1 : (fitD (.str a) && fitD (.str b)) = true := by rw [fitS ha, fitS hb]; rfl
  rw [if_pos h1]
  have : PyData.eqv (.str a) (.str b) = decide (a = b) := by
    simp only [PyData.eqv]
    by_cases h : a = b
    · subst h; simp
    · simp [h]
  rw [this]; rfl
theorem neS {a b : Str} {m : Sto} (ha : okS a) (hb : okS b) : opCmp .NotEq (.str a) (.str b) m = .ok (.bl (!decide (a = b))) m := by
  show bOut ((if (fitD (.str a) && fitD (.str b)) = true then some (PyData.eqv (.str a) (.str b)) else none).map not) m = _
  have h1 : (fitD (.str a) && fitD (.str b)) = true := by rw [fitS ha, fitS hb]; rfl
  rw [if_pos h1]
  have : PyData.eqv (.str a) (.str b) = decide (a = b) := by
    simp only [PyData.eqv]
    by_cases h : a = b
    · subst h; simp
    · simp [h]
  rw [this]; rfl
end LC

/-! # LcY: ints in lists, told and compared -/
namespace LC
open PySem
theorem pys_ints : ∀ xs : List Int, D.pys (dints xs) = some (xs.map .int)
  | [] => rfl
  | x :: xs => by
    show (match D.py (.int x), D.pys (dints xs) with | some x, some xs => some (x :: xs) | _, _ => none) = _
    rw [pys_ints xs]; rfl
@[simp] theorem py_tup {xs : List D} : D.py (.tup xs) = (D.pys xs).map .tuple := by rw [D.py]
@[simp] theorem py_lst {xs : List D} : D.py (.lst xs) = (D.pys xs).map .list := by rw [D.py]
@[simp] theorem py_int {i : Int} : D.py (.int i) = some (.int i) := by rw [D.py]
@[simp] theorem py_str {i : Str} : D.py (.str i) = some (.str i) := by rw [D.py]
@[simp] theorem py_bl {i : Bool} : D.py (.bl i) = some (.bool i) := by rw [D.py]
@[simp] theorem py_non : D.py .non = some .none := by rw [D.py]
@[simp] theorem pys_nil : D.pys [] = some [] := by rw [D.pys]
theorem pys_cons {d : D} {ds : List D} {a : PyData} {l : List PyData} (h1 : d.py = some a) (h2 : D.pys ds = some l) : D.pys (d :: ds) = some (a :: l) := by rw [D.pys, h1, h2]
def big (i : Int) : Prop := -(10 ^ 100) ≤ i ∧ i ≤ 10 ^ 100
theorem tel_big {i : Int} (h : big i) : tel (.int i) = true := by
  simp only [tel, decide_eq_true_eq]
  obtain ⟨h1, h2⟩ := h
  have : i.natAbs.log2 < 400 := log2_lt (by decide) (by omega) (by omega)
  omega
theorem tels_ints : ∀ {xs : List Int}, (∀ x ∈ xs, big x) → tels (xs.map .int) = true
  | [], _ => by simp [tels]
  | x :: xs, h => by
    simp only [List.map_cons, tels, Bool.and_eq_true]
    exact ⟨tel_big (h x (by simp)), tels_ints fun y hy => h y (by simp [hy])⟩
theorem wts_ints : ∀ xs : List Int, wts (xs.map .int) = 1923 * xs.length
  | [] => by simp [wts]
  | x :: xs => by simp only [List.map_cons, wts, wt, wts_ints xs, List.length_cons]; omega
theorem rss_ints : ∀ xs : List Int, rss (xs.map .int) = true
  | [] => by simp [rss]
  | x :: xs => by simp [rss, rs, rss_ints xs]
theorem depths_ints : ∀ xs : List Int, PyData.depthAll (xs.map .int) ≤ 1
  | [] => by simp [PyData.depthAll]
  | x :: xs => by simp only [List.map_cons, PyData.depthAll, PyData.depth]; have := depths_ints xs; omega
theorem canLays_ints : ∀ xs : List Int, PyData.canLayAll0 (xs.map .int) = true
  | [] => by simp [PyData.canLayAll0]
  | x :: xs => by simp [PyData.canLayAll0, PyData.canLay0, canLays_ints xs]
theorem eqvAll_ints : ∀ xs ys : List Int, PyData.eqvAll (xs.map .int) (ys.map .int) = decide (xs = ys)
  | [], [] => by simp [PyData.eqvAll]
  | [], y :: ys => by simp [PyData.eqvAll]
  | x :: xs, [] => by simp [PyData.eqvAll]
  | x :: xs, y :: ys => by
    simp only [List.map_cons, PyData.eqvAll, eqvAll_ints xs ys, PyData.eqv]
    by_cases h : x = y
    · subst h; simp
    · simp [h]
theorem eqD_of {m : Sto} {x y : D} {a b : PyData} (h1 : (top m x).py = some a) (h2 : (top m y).py = some b) (f1 : fitD a = true) (f2 : fitD b = true) : eqD m x y = some (PyData.eqv a b) := by
  unfold eqD
  rw [h1, h2]
  simp only [f1, f2, Bool.and_self, if_true]
theorem eq_of {m : Sto} {x y : D} {a b : PyData} (h1 : (top m x).py = some a) (h2 : (top m y).py = some b) (f1 : fitD a = true) (f2 : fitD b = true) : opCmp .Eq x y m = .ok (.bl (PyData.eqv a b)) m := by
  show bOut (eqD m x y) m = _
  rw [eqD_of h1 h2 f1 f2]; rfl
theorem ne_of {m : Sto} {x y : D} {a b : PyData} (h1 : (top m x).py = some a) (h2 : (top m y).py = some b) (f1 : fitD a = true) (f2 : fitD b = true) : opCmp .NotEq x y m = .ok (.bl (!PyData.eqv a b)) m := by
  show bOut ((eqD m x y).map not) m = _
  rw [eqD_of h1 h2 f1 f2]; rfl
theorem fit_ints (xs : List Int) : fitD (.list (xs.map .int)) = true := by
  unfold fitD
  rw [Bool.and_eq_true, decide_eq_true_eq]
  refine ⟨by simp only [PyData.canLay0, canLays_ints], ?_⟩
  simp only [PyData.depth]
  exact Nat.le_trans (Nat.add_le_add_right (depths_ints xs) 1) (by decide)
theorem fit_intsT (xs : List Int) : fitD (.tuple (xs.map .int)) = true := by
  unfold fitD
  rw [Bool.and_eq_true, decide_eq_true_eq]
  refine ⟨by simp only [PyData.canLay0, canLays_ints], ?_⟩
  simp only [PyData.depth]
  exact Nat.le_trans (Nat.add_le_add_right (depths_ints xs) 1) (by decide)
theorem eq_ints {xs ys : List Int} {m : Sto} : opCmp .Eq (.lst (dints xs)) (.lst (dints ys)) m = .ok (.bl (decide (xs = ys))) m := by
  rw [eq_of (a := .list (xs.map .int)) (b := .list (ys.map .int)) (by simp [top, pys_ints]) (by simp [top, pys_ints]) (fit_ints xs) (fit_ints ys)]
  simp only [PyData.eqv, eqvAll_ints]
theorem eq_intsT {xs ys : List Int} {m : Sto} : opCmp .Eq (.tup (dints xs)) (.tup (dints ys)) m = .ok (.bl (decide (xs = ys))) m := by
  rw [eq_of (a := .tuple (xs.map .int)) (b := .tuple (ys.map .int)) (by simp [top, pys_ints]) (by simp [top, pys_ints]) (fit_intsT xs) (fit_intsT ys)]
  simp only [PyData.eqv, eqvAll_ints]
/-- the reprs of two values that are small enough, compared: told to be equal if they are the same -/
theorem repr_eq {P : Phi} {x : D} {a : PyData} {m : Sto} {F : D → Sto → Prop} (e : (top m x).py = some a) (ht : tel a = true) (hd : a.depth ≤ 64) (hw : wt a ≤ LIM) (hr : rs a = true) (h : F (.bl true) m) :
    Po (callB P .repr [x] m) fun u m1 => Po (callB P .repr [x] m1) fun w m2 => Po (opCmp .Eq u w m2) F := by
  rw [repr_ok e ht hd hw, v_ok, repr_ok e ht hd hw, v_ok, eqS (okS_shown a hr) (okS_shown a hr), v_ok]
  simpa using h
end LC

/-! # LcZ: texts, tests of texts, what is gone through with places -/
namespace LC
open PySem
theorem ofS_inj (a b : String) : (Str.ofString a = Str.ofString b) = (a = b) := by
  apply propext
  constructor
  · intro h
    rw [Str.ofString_eq_toList, Str.ofString_eq_toList] at h
    have h := congrArg (fun s => s.cps.toList) h
    simp only [List.toList_toArray] at h
    have inj : ∀ {x y : List Char}, x.map Char.toNat = y.map Char.toNat → x = y := by
      intro x
      induction x with
      | nil => intro y h; cases y with | nil => rfl | cons _ _ => simp at h
      | cons c x ih =>
        intro y h
        cases y with
        | nil => simp at h
        | cons d y =>
          simp only [List.map_cons, List.cons.injEq] at h
          have : c = d := Char.ext (UInt32.toNat_inj.mp h.1)
          rw [this, ih h.2]
    have := inj h
    exact String.toList_inj.mp this
  · intro h; rw [h]
@[simp] theorem okS_lit (s : String) : (PyData.strOk (Str.ofString s) = true) = True := by simp only [eq_iff_iff, iff_true]; exact okS_of s
@[simp] theorem len_l0 : (Str.ofString "plus ").length = 5 := by decide +kernel
@[simp] theorem len_l1 : (Str.ofString "times ").length = 6 := by decide +kernel
@[simp] theorem len_l2 : (Str.ofString "/").length = 1 := by decide +kernel
@[simp] theorem len_l3 : (Str.ofString " ").length = 1 := by decide +kernel
@[simp] theorem len_l4 : (Str.ofString " to ").length = 4 := by decide +kernel
@[simp] theorem len_l5 : (Str.ofString ": ").length = 2 := by decide +kernel
@[simp] theorem len_l6 : (Str.ofString ", ").length = 2 := by decide +kernel
@[simp] theorem len_l7 : (Str.ofString "").length = 0 := by decide +kernel
@[simp] theorem len_l8 : (Str.ofString "\n").length = 1 := by decide +kernel
@[simp] theorem len_l9 : (Str.ofString "kind ").length = 5 := by decide +kernel
@[simp] theorem len_l10 : (Str.ofString " group ").length = 7 := by decide +kernel
@[simp] theorem len_l11 : (Str.ofString "group ").length = 6 := by decide +kernel
@[simp] theorem len_l12 : (Str.ofString "whole").length = 5 := by decide +kernel
@[simp] theorem len_l13 : (Str.ofString "plus").length = 4 := by decide +kernel
@[simp] theorem len_l14 : (Str.ofString "times").length = 5 := by decide +kernel
@[simp] theorem len_l15 : (Str.ofString "down").length = 4 := by decide +kernel
@[simp] theorem len_l16 : (Str.ofString "up").length = 2 := by decide +kernel
@[simp] theorem len_l17 : (Str.ofString "near down").length = 9 := by decide +kernel
@[simp] theorem len_l18 : (Str.ofString "near up").length = 7 := by decide +kernel
@[simp] theorem len_l19 : (Str.ofString "near even").length = 9 := by decide +kernel
@[simp] theorem len_l20 : (Str.ofString "Row with period ").length = 16 := by decide +kernel
@[simp] theorem len_l21 : (Str.ofString " and rise ").length = 10 := by decide +kernel
@[simp] theorem len_l22 : (Str.ofString "Book of ").length = 8 := by decide +kernel
@[simp] theorem len_l23 : (Str.ofString " kinds, ").length = 8 := by decide +kernel
@[simp] theorem len_l24 : (Str.ofString " groups").length = 7 := by decide +kernel
example : ¬ (Str.ofString "times" = Str.ofString "plus") := by simp [ofS_inj]

/-- items with their places -/
def enumL (xs : List D) : List D := (List.range xs.length).zip xs |>.map fun p => .tup [.int (p.1 : Nat), p.2]
section
variable {m : Sto} {P : Phi}
theorem in_strs {a : Str} {ys : List Str} : opCmp .In (.str a) (.tup (ys.map .str)) m = .ok (.bl (decide (a ∈ ys))) m := by
  have h1 : (ys.map D.str).all D.flat = true := by rw [List.all_eq_true]; intro d hd; obtain ⟨y, _, rfl⟩ := List.mem_map.mp hd; rfl
  have h2 : ((ys.map D.str).any fun z => eqF z (.str a)) = decide (a ∈ ys) := by
    induction ys with
    | nil => simp
    | cons y ys ih =>
      rw [List.map_cons, List.any_cons, ih (by rw [List.map_cons, List.all_cons, Bool.and_eq_true] at h1; exact h1.2)]
      show ((y == a) || _) = _
      by_cases h : y = a
      · subst h; simp
      · have : ¬ a = y := fun e => h e.symm
        simp [h, this]
  show bOut (if (D.flat (.str a) && (ys.map D.str).all D.flat) = true then some ((ys.map D.str).any fun z => eqF z (.str a)) else none) m = _
  rw [h1, h2]
  rfl
theorem nin_strs {a : Str} {ys : List Str} : opCmp .NotIn (.str a) (.tup (ys.map .str)) m = .ok (.bl (!decide (a ∈ ys))) m := by
  have := @in_strs m a ys
  have e : opCmp .In (.str a) (.tup (ys.map .str)) m = bOut (inD m (.str a) (.tup (ys.map .str))) m := rfl
  rw [e] at this
  show bOut ((inD m (.str a) (.tup (ys.map .str))).map not) m = _
  cases z : inD m (.str a) (.tup (ys.map .str)) with
  | none => rw [z] at this; cases this
  | some b => rw [z] at this; cases this; rfl
/-- in a list, as it stands or at a place -/
theorem in_strsL {a : Str} {ys : List Str} {y : D} (h : top m y = .lst (ys.map .str)) (hy : ∀ z, y ≠ .str z) : opCmp .In (.str a) y m = .ok (.bl (decide (a ∈ ys))) m := by
  have h1 : (ys.map D.str).all D.flat = true := by rw [List.all_eq_true]; intro d hd; obtain ⟨y, _, rfl⟩ := List.mem_map.mp hd; rfl
  have h2 : ((ys.map D.str).any fun z => eqF z (.str a)) = decide (a ∈ ys) := by
    clear h hy
    induction ys with
    | nil => simp
    | cons y ys ih =>
      rw [List.map_cons, List.any_cons, ih (by rw [List.map_cons, List.all_cons, Bool.and_eq_true] at h1; exact h1.2)]
      show ((y == a) || _) = _
      by_cases h : y = a
      · subst h; simp
      · have : ¬ a = y := fun e => h e.symm
        simp [h, this]
  show bOut (inD m (.str a) y) m = _
  have e : inD m (.str a) y = some (decide (a ∈ ys)) := by
    cases y with
    | str z => exact absurd rfl (hy z)
    | _ =>
      unfold inD
      rw [h]
      simp only [h1, h2]
      rfl
  rw [e]; rfl
theorem in_chr {c : Nat} {z : Str} : opCmp .In (.str ⟨#[c]⟩) (.str z) m = .ok (.bl (decide (c ∈ z.cps.toList))) m := rfl
theorem nin_chr {c : Nat} {z : Str} : opCmp .NotIn (.str ⟨#[c]⟩) (.str z) m = .ok (.bl (!decide (c ∈ z.cps.toList))) m := rfl
@[simp] theorem v_isS {s : Str} : callB P .isinst [.str s, .ty "str"] m = .ok (.bl true) m := rfl
@[simp] theorem v_srcStr {z : Str} : srcV (.str z) m = .ok (.fix (z.cps.toList.map fun c => .str ⟨#[c]⟩)) m := rfl
@[simp] theorem v_srcE {xs : List D} : srcE [.tup xs] m = .ok (.fix (enumL xs)) m := rfl
@[simp] theorem v_srcEL {xs : List D} : srcE [.lst xs] m = .ok (.fix (enumL xs)) m := rfl
@[simp] theorem v_srcZ {xs ys : List D} : srcZ [.tup xs, .tup ys] m = .ok (.fix ((xs.zip ys).map fun p => .tup [p.1, p.2])) m := rfl
@[simp] theorem v_srcZL {xs ys : List D} : srcZ [.lst xs, .lst ys] m = .ok (.fix ((xs.zip ys).map fun p => .tup [p.1, p.2])) m := rfl
theorem v_fmtS {s : Str} (h : s.length ≤ LIM) : fmt (.str s) m = .ok (.str s) m := by show (if decide (s.length ≤ LIM) = true then _ else _) = _; rw [decide_eq_true h]; rfl
theorem v_fmtI {i : Int} (h : i.natAbs.log2 < 1920) : fmt (.int i) m = .ok (.str ((toString i : String) : Str)) m := by show (if decide (i.natAbs.log2 < 1920) = true then _ else _) = _; rw [decide_eq_true h]; rfl
theorem v_lenStr {s : Str} (h : s.length ≤ LIM) : callB P .len [.str s] m = .ok (.int s.length) m := by show (if decide (s.length ≤ LIM) = true then _ else _) = _; rw [decide_eq_true h]; rfl
theorem v_addS {mu : Bool} {a b : Str} (h : a.length + b.length ≤ LIM) : opBin mu .Add (.str a) (.str b) m = .ok (.str (a ++ b)) m := by show (if decide (a.length + b.length ≤ LIM) = true then _ else _) = _; rw [decide_eq_true h]; rfl
theorem asStrs_map : ∀ ys : List Str, asStrs (ys.map .str) = some ys
  | [] => rfl
  | y :: ys => by show (asStrs (ys.map .str)).map (y :: ·) = _; rw [asStrs_map ys]; rfl
theorem v_join {a : Str} {ys : List Str} {d : D} (hd : top m d = .lst (ys.map .str)) (h : (ys.map (·.length)).sum + ys.length * a.length ≤ LIM) : opJoin (.str a) d m = .ok (.str (Str.join a ys)) m := by
  unfold opJoin
  simp only [hd]
  unfold joinD
  rw [asStrs_map]
  simp only [decide_eq_true h, if_true]
@[simp] theorem v_negI {x : T} {r : LC.Env} : True := trivial
theorem istr_len {i : Int} (h : i.natAbs.log2 < 1920) : (Str.ofString (toString i)).length ≤ 1921 := PyProof.Rows.int_text_len_1921 h
theorem log2_of {i : Int} (h0 : -(10 ^ 100) ≤ i) (h1 : i ≤ 10 ^ 100) : i.natAbs.log2 < 1920 := by
  have : i.natAbs.log2 < 400 := log2_lt (by decide) (by omega) (by omega)
  omega
end
/-- a for over items with their places -/
theorem enum_get {xs : List D} {i : Nat} {d : D} (h : (enumL xs)[i]? = some d) : ∃ x, xs[i]? = some x ∧ d = .tup [.int (i : Nat), x] := by
  unfold enumL at h
  rw [List.getElem?_map] at h
  cases e : ((List.range xs.length).zip xs)[i]? with
  | none => rw [e] at h; cases h
  | some p =>
    rw [e] at h
    obtain ⟨h1, h2⟩ := List.getElem?_zip_eq_some.mp (show ((List.range xs.length).zip xs)[i]? = some (p.1, p.2) from e)
    have hi : i < xs.length := (List.getElem?_eq_some_iff.mp h2).1
    rw [List.getElem?_range hi] at h1
    cases h1
    exact ⟨p.2, h2, (Option.some.inj h).symm⟩
theorem enum_len {xs : List D} : (enumL xs).length = xs.length := by simp [enumL]
end LC

namespace Tx
open PySem LC
/-- is_integer -/
def f_is_integer_0 (σ : Nat → Nat) : LC.T :=
  .cons (.ret (.an (.bi .isinst (.cons (.v 0) (.cons (.bt "int") .nil))) (.nt (.bi .isinst (.cons (.v 0) (.cons (.bt "bool") .nil)))))) .nil
def f_is_integer (σ : Nat → Nat) : LC.T := f_is_integer_0 σ
def d_is_integer (σ : Nat → Nat) : LC.DefI := ⟨1, 1, f_is_integer σ⟩
/-- common_divisor -/
def f_common_divisor_0 (σ : Nat → Nat) : LC.T :=
  .cons (.par [0, 1] (.cons (.v 1) (.cons (.bin false .Mod (.v 0) (.v 1)) .nil))) .nil
def f_common_divisor_1 (σ : Nat → Nat) : LC.T :=
  .cons (.ret (.v 0)) .nil
def f_common_divisor_2 (σ : Nat → Nat) : LC.T :=
  .cons (.whl (.tc .Gt (.v 1) (.i 0)) (f_common_divisor_0 σ)) (f_common_divisor_1 σ)
def f_common_divisor (σ : Nat → Nat) : LC.T := f_common_divisor_2 σ
def d_common_divisor (σ : Nat → Nat) : LC.DefI := ⟨2, 2, f_common_divisor σ⟩
/-- fraction -/
def f_fraction_0 (σ : Nat → Nat) : LC.T :=
  .cons (.ret (.tup (.cons (.bin false .FloorDiv (.v 0) (.v 2)) (.cons (.bin false .FloorDiv (.v 1) (.v 2)) .nil)))) .nil
def f_fraction_1 (σ : Nat → Nat) : LC.T :=
  .cons (.set 2 (.call (σ 55) (.cons (.bi .abs (.cons (.v 0) .nil)) (.cons (.v 1) .nil)))) (f_fraction_0 σ)
def f_fraction (σ : Nat → Nat) : LC.T := f_fraction_1 σ
def d_fraction (σ : Nat → Nat) : LC.DefI := ⟨2, 3, f_fraction σ⟩
/-- check_integers -/
def f_check_integers_0 (σ : Nat → Nat) : LC.T :=
  .cons .bad .nil
def f_check_integers_1 (σ : Nat → Nat) : LC.T :=
  .cons (.ifs (.to (.tn (.tv (.bi .isinst (.cons (.v 0) (.cons (.bt "tuple") .nil))))) (.to (.tc .Lt (.bi .len (.cons (.v 0) .nil)) (.v 1)) (.tn (.tv (.bi .all (.cons (.lc false [2] (.call (σ 3) (.cons (.v 2) .nil)) (.gv 2) (.itv (.v 0)) .nil) .nil)))))) (f_check_integers_0 σ) .nil) .nil
def f_check_integers (σ : Nat → Nat) : LC.T := f_check_integers_1 σ
def d_check_integers (σ : Nat → Nat) : LC.DefI := ⟨2, 3, f_check_integers σ⟩
/-- goes_on -/
def f_goes_on_0 (σ : Nat → Nat) : LC.T :=
  .cons (.ret (.b false)) .nil
def f_goes_on_1 (σ : Nat → Nat) : LC.T :=
  .cons (.ret (.bi .all (.cons (.lc false [7] (.cmp .Eq (.ix (.v 5) (.bin false .Add (.v 7) (.v 2))) (.bin false .Add (.ix (.v 5) (.v 7)) (.v 4))) (.gv 7) (.itr (.cons (.v 3) .nil)) .nil) .nil))) .nil
def f_goes_on_2 (σ : Nat → Nat) : LC.T :=
  .cons (.set 5 (.ls false (.star (.v 0) (.star (.lc false [6] (.bin false .Add (.v 6) (.v 1)) (.gv 6) (.itv (.v 0)) .nil) .nil)))) (f_goes_on_1 σ)
def f_goes_on_3 (σ : Nat → Nat) : LC.T :=
  .cons (.set 4 (.bin false .FloorDiv (.bin false .Mult (.v 1) (.v 2)) (.v 3))) (f_goes_on_2 σ)
def f_goes_on_4 (σ : Nat → Nat) : LC.T :=
  .cons (.ifs (.tc .NotEq (.bin false .Mod (.bin false .Mult (.v 1) (.v 2)) (.v 3)) (.i 0)) (f_goes_on_0 σ) .nil) (f_goes_on_3 σ)
def f_goes_on_5 (σ : Nat → Nat) : LC.T :=
  .cons (.set 3 (.bi .len (.cons (.v 0) .nil))) (f_goes_on_4 σ)
def f_goes_on (σ : Nat → Nat) : LC.T := f_goes_on_5 σ
def d_goes_on (σ : Nat → Nat) : LC.DefI := ⟨3, 8, f_goes_on σ⟩
/-- Row.__init__ -/
def f_Row_init_0 (σ : Nat → Nat) : LC.T :=
  .cons .bad .nil
def f_Row_init_1 (σ : Nat → Nat) : LC.T :=
  .cons (.set 6 (.ls false (.cons (.ix (.v 1) (.v 8)) (.star (.sl false (.v 6) .nil (.neg (.i 1))) .nil)))) .nil
def f_Row_init_2 (σ : Nat → Nat) : LC.T :=
  .cons (.set 8 (.bin false .Sub (.v 8) (.i 1))) (f_Row_init_1 σ)
def f_Row_init_3 (σ : Nat → Nat) : LC.T :=
  .cons (.asg (.gt (.cons (.ga "head" (.v 0)) (.cons (.ga "cycle" (.v 0)) (.cons (.ga "step" (.v 0)) .nil)))) (.tup (.cons (.sl false (.v 1) .nil (.v 8)) (.cons (.ty .tuple false (.cons (.v 6) .nil)) (.cons (.v 7) .nil))))) .nil
def f_Row_init_4 (σ : Nat → Nat) : LC.T :=
  .cons (.whl (.ta (.tc .Gt (.v 8) (.i 0)) (.tc .Eq (.ix (.v 1) (.bin false .Sub (.v 8) (.i 1))) (.bin false .Sub (.ix (.v 6) (.neg (.i 1))) (.v 7)))) (f_Row_init_2 σ)) (f_Row_init_3 σ)
def f_Row_init_5 (σ : Nat → Nat) : LC.T :=
  .cons (.par [6, 7, 8] (.cons (.ty .list false (.cons (.sl false (.v 2) .nil (.v 5)) .nil)) (.cons (.bin false .FloorDiv (.bin false .Mult (.v 3) (.v 5)) (.v 4)) (.cons (.bi .len (.cons (.v 1) .nil)) .nil)))) (f_Row_init_4 σ)
def f_Row_init_6 (σ : Nat → Nat) : LC.T :=
  .cons (.set 5 (.ix (.lc false [9] (.v 9) (.gv 9) (.itr (.cons (.i 1) (.cons (.bin false .Add (.v 4) (.i 1)) .nil))) (.ta (.tc .Eq (.bin false .Mod (.v 4) (.v 9)) (.i 0)) (.tv (.call (σ 71) (.cons (.v 2) (.cons (.v 3) (.cons (.v 9) .nil))))))) (.i 0))) (f_Row_init_5 σ)
def f_Row_init_7 (σ : Nat → Nat) : LC.T :=
  .cons (.set 4 (.bi .len (.cons (.v 2) .nil))) (f_Row_init_6 σ)
def f_Row_init_8 (σ : Nat → Nat) : LC.T :=
  .cons (.ifs (.tn (.tv (.call (σ 3) (.cons (.v 3) .nil)))) (f_Row_init_0 σ) .nil) (f_Row_init_7 σ)
def f_Row_init_9 (σ : Nat → Nat) : LC.T :=
  .cons (.ex1 (.call (σ 70) (.cons (.v 2) (.cons (.i 1) .nil)))) (f_Row_init_8 σ)
def f_Row_init_10 (σ : Nat → Nat) : LC.T :=
  .cons (.ex1 (.call (σ 70) (.cons (.v 1) (.cons (.i 0) .nil)))) (f_Row_init_9 σ)
def f_Row_init (σ : Nat → Nat) : LC.T := f_Row_init_10 σ
def d_Row_init (σ : Nat → Nat) : LC.DefI := ⟨4, 10, f_Row_init σ⟩
/-- Row.early -/
def f_Row_early_0 (σ : Nat → Nat) : LC.T :=
  .cons (.ret (.at "head" (.v 0))) .nil
def f_Row_early (σ : Nat → Nat) : LC.T := f_Row_early_0 σ
def d_Row_early (σ : Nat → Nat) : LC.DefI := ⟨1, 1, f_Row_early σ⟩
/-- Row.again -/
def f_Row_again_0 (σ : Nat → Nat) : LC.T :=
  .cons (.ret (.at "cycle" (.v 0))) .nil
def f_Row_again (σ : Nat → Nat) : LC.T := f_Row_again_0 σ
def d_Row_again (σ : Nat → Nat) : LC.DefI := ⟨1, 1, f_Row_again σ⟩
/-- Row.rise -/
def f_Row_rise_0 (σ : Nat → Nat) : LC.T :=
  .cons (.ret (.at "step" (.v 0))) .nil
def f_Row_rise (σ : Nat → Nat) : LC.T := f_Row_rise_0 σ
def d_Row_rise (σ : Nat → Nat) : LC.DefI := ⟨1, 1, f_Row_rise σ⟩
/-- Row.pace -/
def f_Row_pace_0 (σ : Nat → Nat) : LC.T :=
  .cons (.ret (.call (σ 56) (.cons (.at "step" (.v 0)) (.cons (.bi .len (.cons (.at "cycle" (.v 0)) .nil)) .nil)))) .nil
def f_Row_pace (σ : Nat → Nat) : LC.T := f_Row_pace_0 σ
def d_Row_pace (σ : Nat → Nat) : LC.DefI := ⟨1, 1, f_Row_pace σ⟩
/-- Row.__eq__ -/
def f_Row_eq_0 (σ : Nat → Nat) : LC.T :=
  .cons (.ret (.b false)) .nil
def f_Row_eq_1 (σ : Nat → Nat) : LC.T :=
  .cons (.ret (.an (.cmp .Eq (.at "head" (.v 0)) (.at "head" (.v 1))) (.an (.cmp .Eq (.at "cycle" (.v 0)) (.at "cycle" (.v 1))) (.cmp .Eq (.at "step" (.v 0)) (.at "step" (.v 1)))))) .nil
def f_Row_eq_2 (σ : Nat → Nat) : LC.T :=
  .cons (.ifs (.tn (.tv (.bi .isinst (.cons (.v 1) (.cons (.g "Row") .nil))))) (f_Row_eq_0 σ) .nil) (f_Row_eq_1 σ)
def f_Row_eq (σ : Nat → Nat) : LC.T := f_Row_eq_2 σ
def d_Row_eq (σ : Nat → Nat) : LC.DefI := ⟨2, 2, f_Row_eq σ⟩
/-- Row.__repr__ -/
def f_Row_repr_0 (σ : Nat → Nat) : LC.T :=
  .cons (.ret (.fs (.cons (.s "Row with period ") (.cons (.fv (.bi .len (.cons (.at "cycle" (.v 0)) .nil))) (.cons (.s " and rise ") (.cons (.fv (.at "step" (.v 0))) .nil)))))) .nil
def f_Row_repr (σ : Nat → Nat) : LC.T := f_Row_repr_0 σ
def d_Row_repr (σ : Nat → Nat) : LC.DefI := ⟨1, 1, f_Row_repr σ⟩
/-- _law_cell -/
def f_L_cell_0 (σ : Nat → Nat) : LC.T :=
  .cons (.ret (.ix (.v 0) (.v 1))) .nil
def f_L_cell_1 (σ : Nat → Nat) : LC.T :=
  .cons (.set 2 (.bin false .Mod (.ty .int false (.cons (.bin false .Add (.bin false .Mult (.v 2) (.i 69997)) (.v 3)) .nil)) (.i 2147483629))) .nil
def f_L_cell_2 (σ : Nat → Nat) : LC.T :=
  .cons (.ret (.v 2)) .nil
def f_L_cell_3 (σ : Nat → Nat) : LC.T :=
  .cons (.fr (.gv 3) (.itv (.sl false (.v 0) .nil (.i 4))) (f_L_cell_1 σ)) (f_L_cell_2 σ)
def f_L_cell_4 (σ : Nat → Nat) : LC.T :=
  .cons (.set 2 (.bin false .Add (.i 1729) (.bin false .Mult (.bin false .Mult (.i 7907) (.v 1)) (.v 1)))) (f_L_cell_3 σ)
def f_L_cell_5 (σ : Nat → Nat) : LC.T :=
  .cons (.ifs (.tc .Lt (.v 1) (.bi .len (.cons (.v 0) .nil))) (f_L_cell_0 σ) .nil) (f_L_cell_4 σ)
def f_L_cell (σ : Nat → Nat) : LC.T := f_L_cell_5 σ
def d_L_cell (σ : Nat → Nat) : LC.DefI := ⟨2, 4, f_L_cell σ⟩
/-- _law_purse -/
def f_L_purse_0 (σ : Nat → Nat) : LC.T :=
  .cons (.ret (.ls true (.cons (.v 1) (.cons (.ife (.tc .GtE (.bi .abs (.cons (.v 0) .nil)) (.bin false .Pow (.i 10) (.i 18))) (.bi .abs (.cons (.v 0) .nil)) (.i 0)) (.cons (.i 0) .nil))))) .nil
def f_L_purse_1 (σ : Nat → Nat) : LC.T :=
  .cons (.set 1 (.bin false .Mod (.ty .int false (.cons (.bin false .Add (.bin false .Mult (.bin false .Mod (.ty .int false (.cons (.v 0) .nil)) (.i 2147483629)) (.i 1583458089)) (.i 362436069)) .nil)) (.i 2147483629))) (f_L_purse_0 σ)
def f_L_purse (σ : Nat → Nat) : LC.T := f_L_purse_1 σ
def d_L_purse (σ : Nat → Nat) : LC.DefI := ⟨1, 2, f_L_purse σ⟩
/-- _law_take -/
def f_L_take_0 (σ : Nat → Nat) : LC.T :=
  .cons (.ret (.v 2)) .nil
def f_L_take_1 (σ : Nat → Nat) : LC.T :=
  .cons (.asg (.gt (.cons (.gs (.v 0) (.i 1)) (.cons (.gv 2) .nil))) (.bi .divmod (.cons (.ix (.v 0) (.i 1)) (.cons (.v 1) .nil)))) (f_L_take_0 σ)
def f_L_take_2 (σ : Nat → Nat) : LC.T :=
  .cons (.ret (.bin false .Mod (.ty .int false (.cons (.bin false .FloorDiv (.ix (.v 0) (.i 0)) (.i 256)) .nil)) (.v 1))) .nil
def f_L_take_3 (σ : Nat → Nat) : LC.T :=
  .cons (.asg (.gs (.v 0) (.i 0)) (.bin false .Mod (.ty .int false (.cons (.bin false .Add (.bin false .Add (.bin false .Mult (.v 3) (.v 4)) (.bin false .Mult (.i 60013) (.ix (.v 0) (.i 2)))) (.i 29)) .nil)) (.i 2147483629))) (f_L_take_2 σ)
def f_L_take_4 (σ : Nat → Nat) : LC.T :=
  .cons (.set 4 (.bin false .Add (.bin false .Mod (.ty .int false (.cons (.v 3) .nil)) (.i 30323)) (.i 40253))) (f_L_take_3 σ)
def f_L_take_5 (σ : Nat → Nat) : LC.T :=
  .cons (.set 3 (.ty .int false (.cons (.ix (.v 0) (.i 0)) .nil))) (f_L_take_4 σ)
def f_L_take_6 (σ : Nat → Nat) : LC.T :=
  .cons (.ifs (.tc .Gt (.ix (.v 0) (.i 1)) (.i 0)) (f_L_take_1 σ) .nil) (f_L_take_5 σ)
def f_L_take_7 (σ : Nat → Nat) : LC.T :=
  .cons (.asg (.gs (.v 0) (.i 2)) (.bin false .Add (.ix (.v 0) (.i 2)) (.i 1))) (f_L_take_6 σ)
def f_L_take (σ : Nat → Nat) : LC.T := f_L_take_7 σ
def d_L_take (σ : Nat → Nat) : LC.DefI := ⟨2, 5, f_L_take σ⟩
/-- _law_int -/
def f_L_int_0 (σ : Nat → Nat) : LC.T :=
  .cons (.ret (.bin false .Mult (.ix (.ls false (.cons (.i 1) (.cons (.neg (.i 1)) .nil))) (.bin false .Sub (.v 1) (.i 6))) (.bin false .Sub (.bin false .Pow (.i 10) (.i 30)) (.call (σ 22) (.cons (.v 0) (.cons (.i 999) .nil)))))) .nil
def f_L_int_1 (σ : Nat → Nat) : LC.T :=
  .cons (.ret (.bin false .Sub (.call (σ 22) (.cons (.v 0) (.cons (.ix (.ls false (.cons (.i 2) (.cons (.i 3) (.cons (.i 5) (.cons (.i 5) (.cons (.i 19) (.cons (.i 199) .nil))))))) (.v 1)) .nil))) (.ix (.ls false (.cons (.i 0) (.cons (.i 1) (.cons (.i 2) (.cons (.i 2) (.cons (.i 9) (.cons (.i 99) .nil))))))) (.v 1)))) .nil
def f_L_int_2 (σ : Nat → Nat) : LC.T :=
  .cons (.ifs (.tc .Gt (.v 1) (.i 5)) (f_L_int_0 σ) .nil) (f_L_int_1 σ)
def f_L_int_3 (σ : Nat → Nat) : LC.T :=
  .cons (.set 1 (.call (σ 22) (.cons (.v 0) (.cons (.i 8) .nil)))) (f_L_int_2 σ)
def f_L_int (σ : Nat → Nat) : LC.T := f_L_int_3 σ
def d_L_int (σ : Nat → Nat) : LC.DefI := ⟨1, 2, f_L_int σ⟩
/-- _law_form -/
def f_L_form_0 (σ : Nat → Nat) : LC.T :=
  .cons (.ret (.tup (.cons (.v 2) (.cons (.v 3) (.cons (.ife (.tc .Eq (.v 1) (.i 0)) (.call (σ 78) (.cons (.v 0) .nil)) (.bin false .Sub (.call (σ 22) (.cons (.v 0) (.cons (.i 5) .nil))) (.i 2))) .nil))))) .nil
def f_L_form_1 (σ : Nat → Nat) : LC.T :=
  .cons (.set 3 (.ty .tuple false (.cons (.lc false [4] (.ife (.tc .Eq (.v 1) (.i 0)) (.call (σ 78) (.cons (.v 0) .nil)) (.call (σ 22) (.cons (.v 0) (.cons (.i 2) .nil)))) (.gv 4) (.itr (.cons (.bin false .Add (.i 1) (.call (σ 22) (.cons (.v 0) (.cons (.i 4) .nil)))) .nil)) .nil) .nil))) (f_L_form_0 σ)
def f_L_form_2 (σ : Nat → Nat) : LC.T :=
  .cons (.set 2 (.ty .tuple false (.cons (.lc false [4] (.ife (.tc .Eq (.v 1) (.i 0)) (.call (σ 78) (.cons (.v 0) .nil)) (.call (σ 22) (.cons (.v 0) (.cons (.i 3) .nil)))) (.gv 4) (.itr (.cons (.call (σ 22) (.cons (.v 0) (.cons (.i 6) .nil))) .nil)) .nil) .nil))) (f_L_form_1 σ)
def f_L_form_3 (σ : Nat → Nat) : LC.T :=
  .cons (.set 1 (.call (σ 22) (.cons (.v 0) (.cons (.i 2) .nil)))) (f_L_form_2 σ)
def f_L_form (σ : Nat → Nat) : LC.T := f_L_form_3 σ
def d_L_form (σ : Nat → Nat) : LC.DefI := ⟨1, 5, f_L_form σ⟩
/-- _law_at -/
def f_L_at_0 (σ : Nat → Nat) : LC.T :=
  .cons (.ret (.ix (.v 2) (.v 1))) .nil
def f_L_at_1 (σ : Nat → Nat) : LC.T :=
  .cons (.ret (.bin false .Add (.ix (.v 3) (.bin false .Mod (.ty .int false (.cons (.bin false .Sub (.v 1) (.bi .len (.cons (.v 2) .nil))) .nil)) (.bi .len (.cons (.v 3) .nil)))) (.bin false .Mult (.bin false .FloorDiv (.bin false .Sub (.v 1) (.bi .len (.cons (.v 2) .nil))) (.bi .len (.cons (.v 3) .nil))) (.v 4)))) .nil
def f_L_at_2 (σ : Nat → Nat) : LC.T :=
  .cons (.ifs (.tc .Lt (.v 1) (.bi .len (.cons (.v 2) .nil))) (f_L_at_0 σ) .nil) (f_L_at_1 σ)
def f_L_at_3 (σ : Nat → Nat) : LC.T :=
  .cons (.asg (.gt (.cons (.gv 2) (.cons (.gv 3) (.cons (.gv 4) .nil)))) (.v 0)) (f_L_at_2 σ)
def f_L_at (σ : Nat → Nat) : LC.T := f_L_at_3 σ
def d_L_at (σ : Nat → Nat) : LC.DefI := ⟨2, 5, f_L_at σ⟩
/-- _law_unrolled -/
def f_L_unrolled_0 (σ : Nat → Nat) : LC.T :=
  .cons (.ret (.tup (.cons (.v 4) (.cons (.v 5) (.cons (.bin false .Sub (.call (σ 80) (.cons (.v 1) (.cons (.bin false .Add (.v 2) (.v 3)) .nil))) (.ix (.v 5) (.i 0))) .nil))))) .nil
def f_L_unrolled_1 (σ : Nat → Nat) : LC.T :=
  .cons (.set 5 (.ty .tuple false (.cons (.lc false [6] (.call (σ 80) (.cons (.v 1) (.cons (.bin false .Add (.v 2) (.v 6)) .nil))) (.gv 6) (.itr (.cons (.v 3) .nil)) .nil) .nil))) (f_L_unrolled_0 σ)
def f_L_unrolled_2 (σ : Nat → Nat) : LC.T :=
  .cons (.set 4 (.ty .tuple false (.cons (.lc false [6] (.call (σ 80) (.cons (.v 1) (.cons (.v 6) .nil))) (.gv 6) (.itr (.cons (.v 2) .nil)) .nil) .nil))) (f_L_unrolled_1 σ)
def f_L_unrolled_3 (σ : Nat → Nat) : LC.T :=
  .cons (.asg (.gt (.cons (.gv 2) (.cons (.gv 3) .nil))) (.tup (.cons (.bin false .Add (.bi .len (.cons (.ix (.v 1) (.i 0)) .nil)) (.call (σ 22) (.cons (.v 0) (.cons (.i 4) .nil)))) (.cons (.bin false .Mult (.bi .len (.cons (.ix (.v 1) (.i 1)) .nil)) (.bin false .Add (.i 1) (.call (σ 22) (.cons (.v 0) (.cons (.i 3) .nil))))) .nil)))) (f_L_unrolled_2 σ)
def f_L_unrolled (σ : Nat → Nat) : LC.T := f_L_unrolled_3 σ
def d_L_unrolled (σ : Nat → Nat) : LC.DefI := ⟨2, 7, f_L_unrolled σ⟩
/-- _law_same_told -/
def f_L_same_told_0 (σ : Nat → Nat) : LC.T :=
  .cons (.ret (.bi .all (.cons (.lc false [3] (.cmp .Eq (.call (σ 80) (.cons (.v 0) (.cons (.v 3) .nil))) (.call (σ 80) (.cons (.v 1) (.cons (.v 3) .nil)))) (.gv 3) (.itr (.cons (.bin false .Add (.v 2) (.i 1)) .nil)) .nil) .nil))) .nil
def f_L_same_told_1 (σ : Nat → Nat) : LC.T :=
  .cons (.set 2 (.bin false .Add (.bi .max (.cons (.bi .len (.cons (.ix (.v 0) (.i 0)) .nil)) (.cons (.bi .len (.cons (.ix (.v 1) (.i 0)) .nil)) .nil))) (.bin false .Mult (.bi .len (.cons (.ix (.v 0) (.i 1)) .nil)) (.bi .len (.cons (.ix (.v 1) (.i 1)) .nil))))) (f_L_same_told_0 σ)
def f_L_same_told (σ : Nat → Nat) : LC.T := f_L_same_told_1 σ
def d_L_same_told (σ : Nat → Nat) : LC.DefI := ⟨2, 4, f_L_same_told σ⟩
/-- _law_bent_form -/
def f_L_bent_form_0 (σ : Nat → Nat) : LC.T :=
  .cons (.ret (.tup (.cons (.bin false .Add (.bin false .Add (.sl false (.v 2) .nil (.v 5)) (.tup (.cons (.bin false .Add (.ix (.v 2) (.v 5)) (.v 6)) .nil))) (.sl false (.v 2) (.bin false .Add (.v 5) (.i 1)) .nil)) (.cons (.v 3) (.cons (.v 4) .nil))))) .nil
def f_L_bent_form_1 (σ : Nat → Nat) : LC.T :=
  .cons (.ret (.tup (.cons (.v 2) (.cons (.bin false .Add (.bin false .Add (.sl false (.v 3) .nil (.v 5)) (.tup (.cons (.bin false .Add (.ix (.v 3) (.v 5)) (.v 6)) .nil))) (.sl false (.v 3) (.bin false .Add (.v 5) (.i 1)) .nil)) (.cons (.v 4) .nil))))) .nil
def f_L_bent_form_2 (σ : Nat → Nat) : LC.T :=
  .cons (.ret (.tup (.cons (.v 2) (.cons (.v 3) (.cons (.bin false .Add (.v 4) (.v 6)) .nil))))) .nil
def f_L_bent_form_3 (σ : Nat → Nat) : LC.T :=
  .cons (.ifs (.tc .Lt (.v 5) (.bi .len (.cons (.v 3) .nil))) (f_L_bent_form_1 σ) .nil) (f_L_bent_form_2 σ)
def f_L_bent_form_4 (σ : Nat → Nat) : LC.T :=
  .cons (.set 5 (.bin false .Sub (.v 5) (.bi .len (.cons (.v 2) .nil)))) (f_L_bent_form_3 σ)
def f_L_bent_form_5 (σ : Nat → Nat) : LC.T :=
  .cons (.ifs (.tc .Lt (.v 5) (.bi .len (.cons (.v 2) .nil))) (f_L_bent_form_0 σ) .nil) (f_L_bent_form_4 σ)
def f_L_bent_form_6 (σ : Nat → Nat) : LC.T :=
  .cons (.set 6 (.ix (.ls false (.cons (.i 1) (.cons (.neg (.i 1)) (.cons (.i 2) (.cons (.bin false .Pow (.i 10) (.i 20)) .nil))))) (.call (σ 22) (.cons (.v 0) (.cons (.i 4) .nil))))) (f_L_bent_form_5 σ)
def f_L_bent_form_7 (σ : Nat → Nat) : LC.T :=
  .cons (.set 5 (.call (σ 22) (.cons (.v 0) (.cons (.bin false .Add (.bin false .Add (.bi .len (.cons (.v 2) .nil)) (.bi .len (.cons (.v 3) .nil))) (.i 1)) .nil)))) (f_L_bent_form_6 σ)
def f_L_bent_form_8 (σ : Nat → Nat) : LC.T :=
  .cons (.asg (.gt (.cons (.gv 2) (.cons (.gv 3) (.cons (.gv 4) .nil)))) (.v 1)) (f_L_bent_form_7 σ)
def f_L_bent_form (σ : Nat → Nat) : LC.T := f_L_bent_form_8 σ
def d_L_bent_form (σ : Nat → Nat) : LC.DefI := ⟨2, 7, f_L_bent_form σ⟩
/-- _law_paced -/
def f_L_paced_0 (σ : Nat → Nat) : LC.T :=
  .cons (.ret (.b false)) .nil
def f_L_paced_1 (σ : Nat → Nat) : LC.T :=
  .cons (.ret (.b false)) .nil
def f_L_paced_2 (σ : Nat → Nat) : LC.T :=
  .cons (.ret (.b false)) .nil
def f_L_paced_3 (σ : Nat → Nat) : LC.T :=
  .cons (.ret (.bi .all (.cons (.lc false [3] (.or (.cmp .NotEq (.bin false .Mod (.ty .int false (.cons (.ix (.v 0) (.i 0)) .nil)) (.v 3)) (.i 0)) (.cmp .NotEq (.bin false .Mod (.ty .int false (.cons (.ix (.v 0) (.i 1)) .nil)) (.v 3)) (.i 0))) (.gv 3) (.itr (.cons (.i 2) (.cons (.bin false .Add (.bi .len (.cons (.ix (.v 1) (.i 1)) .nil)) (.i 1)) .nil))) .nil) .nil))) .nil
def f_L_paced_4 (σ : Nat → Nat) : LC.T :=
  .cons (.ifs (.to (.tn (.tch .LtE .LtE (.i 1) (.ix (.v 0) (.i 1)) (.bi .len (.cons (.ix (.v 1) (.i 1)) .nil)))) (.tc .NotEq (.bin false .Mult (.ix (.v 0) (.i 0)) (.bi .len (.cons (.ix (.v 1) (.i 1)) .nil))) (.bin false .Mult (.ix (.v 0) (.i 1)) (.ix (.v 1) (.i 2))))) (f_L_paced_2 σ) .nil) (f_L_paced_3 σ)
def f_L_paced_5 (σ : Nat → Nat) : LC.T :=
  .cons (.ifs (.tv (.bi .any (.cons (.lc false [2] (.or (.nt (.bi .isinst (.cons (.v 2) (.cons (.bt "int") .nil)))) (.bi .isinst (.cons (.v 2) (.cons (.bt "bool") .nil)))) (.gv 2) (.itv (.v 0)) .nil) .nil))) (f_L_paced_1 σ) .nil) (f_L_paced_4 σ)
def f_L_paced_6 (σ : Nat → Nat) : LC.T :=
  .cons (.ifs (.to (.tn (.tv (.bi .isinst (.cons (.v 0) (.cons (.bt "tuple") .nil))))) (.tc .NotEq (.bi .len (.cons (.v 0) .nil)) (.i 2))) (f_L_paced_0 σ) .nil) (f_L_paced_5 σ)
def f_L_paced (σ : Nat → Nat) : LC.T := f_L_paced_6 σ
def d_L_paced (σ : Nat → Nat) : LC.DefI := ⟨2, 4, f_L_paced σ⟩
/-- _law_two -/
def f_L_two_0 (σ : Nat → Nat) : LC.T :=
  .cons (.set 3 (.call (σ 84) (.cons (.v 0) (.cons (.v 3) .nil)))) .nil
def f_L_two_1 (σ : Nat → Nat) : LC.T :=
  .cons (.set 3 (.call (σ 79) (.cons (.v 0) .nil))) .nil
def f_L_two_2 (σ : Nat → Nat) : LC.T :=
  .cons (.ret (.tup (.cons (.call (σ 81) (.cons (.v 0) (.cons (.v 1) .nil))) (.cons (.v 3) .nil)))) .nil
def f_L_two_3 (σ : Nat → Nat) : LC.T :=
  .cons (.ifs (.tc .Eq (.v 2) (.i 2)) (f_L_two_1 σ) .nil) (f_L_two_2 σ)
def f_L_two_4 (σ : Nat → Nat) : LC.T :=
  .cons (.ifs (.tc .Eq (.v 2) (.i 1)) (f_L_two_0 σ) .nil) (f_L_two_3 σ)
def f_L_two_5 (σ : Nat → Nat) : LC.T :=
  .cons (.par [2, 3] (.cons (.call (σ 22) (.cons (.v 0) (.cons (.i 4) .nil))) (.cons (.call (σ 81) (.cons (.v 0) (.cons (.v 1) .nil))) .nil))) (f_L_two_4 σ)
def f_L_two_6 (σ : Nat → Nat) : LC.T :=
  .cons (.set 1 (.call (σ 79) (.cons (.v 0) .nil))) (f_L_two_5 σ)
def f_L_two (σ : Nat → Nat) : LC.T := f_L_two_6 σ
def d_L_two (σ : Nat → Nat) : LC.DefI := ⟨1, 4, f_L_two σ⟩
/-- _law_right -/
def f_L_right_k18_0 (σ : Nat → Nat) : LC.T :=
  .cons (.ret (.b false)) .nil
def f_L_right_k18_1 (σ : Nat → Nat) : LC.T :=
  .cons (.ret (.b false)) .nil
def f_L_right_k18_2 (σ : Nat → Nat) : LC.T :=
  .cons (.ret (.b false)) .nil
def f_L_right_k18_3 (σ : Nat → Nat) : LC.T :=
  .cons (.ret (.b false)) .nil
def f_L_right_k18_4 (σ : Nat → Nat) : LC.T :=
  .cons (.ifs (.to (.te false (.v 4) (.v 9)) (.to (.te false (.v 9) (.v 4)) (.tn (.te true (.v 4) (.v 9))))) (f_L_right_k18_3 σ) .nil) .nil
def f_L_right_k18_5 (σ : Nat → Nat) : LC.T :=
  .cons (.fr (.gv 9) (.itv (.ls false (.cons .n (.cons (.i 0) (.cons (.v 2) (.cons (.ix (.v 2) (.i 1)) (.cons (.bi .repr (.cons (.v 4) .nil)) (.cons (.ls false (.cons (.v 4) .nil)) (.cons (.tup (.cons (.at "early" (.v 4)) (.cons (.at "again" (.v 4)) (.cons (.at "rise" (.v 4)) .nil)))) .nil))))))))) (f_L_right_k18_4 σ)) .nil
def f_L_right_k18_6 (σ : Nat → Nat) : LC.T :=
  .cons (.ifs (.ta (.tv (.v 6)) (.tc .NotEq (.bi .repr (.cons (.ls false (.cons (.at "early" (.v 4)) (.cons (.at "again" (.v 4)) (.cons (.at "rise" (.v 4)) .nil)))) .nil)) (.bi .repr (.cons (.v 8) .nil)))) (f_L_right_k18_2 σ) .nil) (f_L_right_k18_5 σ)
def f_L_right_k18_7 (σ : Nat → Nat) : LC.T :=
  .cons (.set 8 (.ls false (.cons (.at "early" (.v 5)) (.cons (.at "again" (.v 5)) (.cons (.at "rise" (.v 5)) .nil))))) (f_L_right_k18_6 σ)
def f_L_right_k18_8 (σ : Nat → Nat) : LC.T :=
  .cons (.ifs (.to (.tn (.tv (.call (σ 87) (.cons (.at "pace" (.v 4)) (.cons (.v 2) .nil))))) (.tn (.tv (.call (σ 87) (.cons (.at "pace" (.v 5)) (.cons (.v 3) .nil)))))) (f_L_right_k18_1 σ) .nil) (f_L_right_k18_7 σ)
def f_L_right_k18_9 (σ : Nat → Nat) : LC.T :=
  .cons (.ifs (.tc .NotEq (.bi .repr (.cons (.v 7) .nil)) (.bi .repr (.cons (.ls false (.cons (.v 6) (.cons (.v 6) (.cons (.nt (.v 6)) (.cons (.b true) (.cons (.b true) .nil)))))) .nil))) (f_L_right_k18_0 σ) .nil) (f_L_right_k18_8 σ)
def f_L_right_k18_10 (σ : Nat → Nat) : LC.T :=
  .cons (.set 7 (.ls false (.cons (.eo false (.v 4) (.v 5)) (.cons (.eo false (.v 5) (.v 4)) (.cons (.eo true (.v 4) (.v 5)) (.cons (.eo false (.v 4) (.mk "Row" (.cons (.ix (.v 2) (.i 0)) (.cons (.ix (.v 2) (.i 1)) (.cons (.ix (.v 2) (.i 2)) .nil))))) (.cons (.eo false (.v 4) (.v 4)) .nil))))))) (f_L_right_k18_9 σ)
def f_L_right_k18_11 (σ : Nat → Nat) : LC.T :=
  .cons (.set 6 (.call (σ 82) (.cons (.v 2) (.cons (.v 3) .nil)))) (f_L_right_k18_10 σ)
def f_L_right_k18_12 (σ : Nat → Nat) : LC.T :=
  .cons (.par [4, 5] (.cons (.mk "Row" (.cons (.ix (.v 2) (.i 0)) (.cons (.ix (.v 2) (.i 1)) (.cons (.ix (.v 2) (.i 2)) .nil)))) (.cons (.mk "Row" (.cons (.ix (.v 3) (.i 0)) (.cons (.ix (.v 3) (.i 1)) (.cons (.ix (.v 3) (.i 2)) .nil)))) .nil))) (f_L_right_k18_11 σ)
def f_L_right_k18_13 (σ : Nat → Nat) : LC.T :=
  .cons (.asg (.gt (.cons (.gv 2) (.cons (.gv 3) .nil))) (.call (σ 88) (.cons (.v 0) .nil))) (f_L_right_k18_12 σ)
def f_L_right_k18_14 (σ : Nat → Nat) : LC.T :=
  .cons (.ret (.b true)) .nil
def f_L_right_k18_15 (σ : Nat → Nat) : LC.T :=
  .cons (.fr (.gv 1) (.itr (.cons (.i 10) .nil)) (f_L_right_k18_13 σ)) (f_L_right_k18_14 σ)
def f_L_right_k18 (σ : Nat → Nat) : LC.T := f_L_right_k18_15 σ
def d_L_right_k18 (σ : Nat → Nat) : LC.DefI := ⟨1, 10, f_L_right_k18 σ⟩
/-- law -/
def f_L_law_k18_0 (σ : Nat → Nat) : LC.T :=
  .cons (.ret (.bi .all (.cons (.lc false [1] (.call (σ 31) (.cons (.call (σ 1) (.cons (.call (σ 0) (.cons (.v 0) (.cons (.v 1) .nil))) .nil)) .nil)) (.gv 1) (.itr (.cons (.bi .max (.cons (.i 2) (.cons (.bi .min (.cons (.bi .len (.cons (.v 0) .nil)) (.cons (.i 6) .nil))) .nil))) .nil)) .nil) .nil))) .nil
def f_L_law_k18 (σ : Nat → Nat) : LC.T := f_L_law_k18_0 σ
def d_L_law_k18 (σ : Nat → Nat) : LC.DefI := ⟨1, 2, f_L_law_k18 σ⟩
/-- is_between -/
def f_is_between_0 (σ : Nat → Nat) : LC.T :=
  .cons (.ret (.an (.call (σ 3) (.cons (.v 0) .nil)) (.an (.cmp .GtE (.v 0) (.v 1)) (.or (.cmp .Is (.v 2) .n) (.cmp .LtE (.v 0) (.v 2)))))) .nil
def f_is_between (σ : Nat → Nat) : LC.T := f_is_between_0 σ
def d_is_between (σ : Nat → Nat) : LC.DefI := ⟨3, 3, f_is_between σ⟩
/-- check_number -/
def f_check_number_0 (σ : Nat → Nat) : LC.T :=
  .cons .bad .nil
def f_check_number_1 (σ : Nat → Nat) : LC.T :=
  .cons (.ifs (.tn (.tv (.call (σ 4) (.cons (.v 0) (.cons (.v 1) (.cons (.v 2) .nil)))))) (f_check_number_0 σ) .nil) .nil
def f_check_number (σ : Nat → Nat) : LC.T := f_check_number_1 σ
def d_check_number (σ : Nat → Nat) : LC.DefI := ⟨3, 3, f_check_number σ⟩
/-- Row.at -/
def f_Row_at_0 (σ : Nat → Nat) : LC.T :=
  .cons (.ret (.ix (.at "head" (.v 0)) (.v 1))) .nil
def f_Row_at_1 (σ : Nat → Nat) : LC.T :=
  .cons (.ret (.bin false .Add (.ix (.at "cycle" (.v 0)) (.v 3)) (.bin false .Mult (.v 2) (.at "step" (.v 0))))) .nil
def f_Row_at_2 (σ : Nat → Nat) : LC.T :=
  .cons (.asg (.gt (.cons (.gv 2) (.cons (.gv 3) .nil))) (.bi .divmod (.cons (.bin false .Sub (.v 1) (.bi .len (.cons (.at "head" (.v 0)) .nil))) (.cons (.bi .len (.cons (.at "cycle" (.v 0)) .nil)) .nil)))) (f_Row_at_1 σ)
def f_Row_at_3 (σ : Nat → Nat) : LC.T :=
  .cons (.ifs (.tc .Lt (.v 1) (.bi .len (.cons (.at "head" (.v 0)) .nil))) (f_Row_at_0 σ) .nil) (f_Row_at_2 σ)
def f_Row_at_4 (σ : Nat → Nat) : LC.T :=
  .cons (.ex1 (.call (σ 32) (.cons (.v 1) (.cons (.i 0) (.cons .n .nil))))) (f_Row_at_3 σ)
def f_Row_at (σ : Nat → Nat) : LC.T := f_Row_at_4 σ
def d_Row_at (σ : Nat → Nat) : LC.DefI := ⟨2, 4, f_Row_at σ⟩
/-- _law_tells -/
def f_L_tells_0 (σ : Nat → Nat) : LC.T :=
  .cons (.ret (.b false)) .nil
def f_L_tells_1 (σ : Nat → Nat) : LC.T :=
  .cons (.ret (.b false)) .nil
def f_L_tells_2 (σ : Nat → Nat) : LC.T :=
  .cons (.ret (.b false)) .nil
def f_L_tells_3 (σ : Nat → Nat) : LC.T :=
  .cons (.ifs (.tc .NotEq (.bi .repr (.cons (.ls false (.cons (.me "at" (.v 0) (.cons (.v 4) .nil)) (.cons (.mek "at" (.v 0) .nil ["lines"] (.cons (.v 4) .nil) [0, 1]) (.cons (.me "at" (.v 0) (.cons (.v 4) .nil)) (.cons (.call (σ 80) (.cons (.v 3) (.cons (.v 4) .nil))) .nil))))) .nil)) (.bi .repr (.cons (.bin false .Mult (.ls false (.cons (.v 5) .nil)) (.i 4)) .nil))) (f_L_tells_2 σ) .nil) .nil
def f_L_tells_4 (σ : Nat → Nat) : LC.T :=
  .cons (.set 5 (.call (σ 80) (.cons (.v 1) (.cons (.v 4) .nil)))) (f_L_tells_3 σ)
def f_L_tells_5 (σ : Nat → Nat) : LC.T :=
  .cons (.ret (.b true)) .nil
def f_L_tells_6 (σ : Nat → Nat) : LC.T :=
  .cons (.fr (.gv 4) (.itv (.v 2)) (f_L_tells_4 σ)) (f_L_tells_5 σ)
def f_L_tells_7 (σ : Nat → Nat) : LC.T :=
  .cons (.ifs (.tc .NotEq (.bi .repr (.cons (.v 0) .nil)) (.bin false .Add (.bin false .Add (.bin false .Add (.s "Row with period ") (.ty .str false (.cons (.bi .len (.cons (.ix (.v 3) (.i 1)) .nil)) .nil))) (.s " and rise ")) (.ty .str false (.cons (.ix (.v 3) (.i 2)) .nil)))) (f_L_tells_1 σ) .nil) (f_L_tells_6 σ)
def f_L_tells_8 (σ : Nat → Nat) : LC.T :=
  .cons (.ifs (.to (.tn (.tv (.bi .isinst (.cons (.ix (.v 3) (.i 0)) (.cons (.bt "tuple") .nil))))) (.to (.tn (.tv (.bi .isinst (.cons (.ix (.v 3) (.i 1)) (.cons (.bt "tuple") .nil))))) (.tc .Lt (.bi .len (.cons (.ix (.v 3) (.i 1)) .nil)) (.i 1)))) (f_L_tells_0 σ) .nil) (f_L_tells_7 σ)
def f_L_tells_9 (σ : Nat → Nat) : LC.T :=
  .cons (.set 3 (.tup (.cons (.at "early" (.v 0)) (.cons (.at "again" (.v 0)) (.cons (.at "rise" (.v 0)) .nil))))) (f_L_tells_8 σ)
def f_L_tells (σ : Nat → Nat) : LC.T := f_L_tells_9 σ
def d_L_tells (σ : Nat → Nat) : LC.DefI := ⟨3, 6, f_L_tells σ⟩
/-- _law_right -/
def f_L_right_k16_0 (σ : Nat → Nat) : LC.T :=
  .cons (.ret (.b false)) .nil
def f_L_right_k16_1 (σ : Nat → Nat) : LC.T :=
  .cons (.ret (.b false)) .nil
def f_L_right_k16_2 (σ : Nat → Nat) : LC.T :=
  .cons (.ifs (.to (.tn (.tv (.bo (.cons (.v 5) .nil)))) (.tn (.tv (.bi .isinst (.cons (.v 6) (.cons (.g "Row") .nil)))))) (f_L_right_k16_1 σ) .nil) .nil
def f_L_right_k16_3 (σ : Nat → Nat) : LC.T :=
  .cons (.ifs (.to (.tn (.tv (.call (σ 321) (.cons (.v 5) (.cons (.v 2) (.cons (.v 4) .nil)))))) (.tn (.tv (.call (σ 321) (.cons (.v 6) (.cons (.v 2) (.cons (.rv false (.v 4)) .nil))))))) (f_L_right_k16_0 σ) .nil) (f_L_right_k16_2 σ)
def f_L_right_k16_4 (σ : Nat → Nat) : LC.T :=
  .cons (.par [5, 6] (.cons (.mk "Row" (.cons (.ix (.v 2) (.i 0)) (.cons (.ix (.v 2) (.i 1)) (.cons (.ix (.v 2) (.i 2)) .nil)))) (.cons (.mkk "Row" .nil ["rise", "early", "again"] (.cons (.ix (.v 3) (.i 2)) (.cons (.ix (.v 3) (.i 0)) (.cons (.ix (.v 3) (.i 1)) .nil))) [0, 2, 3, 1]) .nil))) (f_L_right_k16_3 σ)
def f_L_right_k16_5 (σ : Nat → Nat) : LC.T :=
  .cons (.set 4 (.bin false .Add (.rl false (.i 24)) (.ls false (.cons (.bin false .Add (.bin false .Pow (.i 10) (.i 20)) (.call (σ 22) (.cons (.v 0) (.cons (.i 999) .nil)))) (.cons (.bin false .Add (.bin false .Pow (.i 10) (.i 6)) (.call (σ 22) (.cons (.v 0) (.cons (.i 999) .nil)))) .nil))))) (f_L_right_k16_4 σ)
def f_L_right_k16_6 (σ : Nat → Nat) : LC.T :=
  .cons (.set 3 (.call (σ 81) (.cons (.v 0) (.cons (.v 2) .nil)))) (f_L_right_k16_5 σ)
def f_L_right_k16_7 (σ : Nat → Nat) : LC.T :=
  .cons (.set 2 (.call (σ 79) (.cons (.v 0) .nil))) (f_L_right_k16_6 σ)
def f_L_right_k16_8 (σ : Nat → Nat) : LC.T :=
  .cons (.ret (.b true)) .nil
def f_L_right_k16_9 (σ : Nat → Nat) : LC.T :=
  .cons (.fr (.gv 1) (.itr (.cons (.i 8) .nil)) (f_L_right_k16_7 σ)) (f_L_right_k16_8 σ)
def f_L_right_k16 (σ : Nat → Nat) : LC.T := f_L_right_k16_9 σ
def d_L_right_k16 (σ : Nat → Nat) : LC.DefI := ⟨1, 7, f_L_right_k16 σ⟩
/-- law -/
def f_L_law_k16_0 (σ : Nat → Nat) : LC.T :=
  .cons (.ret (.bi .all (.cons (.lc false [1] (.call (σ 31) (.cons (.call (σ 1) (.cons (.call (σ 0) (.cons (.v 0) (.cons (.v 1) .nil))) .nil)) .nil)) (.gv 1) (.itr (.cons (.bi .max (.cons (.i 2) (.cons (.bi .min (.cons (.bi .len (.cons (.v 0) .nil)) (.cons (.i 6) .nil))) .nil))) .nil)) .nil) .nil))) .nil
def f_L_law_k16 (σ : Nat → Nat) : LC.T := f_L_law_k16_0 σ
def d_L_law_k16 (σ : Nat → Nat) : LC.DefI := ⟨1, 2, f_L_law_k16 σ⟩
/-- _law_is_least -/
def f_L_is_least_0 (σ : Nat → Nat) : LC.T :=
  .cons (.ret (.b false)) .nil
def f_L_is_least_1 (σ : Nat → Nat) : LC.T :=
  .cons (.ifs (.tc .Eq (.v 4) (.bin false .Mult (.ls false (.cons (.ix (.v 4) (.i 0)) .nil)) (.v 2))) (f_L_is_least_0 σ) .nil) .nil
def f_L_is_least_2 (σ : Nat → Nat) : LC.T :=
  .cons (.setc 4 (.lc false [5] (.bin false .Sub (.call (σ 80) (.cons (.v 0) (.cons (.bin false .Add (.bin false .Add (.v 1) (.v 5)) (.v 3)) .nil))) (.call (σ 80) (.cons (.v 0) (.cons (.bin false .Add (.v 1) (.v 5)) .nil)))) (.gv 5) (.itr (.cons (.v 2) .nil)) .nil)) (f_L_is_least_1 σ)
def f_L_is_least_3 (σ : Nat → Nat) : LC.T :=
  .cons (.ret (.b true)) .nil
def f_L_is_least_4 (σ : Nat → Nat) : LC.T :=
  .cons (.ret (.cmp .NotEq (.bin false .Sub (.call (σ 80) (.cons (.v 0) (.cons (.bin false .Add (.bin false .Sub (.v 1) (.i 1)) (.v 2)) .nil))) (.call (σ 80) (.cons (.v 0) (.cons (.bin false .Sub (.v 1) (.i 1)) .nil)))) (.ix (.v 0) (.i 2)))) .nil
def f_L_is_least_5 (σ : Nat → Nat) : LC.T :=
  .cons (.ifs (.tc .Eq (.v 1) (.i 0)) (f_L_is_least_3 σ) .nil) (f_L_is_least_4 σ)
def f_L_is_least_6 (σ : Nat → Nat) : LC.T :=
  .cons (.fr (.gv 3) (.itr (.cons (.i 1) (.cons (.v 2) .nil))) (f_L_is_least_2 σ)) (f_L_is_least_5 σ)
def f_L_is_least_7 (σ : Nat → Nat) : LC.T :=
  .cons (.asg (.gt (.cons (.gv 1) (.cons (.gv 2) .nil))) (.tup (.cons (.bi .len (.cons (.ix (.v 0) (.i 0)) .nil)) (.cons (.bi .len (.cons (.ix (.v 0) (.i 1)) .nil)) .nil)))) (f_L_is_least_6 σ)
def f_L_is_least (σ : Nat → Nat) : LC.T := f_L_is_least_7 σ
def d_L_is_least (σ : Nat → Nat) : LC.DefI := ⟨1, 6, f_L_is_least σ⟩
/-- _law_shown -/
def f_L_shown_0 (σ : Nat → Nat) : LC.T :=
  .cons (.ret .n) .nil
def f_L_shown_1 (σ : Nat → Nat) : LC.T :=
  .cons (.ret .n) .nil
def f_L_shown_2 (σ : Nat → Nat) : LC.T :=
  .cons (.ret .n) .nil
def f_L_shown_3 (σ : Nat → Nat) : LC.T :=
  .cons (.ret (.ife (.tc .Eq (.bi .repr (.cons (.tup (.cons (.at "early" (.v 3)) (.cons (.at "again" (.v 3)) (.cons (.at "rise" (.v 3)) .nil)))) .nil)) (.bi .repr (.cons (.v 2) .nil))) (.v 2) .n)) .nil
def f_L_shown_4 (σ : Nat → Nat) : LC.T :=
  .cons (.set 3 (.mk "Row" (.cons (.ix (.v 2) (.i 0)) (.cons (.ix (.v 2) (.i 1)) (.cons (.ix (.v 2) (.i 2)) .nil))))) (f_L_shown_3 σ)
def f_L_shown_5 (σ : Nat → Nat) : LC.T :=
  .cons (.ifs (.to (.tc .Gt (.bi .len (.cons (.ix (.v 2) (.i 0)) .nil)) (.bi .len (.cons (.ix (.v 0) (.i 0)) .nil))) (.to (.tn (.tv (.call (σ 82) (.cons (.v 0) (.cons (.v 2) .nil))))) (.tn (.tv (.call (σ 83) (.cons (.v 2) .nil)))))) (f_L_shown_2 σ) .nil) (f_L_shown_4 σ)
def f_L_shown_6 (σ : Nat → Nat) : LC.T :=
  .cons (.ifs (.tn (.tch .LtE .LtE (.i 1) (.bi .len (.cons (.ix (.v 2) (.i 1)) .nil)) (.bi .len (.cons (.ix (.v 0) (.i 1)) .nil)))) (f_L_shown_1 σ) .nil) (f_L_shown_5 σ)
def f_L_shown_7 (σ : Nat → Nat) : LC.T :=
  .cons (.ifs (.to (.tn (.tv (.bi .isinst (.cons (.ix (.v 2) (.i 0)) (.cons (.bt "tuple") .nil))))) (.tn (.tv (.bi .isinst (.cons (.ix (.v 2) (.i 1)) (.cons (.bt "tuple") .nil)))))) (f_L_shown_0 σ) .nil) (f_L_shown_6 σ)
def f_L_shown_8 (σ : Nat → Nat) : LC.T :=
  .cons (.set 2 (.tup (.cons (.at "early" (.v 1)) (.cons (.at "again" (.v 1)) (.cons (.at "rise" (.v 1)) .nil))))) (f_L_shown_7 σ)
def f_L_shown_9 (σ : Nat → Nat) : LC.T :=
  .cons (.set 1 (.mk "Row" (.cons (.ix (.v 0) (.i 0)) (.cons (.ix (.v 0) (.i 1)) (.cons (.ix (.v 0) (.i 2)) .nil))))) (f_L_shown_8 σ)
def f_L_shown (σ : Nat → Nat) : LC.T := f_L_shown_9 σ
def d_L_shown (σ : Nat → Nat) : LC.DefI := ⟨1, 4, f_L_shown σ⟩
/-- _law_right -/
def f_L_right_k17_0 (σ : Nat → Nat) : LC.T :=
  .cons (.ret (.b false)) .nil
def f_L_right_k17_1 (σ : Nat → Nat) : LC.T :=
  .cons (.ret (.b false)) .nil
def f_L_right_k17_2 (σ : Nat → Nat) : LC.T :=
  .cons (.ifs (.tc .Is (.call (σ 85) (.cons (.call (σ 84) (.cons (.v 0) (.cons (.v 3) .nil))) .nil)) .n) (f_L_right_k17_1 σ) .nil) .nil
def f_L_right_k17_3 (σ : Nat → Nat) : LC.T :=
  .cons (.ifs (.to (.tc .Is (.v 4) .n) (.tc .NotEq (.bi .repr (.cons (.call (σ 85) (.cons (.v 3) .nil)) .nil)) (.bi .repr (.cons (.v 4) .nil)))) (f_L_right_k17_0 σ) .nil) (f_L_right_k17_2 σ)
def f_L_right_k17_4 (σ : Nat → Nat) : LC.T :=
  .cons (.set 4 (.call (σ 85) (.cons (.v 2) .nil))) (f_L_right_k17_3 σ)
def f_L_right_k17_5 (σ : Nat → Nat) : LC.T :=
  .cons (.set 3 (.call (σ 81) (.cons (.v 0) (.cons (.v 2) .nil)))) (f_L_right_k17_4 σ)
def f_L_right_k17_6 (σ : Nat → Nat) : LC.T :=
  .cons (.set 2 (.call (σ 79) (.cons (.v 0) .nil))) (f_L_right_k17_5 σ)
def f_L_right_k17_7 (σ : Nat → Nat) : LC.T :=
  .cons (.ret (.b true)) .nil
def f_L_right_k17_8 (σ : Nat → Nat) : LC.T :=
  .cons (.fr (.gv 1) (.itr (.cons (.i 5) .nil)) (f_L_right_k17_6 σ)) (f_L_right_k17_7 σ)
def f_L_right_k17 (σ : Nat → Nat) : LC.T := f_L_right_k17_8 σ
def d_L_right_k17 (σ : Nat → Nat) : LC.DefI := ⟨1, 5, f_L_right_k17 σ⟩
/-- law -/
def f_L_law_k17_0 (σ : Nat → Nat) : LC.T :=
  .cons (.ret (.b false)) .nil
def f_L_law_k17_1 (σ : Nat → Nat) : LC.T :=
  .cons (.ret (.bi .all (.cons (.lc false [4] (.call (σ 31) (.cons (.call (σ 1) (.cons (.call (σ 0) (.cons (.v 0) (.cons (.v 4) .nil))) .nil)) .nil)) (.gv 4) (.itr (.cons (.bi .max (.cons (.i 2) (.cons (.bi .min (.cons (.bi .len (.cons (.v 0) .nil)) (.cons (.i 6) .nil))) .nil))) .nil)) .nil) .nil))) .nil
def f_L_law_k17_2 (σ : Nat → Nat) : LC.T :=
  .cons (.ifs (.tc .NotEq (.bi .repr (.cons (.v 2) .nil)) (.s "[((), (0, 0), 1), ((), (5,), -2), ((), (7,), 0), ((), (1, 1, 1), 1)]")) (f_L_law_k17_0 σ) .nil) (f_L_law_k17_1 σ)
def f_L_law_k17_3 (σ : Nat → Nat) : LC.T :=
  .cons (.setc 2 (.lc false [3] (.tup (.cons (.at "early" (.v 3)) (.cons (.at "again" (.v 3)) (.cons (.at "rise" (.v 3)) .nil)))) (.gv 3) (.itv (.v 1)) .nil)) (f_L_law_k17_2 σ)
def f_L_law_k17_4 (σ : Nat → Nat) : LC.T :=
  .cons (.set 1 (.ls false (.cons (.mk "Row" (.cons (.tup (.cons (.i 0) (.cons (.i 0) (.cons (.i 1) .nil)))) (.cons (.tup (.cons (.i 1) (.cons (.i 2) (.cons (.i 2) (.cons (.i 3) .nil))))) (.cons (.i 2) .nil)))) (.cons (.mk "Row" (.cons (.tup (.cons (.i 5) (.cons (.i 3) .nil))) (.cons (.tup (.cons (.i 1) (.cons (.neg (.i 1)) .nil))) (.cons (.neg (.i 4)) .nil)))) (.cons (.mk "Row" (.cons (.tup .nil) (.cons (.tup (.cons (.i 7) (.cons (.i 7) .nil))) (.cons (.i 0) .nil)))) (.cons (.mk "Row" (.cons (.tup (.cons (.i 1) .nil)) (.cons (.tup (.cons (.i 1) (.cons (.i 1) (.cons (.i 2) .nil)))) (.cons (.i 1) .nil)))) .nil)))))) (f_L_law_k17_3 σ)
def f_L_law_k17 (σ : Nat → Nat) : LC.T := f_L_law_k17_4 σ
def d_L_law_k17 (σ : Nat → Nat) : LC.DefI := ⟨1, 5, f_L_law_k17 σ⟩
/-- Row.greatest -/
def f_Row_greatest_0 (σ : Nat → Nat) : LC.T :=
  .cons (.ret (.ife (.tc .Gt (.at "step" (.v 0)) (.i 0)) .n (.bi .max (.cons (.ls false (.star (.at "head" (.v 0)) (.star (.at "cycle" (.v 0)) .nil))) .nil)))) .nil
def f_Row_greatest (σ : Nat → Nat) : LC.T := f_Row_greatest_0 σ
def d_Row_greatest (σ : Nat → Nat) : LC.DefI := ⟨1, 1, f_Row_greatest σ⟩
end Tx

/-! # DrV: draws of the laws -/
namespace Tx
open PySem LC
variable {G : Prog} {σ : Nat → Nat} {n : Nat}
section
variable [HasD G (σ 0) (d_L_cell σ)]
theorem L_cell_ok (ns : List Int) (k : Int) (hk : 0 ≤ k) (hk2 : k < 1000) (m : Sto) : Po (callD G (n + 1) (σ 0) [.scr ns, .int k] m) fun v m' => ∃ z, v = .int z ∧ m' = m := by
  refine po_callD rfl ?_; simp only [d_L_cell, f_L_cell]; simp only [List.map_cons, List.map_nil, List.length_cons, List.length_nil, List.cons_append, List.nil_append, List.replicate]
  refine po_seq ?_; simp [den]
  split
  · rename_i hlt
    refine po_seq ?_; simp [den]
    have : (atI ns k).map D.int = some (.int (ns.getD k.toNat 0)) := by
      have := atI_d (xs := ns) hk hlt
      unfold atI at this ⊢
      rw [dints_len] at this
      rw [ixN_of hk hlt] at this ⊢
      have this : (ns.map D.int)[k.toNat]? = _ := this
      rw [List.getElem?_map] at this
      exact this
    rw [this]
    simp
  · refine po_seq ?_; simp [den, mulOk_l (i := 7907) (by omega) (by omega), mulOk_r (i := 7907 * k) (j := k) (by omega) (by omega)]
    refine po_seq ?_; simp [den]
    have e4 : cut (List.map D.int ns) none (some 4) = dints (ns.take 4) := by
      have := cut_take (xs := ns.map D.int) (s := 4)
      rw [show ((4 : Nat) : Int) = 4 by rfl] at this
      rw [this]; simp [dints, List.map_take]
    rw [e4]
    refine forL_po (fun i env m' => m' = m ∧ ∃ z o, env = [some (.scr ns), some (.int k), some (.int z), o]) rfl ⟨rfl, _, _, rfl⟩ ?_ ?_
    · rintro i env m' d hi hd ⟨rfl, z, o, rfl⟩
      obtain ⟨x, hx, rfl⟩ := List.mem_map.mp (List.mem_of_getElem? hd)
      simp [den]
      refine po_seq ?_; simp [den, mulOk_r (i := z) (j := 69997) (by omega) (by omega)]
    · rintro env m' ⟨rfl, z, o, rfl⟩
      simp
      refine po_seq ?_; simp [den]
end
theorem drawn_put {p : Nat} {m : Sto} {o : Ob} (hp : m[p]? = some o) {s b t : Int} (h1 : 0 ≤ s) (h2 : s < 2147483629) (h3 : 0 ≤ b) : Drawn p m (m.set p (.lst [D.int s, D.int b, D.int t])) :=
  ⟨⟨s, b, t, at_set hp, h1, h2, h3⟩, by simp, fun j _ hj => by rw [List.getElem?_set_ne (Ne.symm hj)]⟩
section
variable [HasD G (σ 22) (d_L_take σ)]
theorem L_take_ok (p : Nat) (k : Int) (hk : 0 < k) (hk2 : k < 2 ^ 60) (m : Sto) (hp : Purse p m) : Po (callD G (n + 1) (σ 22) [.ref p, .int k] m) fun v m' => ∃ r, v = .int r ∧ 0 ≤ r ∧ r < k ∧ Drawn p m m' := by
  refine po_callD rfl ?_; simp only [d_L_take, f_L_take]; simp only [List.map_cons, List.map_nil, List.length_cons, List.length_nil, List.cons_append, List.nil_append, List.replicate]
  obtain ⟨s, b, t, hp, h1, h2, h3⟩ := hp
  refine po_seq ?_; simp [den, ix_ref hp, atI, ixN, set_ref hp]
  have hp1 := at_set (o' := .lst [D.int s, D.int b, D.int (t + 1)]) hp
  refine po_seq ?_; simp [den, ix_ref hp1, atI, ixN]
  split
  · rename_i hb
    refine po_seq ?_; simp [den, ix_ref hp1, atI, ixN, set_ref hp1, divOk_of hk (by omega)]
    refine po_seq ?_; simp [den]
    exact ⟨Int.emod_nonneg _ (by omega), Int.emod_lt_of_pos _ hk, drawn_put hp h1 h2 (Int.ediv_nonneg h3 (by omega))⟩
  · rename_i hb
    refine po_seq ?_; simp [den, ix_ref hp1, atI, ixN]
    refine po_seq ?_; simp [den]
    refine po_seq ?_; simp [den, ix_ref hp1, atI, ixN, set_ref hp1]
    refine ⟨mulOk_r (by omega) (by omega), mulOk_l (by omega) (by omega), ?_⟩
    have hp2 := at_set (o' := .lst [D.int ((s * (s % 30323 + 40253) + 60013 * (t + 1) + 29) % 2147483629), D.int b, D.int (t + 1)]) hp
    refine po_seq ?_; simp [den, ix_ref hp2, atI, ixN, divOk_of hk (by omega)]
    refine ⟨divOk_of (by omega) (by omega), hk, Int.emod_nonneg _ (by omega), Int.emod_lt_of_pos _ hk, drawn_put hp (Int.emod_nonneg _ (by omega)) (Int.emod_lt_of_pos _ (by omega)) h3⟩
end
section
variable [HasD G (σ 1) (d_L_purse σ)]
theorem L_purse_ok (x : Int) (m : Sto) : Po (callD G (n + 1) (σ 1) [.int x] m) fun v m' => v = .ref m.length ∧ Purse m.length m' ∧ ∃ o, m' = m ++ [o] := by
  refine po_callD rfl ?_; simp only [d_L_purse, f_L_purse]; simp only [List.map_cons, List.map_nil, List.length_cons, List.length_nil, List.cons_append, List.nil_append, List.replicate]
  refine po_seq ?_; simp [den]
  refine ⟨mulOk_r (by omega) (by omega), ?_⟩
  refine po_seq ?_; simp [den]
  have hq : Purse m.length (m ++ [Ob.lst [D.int ((x % 2147483629 * 1583458089 + 362436069) % 2147483629), D.int 0, D.int 0]]) :=
    ⟨_, _, _, List.getElem?_concat_length, Int.emod_nonneg _ (by omega), Int.emod_lt_of_pos _ (by omega), by omega⟩
  have hq2 : ∀ b, 0 ≤ b → Purse m.length (m ++ [Ob.lst [D.int ((x % 2147483629 * 1583458089 + 362436069) % 2147483629), D.int b, D.int 0]]) :=
    fun b hb => ⟨_, b, _, List.getElem?_concat_length, Int.emod_nonneg _ (by omega), Int.emod_lt_of_pos _ (by omega), hb⟩
  split <;> split
  · exact hq2 _ (by omega)
  · exact hq
  · exact hq2 _ (by omega)
  · exact hq

end
-- from K19l
theorem small62I {i : Int} (h0 : -(2 ^ 62) ≤ i) (h1 : i < 2 ^ 62) : small62 i = true := by
  unfold small62
  simp
  omega
theorem rangeL_len {a b : Int} : (rangeL a b).length = (b - a).toNat := by simp [rangeL]
theorem drawsL {p : Nat} {m : Sto} {turn : D → M (Option D)} {ds : List D} {lo hi : Int} (hp : Purse p m) (hz : ds.length ≤ LIM)
    (h : ∀ d m1, Purse p m1 → Po (turn d m1) fun o m' => ∃ x, o = some (.int x) ∧ lo ≤ x ∧ x ≤ hi ∧ Drawn p m1 m') :
    Po (lcL turn ds [] m) fun v m' => ∃ xs : List Int, v = dints xs ∧ xs.length = ds.length ∧ (∀ x ∈ xs, lo ≤ x ∧ x ≤ hi) ∧ Drawn p m m' := by
  refine lcL_po (fun i acc m' => ∃ xs : List Int, acc = dints xs ∧ xs.length = i ∧ (∀ x ∈ xs, lo ≤ x ∧ x ≤ hi) ∧ Drawn p m m') rfl hz ⟨[], rfl, rfl, by simp, Drawn.refl hp⟩ ?_ ?_
  · rintro i acc m' d hi2 hd hl ⟨xs, rfl, hx, hb, hw⟩
    refine (h d m' hw.pu).mono ?_
    rintro _ m2 ⟨x, rfl, b1, b2, hw2⟩
    refine ⟨xs ++ [x], by simp [dints], by simp [hx], ?_, hw.trans hw2⟩
    intro y hy
    rcases List.mem_append.mp hy with hy | hy
    · exact hb y hy
    · rw [List.mem_singleton.mp hy]; exact ⟨b1, b2⟩
  · rintro acc m' ⟨xs, rfl, hx, hb, hw⟩
    exact ⟨xs, rfl, hx, hb, hw⟩
/-- the store behind: nothing lost, nothing changed -/
structure Kept (m m' : Sto) : Prop where
  len : m.length ≤ m'.length
  at_ : ∀ j, j < m.length → m'[j]? = m[j]?
theorem Kept.refl {m : Sto} : Kept m m := ⟨Nat.le_refl _, fun _ _ => rfl⟩
theorem Kept.trans {m m' m2 : Sto} (a : Kept m m') (b : Kept m' m2) : Kept m m2 := ⟨Nat.le_trans a.len b.len, fun j h => (b.at_ j (Nat.lt_of_lt_of_le h a.len)).trans (a.at_ j h)⟩
theorem Kept.new {m : Sto} {o : List Ob} : Kept m (m ++ o) := ⟨by simp, fun j h => List.getElem?_append_left h⟩
theorem Kept.purse {p : Nat} {m m' : Sto} (k : Kept m m') (h : Purse p m) : Purse p m' := by
  have hl := h.lt
  obtain ⟨s, b, t, e, q⟩ := h
  exact ⟨s, b, t, (k.at_ p hl).trans e, q⟩
theorem allTrue {P : Phi} {m : Sto} {xs : List D} (h : ∀ x ∈ xs, x = .bl true) : callB P .all [.lst xs] m = .ok (.bl true) m := by
  obtain ⟨bs, e, q⟩ := asBools_t xs h
  show (match asBools xs with | some ns => Out.ok (D.bl (ns.all id)) m | _ => .bad) = _
  rw [e]; simp only [q]
/-- how far the laws go: as many numbers as there are, two at least, at most N -/
def farI (l N : Int) : Int := if (if N < l then N else l) > 2 then (if N < l then N else l) else 2
theorem farI_ge (l N : Int) : 2 ≤ farI l N := by unfold farI; split <;> omega
theorem farI_le (l N : Int) (h : 2 ≤ N) : farI l N ≤ N := by unfold farI; split <;> (try split) <;> omega
/-- a list of draws -/
theorem lcDraw {α : Type} {e : α → D} {P : α → Prop} {p : Nat} {m : Sto} {turn : D → M (Option D)} {ds : List D} (hp : Purse p m) (hz : ds.length ≤ LIM)
    (h : ∀ d ∈ ds, ∀ m1, Drawn p m m1 → Po (turn d m1) fun o m' => ∃ x, o = some (e x) ∧ P x ∧ Drawn p m1 m') :
    Po (lcL turn ds [] m) fun v m' => ∃ xs : List α, v = xs.map e ∧ xs.length = ds.length ∧ (∀ x ∈ xs, P x) ∧ Drawn p m m' := by
  refine lcL_po (fun i acc m' => ∃ xs : List α, acc = xs.map e ∧ xs.length = i ∧ (∀ x ∈ xs, P x) ∧ Drawn p m m') rfl hz ⟨[], rfl, rfl, by simp, Drawn.refl hp⟩ ?_ ?_
  · rintro i acc m' d hi2 hd hl ⟨xs, rfl, hx, hb, hw⟩
    refine (h d (List.mem_of_getElem? hd) m' hw).mono ?_
    rintro _ m2 ⟨x, rfl, b1, hw2⟩
    refine ⟨xs ++ [x], by simp, by simp [hx], ?_, hw.trans hw2⟩
    intro y hy
    rcases List.mem_append.mp hy with hy | hy
    · exact hb y hy
    · rw [List.mem_singleton.mp hy]; exact b1
  · rintro acc m' ⟨xs, rfl, hx, hb, hw⟩
    exact ⟨xs, rfl, hx, hb, hw⟩
/-- a for over a list at a place that stays as it is -/
theorem forV_po {body : D → LC.Env → M LC.Flow} {F : LC.Flow → Sto → Prop} (R : Nat → LC.Env → Sto → Prop) {q w : Nat} {xs : List D} {r : LC.Env} {m : Sto} (hw : xs.length < w) (hat : ∀ i r m, R i r m → m[q]? = some (.lst xs)) (h0 : R 0 r m)
    (hs : ∀ i r m d, i < xs.length → xs[i]? = some d → R i r m → Po (body d r m) fun fl m' => match fl with | .nx r' => R (i + 1) r' m' | .ct r' => R (i + 1) r' m' | .bk r' => F (.nx r') m' | .rt x => F (.rt x) m')
    (hd : ∀ r m, R xs.length r m → F (.nx r) m) : Po (forV body q w 0 r m) F := by
  have go : ∀ (w k : Nat) (r : LC.Env) (m : Sto), k ≤ xs.length → xs.length < w + k → R k r m → Po (forV body q w k r m) F := by
    intro w
    induction w with
    | zero => intro k r m h1 h2 _; omega
    | succ w ih =>
      intro k r m h1 h2 hr
      unfold forV
      simp only [hat k r m hr]
      cases e : xs[k]? with
      | none =>
        have : xs.length ≤ k := List.getElem?_eq_none_iff.mp e
        have : k = xs.length := by omega
        subst this
        simp only
        exact ⟨hd r m hr⟩
      | some d =>
        have hk : k < xs.length := (List.getElem?_eq_some_iff.mp e).1
        have h := (hs k r m d hk e hr).h
        simp only
        cases z : body d r m with
        | ok fl m' =>
          rw [z] at h
          cases fl with
          | nx r' => exact ih (k + 1) r' m' hk (by omega) h
          | ct r' => exact ih (k + 1) r' m' hk (by omega) h
          | bk r' => exact ⟨h⟩
          | rt x => exact ⟨h⟩
        | exc C fs m' => rw [z] at h; exact (show False from h).elim
        | bad => rw [z] at h; exact (show False from h).elim
  exact go w 0 r m (Nat.zero_le _) (by omega) h0
theorem Drawn.keep {p q : Nat} {m m' : Sto} {C : Str} {fs : List (Str × D)} (hd : Drawn p m m') (hp : Purse p m) (h : m[q]? = some (.ins C fs)) : m'[q]? = some (.ins C fs) := by
  have hl : q < m.length := (List.getElem?_eq_some_iff.mp h).1
  rw [hd.off q hl ?_]
  · exact h
  · intro e
    subst e
    obtain ⟨s, b, k, e, _⟩ := hp
    rw [h] at e; cases e
theorem Kept.at {m m' : Sto} (k : Kept m m') {q : Nat} {o : Ob} (h : m[q]? = some o) : m'[q]? = some o := by
  rw [k.at_ q (List.getElem?_eq_some_iff.mp h).1]; exact h
theorem Kept.drawn {p : Nat} {m m' : Sto} (k : Kept m m') (h : Purse p m) : Drawn p m m' := ⟨k.purse h, k.len, fun j hj _ => k.at_ j hj⟩
theorem eqB {a b : Bool} {m : Sto} : opCmp .Eq (.bl a) (.bl b) m = .ok (.bl (a == b)) m := by
  rw [eq_of (a := .bool a) (b := .bool b) rfl rfl (by decide +revert) (by decide +revert)]
  simp [PyData.eqv]
theorem neB {a b : Bool} {m : Sto} : opCmp .NotEq (.bl a) (.bl b) m = .ok (.bl (!(a == b))) m := by
  rw [ne_of (a := .bool a) (b := .bool b) rfl rfl (by decide +revert) (by decide +revert)]
  simp [PyData.eqv]
@[simp] theorem at8 {a b c d e f g h : D} {k : Nat} : True := trivial
end Tx

/-! # RowL: rows of integers, plain -/
namespace Rw
open LC
/-- what early integers, a period and its rise tell -/
def tell (a c : List Int) (r : Int) (n : Nat) : Int := if n < a.length then a.getD n 0 else c.getD ((n - a.length) % c.length) 0 + ((n - a.length) / c.length : Nat) * r
def gon (c : List Int) (r : Int) (s : Nat) : Bool := decide (r * s % c.length = 0) && (List.range c.length).all fun k => decide ((c ++ c.map (· + r)).getD (k + s) 0 = (c ++ c.map (· + r)).getD k 0 + r * s / c.length)
theorem getD_app_l {a b : List Int} {n : Nat} (h : n < a.length) : (a ++ b).getD n 0 = a.getD n 0 := by simp [List.getD, List.getElem?_append_left h]
theorem getD_app_r {a b : List Int} {n : Nat} (h : a.length ≤ n) : (a ++ b).getD n 0 = b.getD (n - a.length) 0 := by simp [List.getD, List.getElem?_append_right h]
theorem getD_take {a : List Int} {n k : Nat} (h : n < k) : (a.take k).getD n 0 = a.getD n 0 := by simp [List.getD, List.getElem?_take_of_lt h]
theorem getD_mem {a : List Int} {n : Nat} (h : n < a.length) : a.getD n 0 ∈ a := by simp [List.getD, List.getElem?_eq_getElem h]
theorem gon_self {c : List Int} {r : Int} (h : 0 < c.length) : gon c r c.length = true := by
  unfold gon
  rw [Bool.and_eq_true, decide_eq_true_eq, List.all_eq_true]
  have hc : (c.length : Int) ≠ 0 := by omega
  refine ⟨by rw [Int.mul_emod_left], fun k hk => decide_eq_true ?_⟩
  have hk := List.mem_range.mp hk
  rw [getD_app_r (by omega), getD_app_l hk, show k + c.length - c.length = k by omega, Int.mul_ediv_cancel _ hc]
  simp [List.getD, List.getElem?_eq_getElem hk]
theorem gon_tell {c : List Int} {r : Int} {s : Nat} (h : 0 < c.length) (hs : 0 < s) (hd : s ∣ c.length) (g : gon c r s = true) (n : Nat) : tell [] c r n = tell [] (c.take s) (r * s / c.length) n := by
  unfold gon at g
  rw [Bool.and_eq_true, decide_eq_true_eq, List.all_eq_true] at g
  obtain ⟨g1, g2⟩ := g
  obtain ⟨q, hq⟩ := hd
  have hsl : s ≤ c.length := Nat.le_of_dvd h ⟨q, hq⟩
  generalize hdd : r * s / c.length = d at g2 ⊢
  have e1 : r * s = d * c.length := by
    rw [← hdd]
    exact (Int.ediv_mul_cancel (Int.dvd_of_emod_eq_zero g1)).symm
  have e2 : r = d * q := by
    have hs' : (s : Int) ≠ 0 := by omega
    have : r * s = (d * q) * s := by rw [e1, hq]; push_cast; rw [Int.mul_comm (s : Int) q, Int.mul_assoc]
    exact Int.eq_of_mul_eq_mul_right hs' this
  have step : ∀ k, k + s < c.length → c.getD (k + s) 0 = c.getD k 0 + d := fun k hk => by
    have := of_decide_eq_true (g2 k (List.mem_range.mpr (by omega)))
    rwa [getD_app_l hk, getD_app_l (by omega)] at this
  have all : ∀ k, k < c.length → c.getD k 0 = c.getD (k % s) 0 + (k / s : Nat) * d := by
    intro k
    induction k using Nat.strongRecOn with
    | _ k ih =>
      intro hk
      by_cases hlt : k < s
      · rw [Nat.mod_eq_of_lt hlt, Nat.div_eq_of_lt hlt]; simp
      · have hk2 := ih (k - s) (by omega) (by omega)
        have hst := step (k - s) (by omega)
        rw [show k - s + s = k by omega] at hst
        have m0 : k % s = (k - s) % s := Nat.mod_eq_sub_mod (by omega)
        have d0 : k / s = (k - s) / s + 1 := Nat.div_eq_sub_div hs (by omega)
        rw [hst, hk2, m0, d0]
        push_cast
        rw [Int.add_mul]
        omega
  unfold tell
  simp only [List.length_nil, Nat.not_lt_zero, if_false, Nat.sub_zero]
  have ht : (c.take s).length = s := by rw [List.length_take]; omega
  rw [ht, getD_take (Nat.mod_lt _ hs), all _ (Nat.mod_lt _ h)]
  have m1 : n % c.length % s = n % s := by rw [hq]; exact Nat.mod_mul_right_mod n s q
  have m2 : n / s = n % c.length / s + q * (n / c.length) := by
    have := Nat.div_add_mod n c.length
    rw [hq] at this ⊢
    conv => lhs; rw [← this]
    rw [show s * q * (n / (s * q)) + n % (s * q) = n % (s * q) + s * (q * (n / (s * q))) by rw [Nat.mul_assoc]; omega, Nat.add_mul_div_left _ _ hs]
  rw [m1, m2, e2]
  push_cast
  rw [Int.add_mul, show (n / c.length : Int) * (d * q) = (q * (n / c.length) : Int) * d by rw [Int.mul_comm d q, ← Int.mul_assoc, Int.mul_comm (n / c.length : Int) q]]
  omega
theorem tell_pre (a c : List Int) (r : Int) (n : Nat) : tell a c r n = if n < a.length then a.getD n 0 else tell [] c r (n - a.length) := by
  unfold tell
  by_cases h : n < a.length
  · rw [if_pos h, if_pos h]
  · rw [if_neg h, if_neg h]; simp
/-- the last early integer goes into the period -/
theorem tell_roll {a c : List Int} {r : Int} {l : Nat} (hl : l < a.length) (hc : 0 < c.length) (e : a.getD l 0 = c.getD (c.length - 1) 0 - r) (n : Nat) : tell (a.take l) (a.getD l 0 :: c.dropLast) r n = tell (a.take (l + 1)) c r n := by
  have h1 : (a.take l).length = l := by rw [List.length_take]; omega
  have h2 : (a.take (l + 1)).length = l + 1 := by rw [List.length_take]; omega
  have h3 : (a.getD l 0 :: c.dropLast).length = c.length := by rw [List.length_cons, List.length_dropLast]; omega
  rw [tell_pre, tell_pre (a.take (l + 1)), h1, h2]
  by_cases hn : n < l
  · rw [if_pos hn, if_pos (by omega), getD_take hn, getD_take (by omega)]
  · rw [if_neg hn]
    by_cases hn2 : n < l + 1
    · have : n = l := by omega
      subst this
      rw [if_pos hn2, getD_take (by omega)]
      unfold tell
      simp
    · rw [if_neg hn2]
      unfold tell
      simp only [List.length_nil, Nat.not_lt_zero, if_false, Nat.sub_zero]
      rw [h3]
      obtain ⟨k, rfl⟩ : ∃ k, n = l + 1 + k := ⟨n - (l + 1), by omega⟩
      rw [show l + 1 + k - l = k + 1 by omega, show l + 1 + k - (l + 1) = k by omega]
      have hk := Nat.mod_lt k hc
      by_cases hz : k % c.length + 1 = c.length
      · have m1 : (k + 1) % c.length = 0 := by rw [Nat.add_mod]; by_cases h1 : c.length = 1 <;> simp_all [Nat.mod_eq_of_lt, show 1 < c.length ∨ c.length = 1 by omega] <;> (rw [Nat.mod_eq_of_lt (show 1 < c.length by omega), hz, Nat.mod_self])
        have m2 : (k + 1) / c.length = k / c.length + 1 := by
          rw [Nat.succ_div, if_pos (Nat.dvd_of_mod_eq_zero m1)]
        rw [m1, m2, show k % c.length = c.length - 1 by omega]
        push_cast
        rw [Int.add_mul]
        have : (a.getD l 0 :: c.dropLast).getD 0 0 = a.getD l 0 := rfl
        rw [this, e]
        omega
      · have m1 : (k + 1) % c.length = k % c.length + 1 := by
          have hlt : 1 < c.length := by omega
          rw [Nat.add_mod, Nat.mod_eq_of_lt hlt, Nat.mod_eq_of_lt (by omega)]
        have m2 : (k + 1) / c.length = k / c.length := by
          rw [Nat.succ_div, if_neg (by rw [Nat.dvd_iff_mod_eq_zero, m1]; omega)]
          rfl
        rw [m1, m2]
        have : (a.getD l 0 :: c.dropLast).getD (k % c.length + 1) 0 = c.getD (k % c.length) 0 := by
          have hd : k % c.length < c.dropLast.length := by rw [List.length_dropLast]; omega
          simp [List.getD, List.getElem?_dropLast, show k % c.length < c.length - 1 by omega, List.getElem?_eq_getElem hk]
        rw [this]
/-! ### the greatest integer -/
def Sup (T : Nat → Int) (M : Int) : Prop := (∀ n, T n ≤ M) ∧ ∃ n, T n = M
theorem Sup.uniq {T : Nat → Int} {M N : Int} (a : Sup T M) (b : Sup T N) : M = N := by
  obtain ⟨a1, k, a2⟩ := a
  obtain ⟨b1, j, b2⟩ := b
  have := a1 j
  have := b1 k
  omega
theorem sup_most {a c : List Int} {r : Int} (hc : 0 < c.length) (hr : r ≤ 0) : Sup (tell a c r) (most (a ++ c)) ∧ ∃ n, n < a.length + c.length ∧ tell a c r n = most (a ++ c) := by
  have ne : a ++ c ≠ [] := by intro h; rw [List.append_eq_nil_iff] at h; rw [h.2] at hc; simp at hc
  obtain ⟨h1, h2⟩ := most_spec ne
  have at_ : ∃ n, n < a.length + c.length ∧ tell a c r n = most (a ++ c) := by
    obtain ⟨n, hn, e⟩ := List.mem_iff_getElem.mp h1
    rw [List.length_append] at hn
    refine ⟨n, hn, ?_⟩
    rw [← e]
    unfold tell
    by_cases hl : n < a.length
    · rw [if_pos hl, List.getElem_append_left hl]; simp [List.getD, List.getElem?_eq_getElem hl]
    · rw [if_neg hl, Nat.mod_eq_of_lt (by omega), Nat.div_eq_of_lt (by omega), List.getElem_append_right (by omega)]
      have : n - a.length < c.length := by omega
      simp [List.getD, List.getElem?_eq_getElem this]
  refine ⟨⟨fun n => ?_, let ⟨n, _, e⟩ := at_; ⟨n, e⟩⟩, at_⟩
  unfold tell
  by_cases hl : n < a.length
  · rw [if_pos hl]
    exact h2 _ (List.mem_append_left _ (getD_mem hl))
  · rw [if_neg hl]
    have := h2 _ (List.mem_append_right a (getD_mem (Nat.mod_lt (n - a.length) hc)))
    have q : (((n - a.length) / c.length : Nat) : Int) * r ≤ 0 := Int.mul_nonpos_of_nonneg_of_nonpos (Int.natCast_nonneg _) hr
    generalize (((n - a.length) / c.length : Nat) : Int) * r = z at q ⊢
    omega
/-- the greatest of a beginning that is long enough -/
theorem sup_range {T : Nat → Int} {M : Int} {k l : Nat} (s : Sup T M) (h : ∃ n, n < k ∧ T n = M) (hl : k ≤ l) : most ((List.range l).map T) = M := by
  obtain ⟨n, hn, e⟩ := h
  have ne : (List.range l).map T ≠ [] := by intro h; have := congrArg List.length h; simp at this; omega
  obtain ⟨h1, h2⟩ := most_spec ne
  have a1 := h2 (T n) (List.mem_map.mpr ⟨n, List.mem_range.mpr (by omega), rfl⟩)
  obtain ⟨j, _, e2⟩ := List.mem_map.mp h1
  have := s.1 j
  omega
end Rw

/-! # RowM: rows written longer -/
namespace Rw
open LC
theorem tell_per {a c : List Int} {r : Int} (hc : 0 < c.length) {n : Nat} (hn : a.length ≤ n) (j : Nat) : tell a c r (n + c.length * j) = tell a c r n + j * r := by
  unfold tell
  rw [if_neg (by omega), if_neg (by omega), show n + c.length * j - a.length = n - a.length + c.length * j by omega, Nat.add_mul_mod_self_left, Nat.add_mul_div_left _ _ hc]
  push_cast
  rw [Int.add_mul]
  omega
theorem getD_map_range {f : Nat → Int} {t n : Nat} (h : n < t) : ((List.range t).map f).getD n 0 = f n := by simp [List.getD, h]
theorem per_many {f : Nat → Int} {t q : Nat} {R : Int} (h : ∀ n, t ≤ n → f (n + q) = f n + R) : ∀ (j n : Nat), t ≤ n → f (n + q * j) = f n + j * R
  | 0, n, _ => by simp
  | j + 1, n, hn => by
    rw [show n + q * (j + 1) = n + q * j + q by rw [Nat.mul_succ]; omega, h _ (by omega), per_many h j n hn]
    push_cast
    rw [Int.add_mul]
    omega
theorem tell_long {f : Nat → Int} {t q : Nat} {R : Int} (hq : 0 < q) (h : ∀ n, t ≤ n → f (n + q) = f n + R) (n : Nat) : tell ((List.range t).map f) ((List.range q).map fun k => f (t + k)) R n = f n := by
  unfold tell
  rw [List.length_map, List.length_range, List.length_map, List.length_range]
  by_cases hl : n < t
  · rw [if_pos hl, getD_map_range hl]
  · rw [if_neg hl, getD_map_range (Nat.mod_lt _ hq)]
    have := per_many h ((n - t) / q) (t + (n - t) % q) (by omega)
    have e := Nat.div_add_mod (n - t) q
    rw [show t + (n - t) % q + q * ((n - t) / q) = n by omega] at this
    rw [this]
theorem tell_mem {a c : List Int} {r : Int} {n : Nat} (hc : 0 < c.length) (hn : n < a.length + c.length) : tell a c r n ∈ a ++ c := by
  unfold tell
  by_cases hl : n < a.length
  · rw [if_pos hl]; exact List.mem_append_left _ (getD_mem hl)
  · rw [if_neg hl, Nat.div_eq_of_lt (by omega)]
    simp
    exact .inr (by simpa using getD_mem (Nat.mod_lt (n - a.length) hc))
/-- the form written longer tells the same -/
theorem tell_unrolled {a c : List Int} {r : Int} (hc : 0 < c.length) {x y : Nat} (n : Nat) :
    tell ((List.range (a.length + x)).map (tell a c r)) ((List.range (c.length * (1 + y))).map fun k => tell a c r (a.length + x + k)) (tell a c r (a.length + x + c.length * (1 + y)) - tell a c r (a.length + x)) n = tell a c r n := by
  have hq : 0 < c.length * (1 + y) := Nat.mul_pos hc (by omega)
  refine tell_long hq (fun n hn => ?_) n
  rw [tell_per hc (by omega), tell_per hc (by omega)]
  omega
theorem rise_unrolled {a c : List Int} {r : Int} (hc : 0 < c.length) {x y : Nat} : tell a c r (a.length + x + c.length * (1 + y)) - tell a c r (a.length + x) = (1 + y : Nat) * r := by
  rw [tell_per hc (by omega)]
  omega
/-- the signs of two rises of one row -/
theorem sign_step {p q : Nat} {s r : Int} (hp : 0 < p) (hq : 0 < q) (h : s * p = r * q) : (0 < s ↔ 0 < r) := by
  constructor
  · intro z
    have : 0 < r * q := by rw [← h]; exact Int.mul_pos z (by omega)
    rcases Int.lt_or_le 0 r with g | g
    · exact g
    · have := Int.mul_nonpos_of_nonpos_of_nonneg g (show (0 : Int) ≤ q by omega)
      omega
  · intro z
    have : 0 < s * p := by rw [h]; exact Int.mul_pos z (by omega)
    rcases Int.lt_or_le 0 s with g | g
    · exact g
    · have := Int.mul_nonpos_of_nonpos_of_nonneg g (show (0 : Int) ≤ p by omega)
      omega
theorem abs_step {p q : Nat} {s r : Int} (hp : 0 < p) (hl : q ≤ p) (h : s * p = r * q) : s.natAbs ≤ r.natAbs := by
  have e : s.natAbs * p = r.natAbs * q := by
    have := congrArg Int.natAbs h
    rwa [Int.natAbs_mul, Int.natAbs_mul, Int.natAbs_natCast, Int.natAbs_natCast] at this
  have : s.natAbs * p ≤ r.natAbs * p := by rw [e]; exact Nat.mul_le_mul_left _ hl
  exact Nat.le_of_mul_le_mul_right this hp
end Rw

/-! # RowN: least forms -/
namespace Rw
open LC
def Ev (T : Nat → Int) (q : Nat) (g : Int) : Prop := ∃ e, ∀ n, e ≤ n → T (n + q) = T n + g
theorem Ev.sub {T : Nat → Int} {p q : Nat} {r g : Int} (a : Ev T p r) (b : Ev T q g) (h : q ≤ p) : Ev T (p - q) (r - g) := by
  obtain ⟨e1, a⟩ := a
  obtain ⟨e2, b⟩ := b
  refine ⟨e1 + e2 + q, fun n hn => ?_⟩
  have h1 := a (n - q) (by omega)
  have h2 := b (n - q) (by omega)
  rw [show n - q + p = n + (p - q) by omega] at h1
  rw [show n - q + q = n by omega] at h2
  omega
theorem Ev.gcd {T : Nat → Int} : ∀ (k p q : Nat) (r g : Int), p + q ≤ k → 0 < p → 0 < q → Ev T p r → Ev T q g → ∃ d, Ev T (Nat.gcd p q) d
  | 0, p, q, r, g, hk, hp, _, _, _ => by omega
  | k + 1, p, q, r, g, hk, hp, hq, a, b => by
    rcases Nat.lt_trichotomy p q with h | h | h
    · obtain ⟨d, hd⟩ := Ev.gcd k p (q - p) r (g - r) (by omega) hp (by omega) a (b.sub a (by omega))
      refine ⟨d, ?_⟩
      rwa [Nat.gcd_comm, Nat.gcd_sub_self_left (by omega), Nat.gcd_comm] at hd
    · subst h; exact ⟨r, by rwa [Nat.gcd_self]⟩
    · obtain ⟨d, hd⟩ := Ev.gcd k (p - q) q (r - g) g (by omega) (by omega) hq (a.sub b (by omega)) b
      refine ⟨d, ?_⟩
      rwa [Nat.gcd_sub_self_left (by omega)] at hd
theorem Ev.shift {T U : Nat → Int} {q t : Nat} {g : Int} (a : Ev T q g) (h : ∀ n, T (n + t) = U n) : Ev U q g := by
  obtain ⟨e, a⟩ := a
  refine ⟨e, fun n hn => ?_⟩
  have := a (n + t) (by omega)
  rw [← h, ← h, ← this]
  congr 1
  omega
theorem ev_tell {a c : List Int} {r : Int} (hc : 0 < c.length) : Ev (tell a c r) c.length r := ⟨a.length, fun n hn => by
  have := tell_per (r := r) hc hn 1
  rw [Nat.mul_one] at this
  rw [this]; omega⟩
theorem tell_two {c : List Int} {r : Int} {k : Nat} (hk : k < 2 * c.length) : (c ++ c.map (· + r)).getD k 0 = tell [] c r k := by
  unfold tell
  simp only [List.length_nil, Nat.not_lt_zero, if_false, Nat.sub_zero]
  by_cases h : k < c.length
  · rw [getD_app_l h, Nat.mod_eq_of_lt h, Nat.div_eq_of_lt h]; simp
  · rw [getD_app_r (by omega), Nat.mod_eq_sub_mod (by omega), Nat.mod_eq_of_lt (show k - c.length < c.length by omega), Nat.div_eq_sub_div (by omega) (by omega), Nat.div_eq_of_lt (show k - c.length < c.length by omega)]
    have : k - c.length < c.length := by omega
    simp [List.getD, List.getElem?_map, List.getElem?_eq_getElem this]
theorem gon_of_ev {c : List Int} {r : Int} {q : Nat} {g : Int} (hc : 0 < c.length) (hq : 0 < q) (hd : q ∣ c.length) (a : Ev (tell [] c r) q g) : gon c r q = true := by
  obtain ⟨e, a⟩ := a
  have hl : q ≤ c.length := Nat.le_of_dvd hc hd
  have all : ∀ n, tell [] c r (n + q) = tell [] c r n + g := fun n => by
    have h := a (n + c.length * e) (Nat.le_trans (Nat.le_mul_of_pos_left e hc) (Nat.le_add_left _ _))
    rw [show n + c.length * e + q = n + q + c.length * e by omega, tell_per hc (by simp), tell_per hc (by simp)] at h
    omega
  obtain ⟨w, hw⟩ := hd
  have hr : r = w * g := by
    have h1 := per_many (f := tell [] c r) (t := 0) (q := q) (R := g) (fun n _ => all n) w 0 (Nat.le_refl _)
    have h2 := tell_per (a := []) (r := r) hc (n := 0) (by simp) 1
    rw [Nat.mul_one, hw] at h2
    rw [h1] at h2
    omega
  have hrq : r * q = g * c.length := by rw [hr, hw]; push_cast; rw [Int.mul_comm (w : Int) g, Int.mul_assoc, Int.mul_comm (w : Int) q]
  have hcl : (c.length : Int) ≠ 0 := by omega
  unfold gon
  rw [Bool.and_eq_true, decide_eq_true_eq, List.all_eq_true]
  refine ⟨by rw [hrq, Int.mul_emod_left], fun k hk => decide_eq_true ?_⟩
  have hk := List.mem_range.mp hk
  rw [tell_two (by omega), tell_two (by omega), all, hrq, Int.mul_ediv_cancel _ hcl]
/-- the least form of what T tells -/
structure Least (T : Nat → Int) (h k : List Int) (s : Int) : Prop where
  ne : 0 < k.length
  tell : ∀ n, tell h k s n = T n
  per : ∀ q g, 0 < q → q < k.length → ¬ Ev T q g
  pre : h.length = 0 ∨ T (h.length - 1 + k.length) ≠ T (h.length - 1) + s
theorem least_of {a c h k : List Int} {r s : Int} (hc : 0 < c.length) (ne : 0 < k.length) (ht : ∀ n, Rw.tell h k s n = Rw.tell a c r n)
    (mp : ∀ q, 0 < q → q < k.length → q ∣ c.length → gon c r q = false) (ml : h.length = 0 ∨ h.getD (h.length - 1) 0 ≠ k.getD (k.length - 1) 0 - s) : Least (Rw.tell a c r) h k s where
  ne := ne
  tell := ht
  per := fun q g q0 q1 ev => by
    have e1 : Ev (Rw.tell [] c r) q g := ev.shift (t := a.length) fun n => by rw [tell_pre, if_neg (by omega), Nat.add_sub_cancel]
    obtain ⟨d, hd⟩ := Ev.gcd _ q c.length g r (Nat.le_refl _) q0 hc e1 (ev_tell hc)
    have d0 := Nat.gcd_pos_of_pos_left c.length q0
    have dl := Nat.gcd_le_left c.length q0
    have z := gon_of_ev hc d0 (Nat.gcd_dvd_right q c.length) hd
    rw [mp _ d0 (by omega) (Nat.gcd_dvd_right q c.length)] at z
    cases z
  pre := by
    rcases ml with h0 | h0
    · exact .inl h0
    · by_cases hz : h.length = 0
      · exact .inl hz
      · right
        rw [← ht, ← ht]
        unfold Rw.tell
        rw [if_neg (by omega), if_pos (by omega), show h.length - 1 + k.length - h.length = k.length - 1 by omega, Nat.mod_eq_of_lt (by omega), Nat.div_eq_of_lt (by omega)]
        simp only [Int.natCast_zero, Int.zero_mul, Int.add_zero]
        omega
theorem Least.uniq {T : Nat → Int} {h k h' k' : List Int} {s s' : Int} (a : Least T h k s) (b : Least T h' k' s') : h = h' ∧ k = k' ∧ s = s' := by
  have ea : Ev T k.length s := by rw [← funext a.tell]; exact ev_tell a.ne
  have eb : Ev T k'.length s' := by rw [← funext b.tell]; exact ev_tell b.ne
  have hk : k.length = k'.length := by
    rcases Nat.lt_trichotomy k.length k'.length with z | z | z
    · exact absurd ea (b.per _ _ a.ne z)
    · exact z
    · exact absurd eb (a.per _ _ b.ne z)
  have pa : ∀ n, h.length ≤ n → T (n + k.length) = T n + s := fun n hn => by
    have := tell_per (r := s) a.ne hn 1
    rw [Nat.mul_one, a.tell, a.tell] at this
    omega
  have pb : ∀ n, h'.length ≤ n → T (n + k'.length) = T n + s' := fun n hn => by
    have := tell_per (r := s') b.ne hn 1
    rw [Nat.mul_one, b.tell, b.tell] at this
    omega
  have hs : s = s' := by
    have h1 := pa (h.length + h'.length) (by omega)
    have h2 := pb (h.length + h'.length) (by omega)
    rw [hk] at h1
    omega
  have hh : h.length = h'.length := by
    rcases Nat.lt_trichotomy h.length h'.length with z | z | z
    · exfalso
      rcases b.pre with w | w
      · omega
      · exact w (by rw [← hk, ← hs]; exact pa _ (by omega))
    · exact z
    · exfalso
      rcases a.pre with w | w
      · omega
      · exact w (by rw [hk, hs]; exact pb _ (by omega))
  have get : ∀ {x y : List Int}, x.length = y.length → (∀ n, n < x.length → x.getD n 0 = y.getD n 0) → x = y := fun {x y} hl hn => by
    refine List.ext_getElem hl fun n h1 h2 => ?_
    have := hn n h1
    simpa [List.getD, List.getElem?_eq_getElem h1, List.getElem?_eq_getElem h2] using this
  refine ⟨get hh fun n hn => ?_, get hk fun n hn => ?_, hs⟩
  · have h1 := a.tell n
    have h2 := b.tell n
    unfold Rw.tell at h1 h2
    rw [if_pos hn] at h1
    rw [if_pos (by omega)] at h2
    omega
  · have h1 := a.tell (h.length + n)
    have h2 := b.tell (h'.length + n)
    unfold Rw.tell at h1 h2
    rw [if_neg (by omega), Nat.add_sub_cancel_left, Nat.mod_eq_of_lt hn, Nat.div_eq_of_lt hn] at h1
    rw [if_neg (by omega), Nat.add_sub_cancel_left, Nat.mod_eq_of_lt (by omega), Nat.div_eq_of_lt (by omega), ← hh] at h2
    simp only [Int.natCast_zero, Int.zero_mul, Int.add_zero] at h1 h2
    omega
/-- two forms that tell the same as far as both early parts and both periods together reach tell the same -/
theorem same_all {a c b e : List Int} {r s : Int} (hc : 0 < c.length) (he : 0 < e.length) {M : Nat} (ha : a.length ≤ M) (hb : b.length ≤ M)
    (h : ∀ n, n ≤ M + c.length * e.length → tell a c r n = tell b e s n) (n : Nat) : tell a c r n = tell b e s n := by
  have hL : 0 < c.length * e.length := Nat.mul_pos hc he
  have p1 : ∀ n, M ≤ n → tell a c r (n + c.length * e.length) = tell a c r n + e.length * r := fun n hn => tell_per hc (by omega) _
  have p2 : ∀ n, M ≤ n → tell b e s (n + c.length * e.length) = tell b e s n + c.length * s := fun n hn => by rw [Nat.mul_comm]; exact tell_per he (by omega) _
  have hR : (e.length * r : Int) = c.length * s := by
    have h1 := p1 M (Nat.le_refl _)
    have h2 := p2 M (Nat.le_refl _)
    have h3 := h M (by omega)
    have h4 := h (M + c.length * e.length) (Nat.le_refl _)
    omega
  generalize c.length * e.length = L at *
  induction n using Nat.strongRecOn with
  | _ n ih =>
    by_cases hn : n ≤ M + L
    · exact h n hn
    · have h1 := p1 (n - L) (by omega)
      have h2 := p2 (n - L) (by omega)
      have h3 := ih (n - L) (by omega)
      rw [show n - L + L = n by omega] at h1 h2
      omega
end Rw

namespace Tx
open PySem LC
variable {G : Prog} {σ : Nat → Nat} {n : Nat}
-- from K19e
section
variable [HasD G (σ 3) (d_is_integer σ)]
theorem is_integer_ok (i : Int) (m : Sto) : callD G (n + 1) (σ 3) [.int i] m = .ok (.bl true) m := by
  refine po_eq ?_; refine po_callD rfl ?_; simp only [d_is_integer, f_is_integer]; simp only [List.map_cons, List.map_nil, List.length_cons, List.length_nil, List.cons_append, List.nil_append, List.replicate]
  refine po_seq ?_; simp [den]
end
section
variable [HasD G (σ 4) (d_is_between σ)] [HasD G (σ 3) (d_is_integer σ)]
theorem is_between_ok (i : Int) (h : 0 ≤ i) (m : Sto) : callD G (n + 2) (σ 4) [.int i, .int 0, .non] m = .ok (.bl true) m := by
  refine po_eq ?_; refine po_callD rfl ?_; simp only [d_is_between, f_is_between]; simp only [List.map_cons, List.map_nil, List.length_cons, List.length_nil, List.cons_append, List.nil_append, List.replicate]
  refine po_seq ?_; simp [den, is_integer_ok, h]
end
section
variable [HasD G (σ 32) (d_check_number σ)] [HasD G (σ 4) (d_is_between σ)] [HasD G (σ 3) (d_is_integer σ)]
theorem check_number_ok (i : Int) (h : 0 ≤ i) (m : Sto) : callD G (n + 3) (σ 32) [.int i, .int 0, .non] m = .ok .non m := by
  refine po_eq ?_; refine po_callD rfl ?_; simp only [d_check_number, f_check_number]; simp only [List.map_cons, List.map_nil, List.length_cons, List.length_nil, List.cons_append, List.nil_append, List.replicate]
  refine po_seq ?_; simp [den, is_between_ok, h]
end
section
variable [HasD G (σ 70) (d_check_integers σ)] [HasD G (σ 3) (d_is_integer σ)]
theorem check_integers_ok (xs : List Int) (l : Int) (h : l ≤ xs.length) (hz : xs.length ≤ 1000) (m : Sto) : callD G (n + 2) (σ 70) [.tup (dints xs), .int l] m = .ok .non m := by
  refine po_eq ?_; refine po_callD rfl ?_; simp only [d_check_integers, f_check_integers]; simp only [List.map_cons, List.map_nil, List.length_cons, List.length_nil, List.cons_append, List.nil_append, List.replicate]
  refine po_seq ?_; simp [den, dints_len, show ¬ ((xs.length : Int) < l) by omega]
  refine eq_po (lcL_ints (f := fun _ => .bl true) (fun i hi => po_eq (by simp [lcTurn, ifT, wipeE, is_integer_ok])) (by simp [LIM]; omega)) ?_
  have := v_allF (P := phi G (n + 1)) (m := m) (l := xs) (f := fun _ => true)
  simp only [this]
  simp
end
section
variable [HasD G (σ 71) (d_goes_on σ)]
theorem goes_on_ok (c : List Int) (r : Int) (s : Nat) (h : 0 < c.length) (hz : c.length ≤ 1000) (hs : s ≤ c.length) (m : Sto) : callD G (n + 1) (σ 71) [.tup (dints c), .int r, .int s] m = .ok (.bl (Rw.gon c r s)) m := by
  refine po_eq ?_; refine po_callD rfl ?_; simp only [d_goes_on, f_goes_on]; simp only [List.map_cons, List.map_nil, List.length_cons, List.length_nil, List.cons_append, List.nil_append, List.replicate]
  refine po_seq ?_; simp [den, dints_len]
  refine po_seq ?_; simp [den, dints_len, mulOk_r (i := r) (j := s) (by omega) (by omega)]
  refine ⟨h, ?_⟩
  split
  · rename_i h0
    refine po_seq ?_; simp [den, mulOk_r (i := r) (j := s) (by omega) (by omega), divOk_of (j := c.length) (by omega) (by omega)]
    refine po_seq ?_; simp [den]
    refine eq_po (lcL_ints (f := fun x => .int (x + r)) (fun i hi => po_eq (by simp [lcTurn, ifT, wipeE])) (by simp [LIM]; omega)) ?_
    have e : (c.map fun x => D.int (x + r)) = dints (c.map (· + r)) := by simp [dints]
    simp only [e, dints_len, List.length_map, dints_app]
    refine ⟨by simp [LIM]; omega, ?_⟩
    refine po_seq ?_; simp [den]
    refine ⟨by simp [small62]; omega, ?_⟩
    have hl : (c ++ c.map (· + r)).length = 2 * c.length := by simp; omega
    refine eq_po (lcL_range (f := fun k => .bl (decide ((c ++ c.map (· + r)).getD (k + s) 0 = (c ++ c.map (· + r)).getD k 0 + r * s / c.length))) (fun k hk => po_eq ?_) (by simp [LIM]; omega)) ?_
    · simp [lcTurn, ifT, wipeE]
      rw [atI_d (by omega) (by omega), atI_d (by omega) (by omega)]
      simp
      rw [show ((k : Int) + s).toNat = k + s by omega]
    · rw [v_allF]
      simp [Rw.gon, h0]
  · rename_i h0
    refine po_seq ?_; simp [den]
    simp [Rw.gon, h0]

end
-- from K19g
structure RowOk (a c : List Int) (r : Int) (h k : List Int) (s : Int) : Prop where
  ne : 0 < k.length
  hl : h.length ≤ a.length
  kl : k.length ≤ c.length
  tell : ∀ n, Rw.tell h k s n = Rw.tell a c r n
  step : s * c.length = r * k.length
  mp : ∀ q, 0 < q → q < k.length → q ∣ c.length → Rw.gon c r q = false
  ml : h.length = 0 ∨ h.getD (h.length - 1) 0 ≠ k.getD (k.length - 1) 0 - s
def rowOb (h k : List Int) (s : Int) : Ob := .ins "Row" [("head", .tup (dints h)), ("cycle", .tup (dints k)), ("step", .int s)]
theorem first_of {α : Type} {g : Nat → Option α} {n : Nat} {d : α} {l : List α} (h : (List.range n).filterMap g = d :: l) : ∃ k, k < n ∧ g k = some d ∧ ∀ j, j < k → g j = none := by
  rw [List.filterMap_eq_cons_iff] at h
  obtain ⟨l1, a, l2, e, h1, h2, h3⟩ := h
  have ea : (List.range n)[l1.length]? = some a := by rw [e]; simp
  have hl : l1.length < n := by
    have := (List.getElem?_eq_some_iff.mp ea).1
    simpa using this
  have ea2 : a = l1.length := by
    rw [List.getElem?_range hl] at ea
    exact (Option.some.inj ea).symm
  refine ⟨a, by omega, h2, fun j hj => h1 j ?_⟩
  have ej : (List.range n)[j]? = some j := List.getElem?_range (by omega)
  rw [e, List.getElem?_append_left (by omega)] at ej
  exact List.mem_of_getElem? ej
section
variable [HasD G (σ 72) (d_Row_init σ)] [HasF G "Row" "head"] [HasF G "Row" "cycle"] [HasF G "Row" "step"] [HasD G (σ 70) (d_check_integers σ)] [HasD G (σ 71) (d_goes_on σ)]
  [HasD G (σ 3) (d_is_integer σ)]
theorem Row_init_ok (hW : 2000 ≤ G.W) (a c : List Int) (r : Int) (p : Nat) (m : Sto) (hp : m[p]? = some (.ins "Row" [])) (hc : 0 < c.length) (hz : c.length ≤ 1000) (ha : a.length ≤ 1000) :
    Po (callD G (n + 4) (σ 72) [.ref p, .tup (dints a), .tup (dints c), .int r] m) fun v m' => v = .non ∧ ∃ h k s, RowOk a c r h k s ∧ m' = m.set p (rowOb h k s) := by
  refine po_callD rfl ?_; simp only [d_Row_init, f_Row_init]; simp only [List.map_cons, List.map_nil, List.length_cons, List.length_nil, List.cons_append, List.nil_append, List.replicate]
  refine po_seq ?_; simp [den, check_integers_ok a 0 (by omega) ha]
  refine po_seq ?_; simp [den, check_integers_ok c 1 (by omega) hz]
  refine po_seq ?_; simp [den, is_integer_ok]
  refine po_seq ?_; simp [den, dints_len]
  refine po_seq ?_; simp [den]
  refine ⟨by simp [small62]; omega, ?_⟩
  refine eq_po (lcL_rangeF (g := fun k => if c.length % (1 + k) = 0 ∧ Rw.gon c r (1 + k) = true then some (.int ((1 + k : Nat) : Int)) else none) (fun k hk => po_eq ?_) (by simp [LIM]; omega)) ?_
  · obtain ⟨s, hs⟩ : ∃ s : Nat, s = 1 + k := ⟨_, rfl⟩
    rw [← hs, show (1 : Int) + (k : Int) = (s : Int) by omega]
    have cond : ((c.length : Int) % (s : Int) = 0) ↔ c.length % s = 0 := by omega
    have hs0 : 0 < s := by omega
    simp [lcTurn, ifT, wipeE, cond, goes_on_ok c r s hc hz (by omega), hs0]
    by_cases h1 : c.length % s = 0 <;> by_cases h2 : Rw.gon c r s = true <;> simp [h1, h2]
  have pick : ∃ s : Nat, 0 < s ∧ s ≤ c.length ∧ c.length % s = 0 ∧ Rw.gon c r s = true ∧ (∀ q, 0 < q → q < s → q ∣ c.length → Rw.gon c r q = false) ∧ atI (List.filterMap (fun k => if c.length % (1 + k) = 0 ∧ Rw.gon c r (1 + k) = true then some (D.int ((1 + k : Nat) : Int)) else none) (List.range ((c.length : Int) + 1 - 1).toNat)) 0 = some (.int s) := by
    rw [show ((c.length : Int) + 1 - 1).toNat = c.length by omega]
    generalize hl : List.filterMap (fun k => if c.length % (1 + k) = 0 ∧ Rw.gon c r (1 + k) = true then some (D.int ((1 + k : Nat) : Int)) else none) (List.range c.length) = l
    have has : D.int (c.length : Int) ∈ l := by
      rw [← hl, List.mem_filterMap]
      refine ⟨c.length - 1, List.mem_range.mpr (by omega), ?_⟩
      rw [show 1 + (c.length - 1) = c.length by omega, if_pos ⟨Nat.mod_self _, Rw.gon_self hc⟩]
    cases l with
    | nil => cases has
    | cons d l =>
      obtain ⟨k, hk, g1, g2⟩ := first_of hl
      split at g1
      · rename_i h
        cases g1
        refine ⟨1 + k, by omega, by omega, h.1, h.2, fun q q0 q1 qd => ?_, by simp [atI, ixN]⟩
        have := g2 (q - 1) (by omega)
        rw [show 1 + (q - 1) = q by omega] at this
        cases z : Rw.gon c r q with
        | false => rfl
        | true => rw [if_pos ⟨Nat.mod_eq_zero_of_dvd qd, z⟩] at this; cases this
      · cases g1
  obtain ⟨s, hs0, hsl, hsd, hsg, hmin, ep⟩ := pick
  rw [ep]
  simp
  refine po_seq ?_; simp [den, mulOk_r (i := r) (j := s) (by omega) (by omega), divOk_of (j := c.length) (by omega) (by omega), dints_len]
  rw [cut_take, dints_take]
  refine po_seq ?_
  have T0 := Rw.gon_tell hc hs0 (Nat.dvd_of_mod_eq_zero hsd) hsg
  generalize hd : r * (s : Int) / (c.length : Int) = d at T0 ⊢
  simp only [den, v_phiW]
  have last : ∀ (l : Nat) (cy : List Int), l ≤ a.length → cy.length = s → (∀ n, Rw.tell (a.take l) cy d n = Rw.tell a c r n) → (l = 0 ∨ a.getD (l - 1) 0 ≠ cy.getD (cy.length - 1) 0 - d) → Po ((den (phi G (n + 3)) (f_Row_init_3 σ)).s
      [some (D.ref p), some (D.tup (dints a)), some (D.tup (dints c)), some (D.int r), some (D.int ↑c.length), some (D.int ↑s), some (D.lst (dints cy)), some (D.int d), some (D.int ↑l), none] m)
      (fin fun v m' => v = D.non ∧ ∃ h k s, RowOk a c r h k s ∧ m' = List.set m p (rowOb h k s)) := by
    intro l cy hl hcy hT hend
    refine po_seq ?_; simp [den]
    rw [cut_take, dints_take]
    refine eq_po (put_fld hp (by decide)) ?_
    refine eq_po (put_fld (at_set hp) (by simp [putF])) ?_
    refine eq_po (put_fld (at_set (at_set hp)) (by simp [putF]; split <;> simp)) ?_
    refine ⟨a.take l, cy, d, ⟨by omega, by rw [List.length_take]; omega, by omega, hT, ?_, fun q q0 q1 qd => hmin q q0 (by omega) qd, ?_⟩, ?_⟩
    rotate_left
    · rw [List.length_take, Nat.min_eq_left hl]
      rcases hend with h | h
      · exact .inl h
      · by_cases h0 : l = 0
        · exact .inl h0
        · right
          rw [Rw.getD_take (by omega)]
          exact h
    rotate_left
    · rw [hcy]
      have g := hsg
      unfold Rw.gon at g
      rw [Bool.and_eq_true, decide_eq_true_eq] at g
      rw [← hd]
      exact Int.ediv_mul_cancel (Int.dvd_of_emod_eq_zero g.1)
    · rw [List.set_set, List.set_set]
      have h1 : ¬ (("head" : Str) = "cycle") := by decide +kernel
      have h2 : ¬ (("head" : Str) = "step") := by decide +kernel
      have h3 : ¬ (("cycle" : Str) = "step") := by decide +kernel
      simp [putF, h1, h2, h3, rowOb]
  refine while_po (k := a.length) (fun k env m' => m' = m ∧ ∃ (l : Nat) (cy : List Int), k = l ∧ l ≤ a.length ∧ cy.length = s ∧ (∀ n, Rw.tell (a.take l) cy d n = Rw.tell a c r n) ∧
    env = [some (.ref p), some (.tup (dints a)), some (.tup (dints c)), some (.int r), some (.int (c.length : Int)), some (.int (s : Int)), some (.lst (dints cy)), some (.int d), some (.int (l : Int)), none]) (show a.length < G.W by omega) ⟨rfl, a.length, c.take s, rfl, Nat.le_refl _, by rw [List.length_take]; omega, fun n => ?_, rfl⟩ ?_
  · rw [List.take_length, Rw.tell_pre, Rw.tell_pre a c, T0]
  · rintro l env m' ⟨rfl, l', cy, hll, hl, hcy, hT, rfl⟩
    subst hll
    simp
    by_cases h0 : 0 < l
    · simp [h0]
      rw [atI_d (by omega) (by omega)]
      have e1 : atI (dints cy) (-1) = some (.int (cy.getD (cy.length - 1) 0)) := by
        unfold atI ixN
        rw [if_neg (by omega), if_pos (by rw [dints_len]; omega), dints_len]
        show (dints cy)[(-1 + (cy.length : Int)).toNat]? = _
        rw [show (-1 + (cy.length : Int)).toNat = cy.length - 1 by omega]
        show (cy.map D.int)[cy.length - 1]? = _
        rw [List.getElem?_map]
        have : cy.length - 1 < cy.length := by omega
        simp [List.getD, List.getElem?_eq_getElem this]
      rw [e1]
      simp [-List.getD_eq_getElem?_getD]
      split
      · rename_i h2
        refine po_seq ?_; simp [den]
        refine po_seq ?_; simp [den]
        rw [show ((l : Int) - 1) = ((l - 1 : Nat) : Int) by omega, atI_d (by omega) (by omega)]
        simp [-List.getD_eq_getElem?_getD, cut_last, dints_dropLast, dints_len]
        have fits : cy.length - 1 + 1 ≤ LIM := by simp [LIM]; omega
        refine ⟨by first | exact fits | (simp [LIM]; omega), ?_⟩
        refine ⟨l - 1, by omega, by omega, a.getD (l - 1) 0 :: cy.dropLast, by rw [List.length_cons, List.length_dropLast]; omega, fun n => ?_, rfl, rfl⟩
        rw [Rw.tell_roll (by omega) (by omega) h2, show l - 1 + 1 = l by omega]
        exact hT n
      · rename_i h2; exact last l cy hl hcy hT (.inr h2)
    · have : l = 0 := by omega
      subst this
      simp
      exact last 0 cy hl hcy hT (.inl rfl)

end
-- from K19h
theorem gHead [HasF G "Row" "head"] {p : Nat} {m : Sto} {h k : List Int} {s : Int} (hp : m[p]? = some (rowOb h k s)) : opAt (phi G n) "head" (.ref p) m = .ok (.tup (dints h)) m := at_fld hp rfl
theorem gCycle [HasF G "Row" "cycle"] {p : Nat} {m : Sto} {h k : List Int} {s : Int} (hp : m[p]? = some (rowOb h k s)) : opAt (phi G n) "cycle" (.ref p) m = .ok (.tup (dints k)) m := at_fld hp rfl
theorem gStep [HasF G "Row" "step"] {p : Nat} {m : Sto} {h k : List Int} {s : Int} (hp : m[p]? = some (rowOb h k s)) : opAt (phi G n) "step" (.ref p) m = .ok (.int s) m := at_fld hp rfl
section
variable [HasD G (σ 89) (d_Row_at σ)] [HasF G "Row" "head"] [HasF G "Row" "cycle"] [HasF G "Row" "step"] [HasD G (σ 32) (d_check_number σ)] [HasD G (σ 4) (d_is_between σ)]
  [HasD G (σ 3) (d_is_integer σ)]
theorem Row_at_ok (h k : List Int) (s : Int) (p : Nat) (m : Sto) (i : Nat) (hp : m[p]? = some (rowOb h k s)) (hk : 0 < k.length) (hz : k.length ≤ 1000) (hs : s.natAbs.log2 < 500) (hi : i.log2 < 500) :
    callD G (n + 4) (σ 89) [.ref p, .int i] m = .ok (.int (Rw.tell h k s i)) m := by
  refine po_eq ?_; refine po_callD rfl ?_; simp only [d_Row_at, f_Row_at]; simp only [List.map_cons, List.map_nil, List.length_cons, List.length_nil, List.cons_append, List.nil_append, List.replicate]
  refine po_seq ?_; simp [den, check_number_ok (i : Int) (by omega)]
  refine po_seq ?_; simp [den, gHead hp, dints_len]
  split
  · rename_i hlt
    refine po_seq ?_; simp [den, gHead hp]
    rw [atI_d (by omega) (by omega)]
    simp [Rw.tell, hlt]
  · rename_i hlt
    refine po_seq ?_; simp [den, gHead hp, gCycle hp, dints_len, divOk_of (j := k.length) (by omega) (by omega)]
    refine po_seq ?_; simp [den, gCycle hp, gStep hp]
    have e : ((i : Int) - h.length) = ((i - h.length : Nat) : Int) := by omega
    have e1 : ((i : Int) - h.length) % (k.length : Int) = (((i - h.length) % k.length : Nat) : Int) := by rw [e]; rfl
    have e2 : ((i : Int) - h.length) / (k.length : Int) = (((i - h.length) / k.length : Nat) : Int) := by rw [e]; rfl
    have lt := Nat.mod_lt (i - h.length) hk
    have tt : Rw.tell h k s i = k.getD ((i - h.length) % k.length) 0 + ((i - h.length) / k.length : Nat) * s := by unfold Rw.tell; rw [if_neg hlt]
    have le : (i - h.length) / k.length ≤ i := Nat.le_trans (Nat.div_le_self _ _) (Nat.sub_le _ _)
    rw [e1, e2, tt]
    generalize (i - h.length) / k.length = q at le ⊢
    generalize (i - h.length) % k.length = t at lt ⊢
    have mu : mulOk (q : Int) s = true := by
      unfold mulOk
      rw [Bool.or_eq_true, decide_eq_true_eq]
      refine .inr ?_
      have : q.log2 ≤ i.log2 := by
        by_cases z : q = 0
        · rw [z]; simp
        · have z2 : i ≠ 0 := by omega
          rw [Nat.le_log2 z2]
          exact Nat.le_trans (Nat.log2_self_le z) le
      rw [Int.natAbs_natCast]
      omega
    rw [atI_d (by omega) (by omega)]
    simp [-List.getD_eq_getElem?_getD, gStep hp, mu]
end
section
variable [HasD G (σ 90) (d_Row_greatest σ)] [HasF G "Row" "step"] [HasF G "Row" "head"] [HasF G "Row" "cycle"]
theorem Row_greatest_ok (h k : List Int) (s : Int) (p : Nat) (m : Sto) (hp : m[p]? = some (rowOb h k s)) (hk : 0 < k.length) (hz : h.length + k.length ≤ 1000) :
    callD G (n + 1) (σ 90) [.ref p] m = .ok (if 0 < s then .non else .int (most (h ++ k))) m := by
  refine po_eq ?_; refine po_callD rfl ?_; simp only [d_Row_greatest, f_Row_greatest]; simp only [List.map_cons, List.map_nil, List.length_cons, List.length_nil, List.cons_append, List.nil_append, List.replicate]
  refine po_seq ?_; simp [den, gHead hp, gCycle hp, gStep hp, dints_len, dints_app]
  by_cases h0 : 0 < s
  · simp [h0]
    intro h; omega
  · obtain ⟨x, xs, e⟩ : ∃ x xs, h ++ k = x :: xs := by
      cases q : h ++ k with
      | nil => rw [List.append_eq_nil_iff] at q; rw [q.2] at hk; simp at hk
      | cons x xs => exact ⟨x, xs, rfl⟩
    have fits : h.length + k.length ≤ LIM := by simp [LIM]; omega
    rw [e]
    simp [h0, fits]

end
-- from K19i
section
variable [HasD G (σ 78) (d_L_int σ)] [HasD G (σ 22) (d_L_take σ)]
theorem L_int_ok (p : Nat) (m : Sto) (hp : Purse p m) : Po (callD G (n + 2) (σ 78) [.ref p] m) fun v m' => ∃ r, v = .int r ∧ -(10 ^ 30) ≤ r ∧ r ≤ 10 ^ 30 ∧ Drawn p m m' := by
  refine po_callD rfl ?_; simp only [d_L_int, f_L_int]; simp only [List.map_cons, List.map_nil, List.length_cons, List.length_nil, List.cons_append, List.nil_append, List.replicate]
  refine po_seq ?_; simp [den]
  refine (L_take_ok p 8 (by omega) (by omega) m hp).mono ?_
  rintro _ m1 ⟨r, rfl, h0, h1, hd⟩
  refine po_seq ?_; simp [den]
  have hr : r = 0 ∨ r = 1 ∨ r = 2 ∨ r = 3 ∨ r = 4 ∨ r = 5 ∨ r = 6 ∨ r = 7 := by omega
  rcases hr with rfl | rfl | rfl | rfl | rfl | rfl | rfl | rfl
  · simp
    refine po_seq ?_; simp [den, atI, ixN]
    refine (L_take_ok p 2 (by omega) (by omega) m1 hd.pu).mono ?_
    rintro _ m2 ⟨r, rfl, g0, g1, hd2⟩
    simp
    exact ⟨by omega, by omega, hd.trans hd2⟩
  · simp
    refine po_seq ?_; simp [den, atI, ixN]
    refine (L_take_ok p 3 (by omega) (by omega) m1 hd.pu).mono ?_
    rintro _ m2 ⟨r, rfl, g0, g1, hd2⟩
    simp
    exact ⟨by omega, by omega, hd.trans hd2⟩
  · simp
    refine po_seq ?_; simp [den, atI, ixN]
    refine (L_take_ok p 5 (by omega) (by omega) m1 hd.pu).mono ?_
    rintro _ m2 ⟨r, rfl, g0, g1, hd2⟩
    simp
    exact ⟨by omega, by omega, hd.trans hd2⟩
  · simp
    refine po_seq ?_; simp [den, atI, ixN]
    refine (L_take_ok p 5 (by omega) (by omega) m1 hd.pu).mono ?_
    rintro _ m2 ⟨r, rfl, g0, g1, hd2⟩
    simp
    exact ⟨by omega, by omega, hd.trans hd2⟩
  · simp
    refine po_seq ?_; simp [den, atI, ixN]
    refine (L_take_ok p 19 (by omega) (by omega) m1 hd.pu).mono ?_
    rintro _ m2 ⟨r, rfl, g0, g1, hd2⟩
    simp
    exact ⟨by omega, by omega, hd.trans hd2⟩
  · simp
    refine po_seq ?_; simp [den, atI, ixN]
    refine (L_take_ok p 199 (by omega) (by omega) m1 hd.pu).mono ?_
    rintro _ m2 ⟨r, rfl, g0, g1, hd2⟩
    simp
    exact ⟨by omega, by omega, hd.trans hd2⟩
  · simp
    refine po_seq ?_; simp [den, atI, ixN]
    refine (L_take_ok p 999 (by omega) (by omega) m1 hd.pu).mono ?_
    rintro _ m2 ⟨r, rfl, g0, g1, hd2⟩
    simp [mulOk_l (i := 1) (by omega) (by omega)]
    exact ⟨by omega, by omega, hd.trans hd2⟩
  · simp
    refine po_seq ?_; simp [den, atI, ixN]
    refine (L_take_ok p 999 (by omega) (by omega) m1 hd.pu).mono ?_
    rintro _ m2 ⟨r, rfl, g0, g1, hd2⟩
    simp [mulOk_l (i := -1) (by omega) (by omega)]
    exact ⟨by omega, by omega, hd.trans hd2⟩

end
-- from K19m
/-- small integers -/
def Sm (xs : List Int) : Prop := ∀ x ∈ xs, -(10 ^ 30) ≤ x ∧ x ≤ 10 ^ 30
section
variable [HasD G (σ 79) (d_L_form σ)] [HasD G (σ 78) (d_L_int σ)] [HasD G (σ 22) (d_L_take σ)]
theorem L_form_ok (p : Nat) (m : Sto) (hp : Purse p m) : Po (callD G (n + 3) (σ 79) [.ref p] m) fun v m' => ∃ a c r, v = .tup [.tup (dints a), .tup (dints c), .int r] ∧ a.length ≤ 5 ∧ 1 ≤ c.length ∧ c.length ≤ 4 ∧ Sm a ∧ Sm c ∧ Sm [r] ∧ Drawn p m m' := by
  refine po_callD rfl ?_; simp only [d_L_form, f_L_form]; simp only [List.map_cons, List.map_nil, List.length_cons, List.length_nil, List.cons_append, List.nil_append, List.replicate]
  refine po_seq ?_; simp [den]
  refine (L_take_ok p 2 (by omega) (by omega) m hp).mono ?_
  rintro _ m1 ⟨q, rfl, h0, h1, hd⟩
  refine po_seq ?_; simp [den]
  refine (L_take_ok p 6 (by omega) (by omega) m1 hd.pu).mono ?_
  rintro _ m2 ⟨na, rfl, g0, g1, hd2⟩
  simp
  refine ⟨small62I (by omega) (by omega), ?_⟩
  refine (drawsL (lo := -(10 ^ 30)) (hi := 10 ^ 30) hd2.pu (by rw [rangeL_len]; unfold LIM; omega) ?_).mono ?_
  · intro d m3 hp3
    simp [lcTurn, den, wipeE, ifT]
    split
    · refine (L_int_ok p _ hp3).mono ?_
      rintro _ m9 ⟨x, rfl, b1, b2, hw⟩
      exact ⟨x, rfl, by omega, by omega, hw⟩
    · refine (L_take_ok p 3 (by omega) (by omega) _ hp3).mono ?_
      rintro _ m9 ⟨x, rfl, b1, b2, hw⟩
      exact ⟨x, rfl, by omega, by omega, hw⟩
  rintro _ m3 ⟨a, rfl, la, ba, hd3⟩
  rw [rangeL_len] at la
  refine po_seq ?_; simp [den]
  refine (L_take_ok p 4 (by omega) (by omega) m3 hd3.pu).mono ?_
  rintro _ m4 ⟨nc, rfl, c0, c1, hd4⟩
  simp
  refine ⟨small62I (by omega) (by omega), ?_⟩
  refine (drawsL (lo := -(10 ^ 30)) (hi := 10 ^ 30) hd4.pu (by rw [rangeL_len]; unfold LIM; omega) ?_).mono ?_
  · intro d m3 hp3
    simp [lcTurn, den, wipeE, ifT]
    split
    · refine (L_int_ok p _ hp3).mono ?_
      rintro _ m9 ⟨x, rfl, b1, b2, hw⟩
      exact ⟨x, rfl, by omega, by omega, hw⟩
    · refine (L_take_ok p 2 (by omega) (by omega) _ hp3).mono ?_
      rintro _ m9 ⟨x, rfl, b1, b2, hw⟩
      exact ⟨x, rfl, by omega, by omega, hw⟩
  rintro _ m5 ⟨c, rfl, lc, bc, hd5⟩
  rw [rangeL_len] at lc
  refine po_seq ?_
  have hw : Drawn p m m5 := (((hd.trans hd2).trans hd3).trans hd4).trans hd5
  simp [den]
  split
  · refine (L_int_ok p _ hd5.pu).mono ?_
    rintro _ m9 ⟨x, rfl, b1, b2, hw2⟩
    exact ⟨a, c, x, ⟨rfl, rfl, rfl⟩, by omega, by omega, by omega, ba, bc, by intro y hy; rw [List.mem_singleton.mp hy]; exact ⟨b1, b2⟩, hw.trans hw2⟩
  · refine (L_take_ok p 5 (by omega) (by omega) _ hd5.pu).mono ?_
    rintro _ m9 ⟨x, rfl, b1, b2, hw2⟩
    simp
    exact ⟨a, c, x - 2, ⟨rfl, rfl, rfl⟩, by omega, by omega, by omega, ba, bc, by intro y hy; rw [List.mem_singleton.mp hy]; omega, hw.trans hw2⟩
end
section
variable [HasD G (σ 80) (d_L_at σ)]
/-- what _law_at answers -/
theorem L_at_ok (a c : List Int) (r : Int) (i : Nat) (m : Sto) (hk2 : i < 2 ^ 60) (ha : a.length ≤ 20) (hc : 0 < c.length) (hc2 : c.length ≤ 20) : callD G (n + 1) (σ 80) [.tup [.tup (dints a), .tup (dints c), .int r], .int i] m = .ok (.int (Rw.tell a c r i)) m := by
  refine po_eq ?_; refine po_callD rfl ?_; simp only [d_L_at, f_L_at]; simp only [List.map_cons, List.map_nil, List.length_cons, List.length_nil, List.cons_append, List.nil_append, List.replicate]
  refine po_seq ?_; simp [den, dints_len]
  refine po_seq ?_; simp [den, dints_len]
  split
  · rename_i hlt
    refine po_seq ?_; simp [den]
    rw [atI_d (by omega) (by omega)]
    simp [Rw.tell, hlt]
  · rename_i hlt
    refine po_seq ?_; simp [den, dints_len, divOk_of (j := c.length) (by omega) (by omega)]
    have e : ((i : Int) - a.length) = ((i - a.length : Nat) : Int) := by omega
    have e1 : ((i : Int) - a.length) % (c.length : Int) = (((i - a.length) % c.length : Nat) : Int) := by rw [e]; rfl
    have e2 : ((i : Int) - a.length) / (c.length : Int) = (((i - a.length) / c.length : Nat) : Int) := by rw [e]; rfl
    have lt := Nat.mod_lt (i - a.length) hc
    have tt : Rw.tell a c r i = c.getD ((i - a.length) % c.length) 0 + ((i - a.length) / c.length : Nat) * r := by unfold Rw.tell; rw [if_neg hlt]
    have le : (i - a.length) / c.length ≤ i := Nat.le_trans (Nat.div_le_self _ _) (Nat.sub_le _ _)
    rw [e1, e2, tt]
    generalize (i - a.length) / c.length = q at le ⊢
    generalize (i - a.length) % c.length = t at lt ⊢
    rw [atI_d (by omega) (by omega)]
    simp [-List.getD_eq_getElem?_getD, mulOk_l (i := (q : Int)) (j := r) (by omega) (by omega)]
    exact hc

end
-- from K19n
/-- early integers k places longer, the period t + 1 times -/
def unA (a c : List Int) (r : Int) (t : Nat) : List Int := (List.range t).map (Rw.tell a c r)
def unC (a c : List Int) (r : Int) (t q : Nat) : List Int := (List.range q).map fun k => Rw.tell a c r (t + k)
section
variable [HasD G (σ 81) (d_L_unrolled σ)] [HasD G (σ 80) (d_L_at σ)] [HasD G (σ 22) (d_L_take σ)]
theorem L_unrolled_ok (a c : List Int) (r : Int) (p : Nat) (m : Sto) (hp : Purse p m) (ha : a.length ≤ 5) (hc : 0 < c.length) (hc2 : c.length ≤ 4) :
    Po (callD G (n + 3) (σ 81) [.ref p, .tup [.tup (dints a), .tup (dints c), .int r]] m) fun v m' => ∃ (x y : Nat), x < 4 ∧ y < 3 ∧
      v = .tup [.tup (dints (unA a c r (a.length + x))), .tup (dints (unC a c r (a.length + x) (c.length * (1 + y)))), .int (Rw.tell a c r (a.length + x + c.length * (1 + y)) - Rw.tell a c r (a.length + x))] ∧ Drawn p m m' := by
  refine po_callD rfl ?_; simp only [d_L_unrolled, f_L_unrolled]; simp only [List.map_cons, List.map_nil, List.length_cons, List.length_nil, List.cons_append, List.nil_append, List.replicate]
  refine po_seq ?_; simp [den, dints_len, atI, ixN]
  refine (L_take_ok p 4 (by omega) (by omega) m hp).mono ?_
  rintro _ m1 ⟨x, rfl, x0, x1, hd⟩
  simp
  refine (L_take_ok p 3 (by omega) (by omega) m1 hd.pu).mono ?_
  rintro _ m2 ⟨y, rfl, y0, y1, hd2⟩
  obtain ⟨x, rfl⟩ := Int.eq_ofNat_of_zero_le x0
  obtain ⟨y, rfl⟩ := Int.eq_ofNat_of_zero_le y0
  have ey : ((c.length : Int) * (1 + (y : Int))) = ((c.length * (1 + y) : Nat) : Int) := by push_cast; rfl
  have ex : ((a.length : Int) + (x : Int)) = ((a.length + x : Nat) : Int) := by push_cast; rfl
  simp [mulOk_l (i := (c.length : Int)) (j := 1 + (y : Int)) (by omega) (by omega)]
  rw [ex, ey]
  have hq : 0 < c.length * (1 + y) ∧ c.length * (1 + y) ≤ 4 * 3 := ⟨Nat.mul_pos hc (by omega), Nat.mul_le_mul hc2 (by omega)⟩
  have ht : a.length + x ≤ 8 := by omega
  generalize eq : c.length * (1 + y) = q at hq
  generalize et : a.length + x = t at ht
  refine po_seq ?_; simp [den]
  refine ⟨small62I (by omega) (by omega), ?_⟩
  refine eq_po (lcL_range (f := fun k => .int (Rw.tell a c r k)) (fun k hk => po_eq (by simp [lcTurn, ifT, wipeE, L_at_ok a c r k m2 (by omega) (by omega) hc (by omega)])) (by unfold LIM; omega)) ?_
  have f1 : (List.range t).map (fun k => D.int (Rw.tell a c r k)) = dints (unA a c r t) := by simp [dints, unA]
  rw [f1]
  refine po_seq ?_; simp [den]
  refine ⟨small62I (by omega) (by omega), ?_⟩
  refine eq_po (lcL_range (f := fun k => .int (Rw.tell a c r (t + k))) (fun k hk => po_eq (by
    have e : ((t : Int) + (k : Int)) = ((t + k : Nat) : Int) := by push_cast; rfl
    simp [lcTurn, ifT, wipeE]
    rw [e]
    rw [L_at_ok a c r (t + k) m2 (by omega) (by omega) hc (by omega)]
    simp)) (by unfold LIM; omega)) ?_
  have f2 : (List.range q).map (fun k => D.int (Rw.tell a c r (t + k))) = dints (unC a c r t q) := by simp [dints, unC]
  rw [f2]
  refine po_seq ?_; simp [den]
  rw [show ((t : Int) + (q : Int)) = ((t + q : Nat) : Int) by push_cast; rfl]
  rw [L_at_ok a c r (t + q) m2 (by omega) (by omega) hc (by omega)]
  have hu : (unC a c r t q).length = q := by simp [unC]
  have hg : (unC a c r t q).getD 0 0 = Rw.tell a c r t := by
    obtain ⟨q', rfl⟩ : ∃ k, q = k + 1 := ⟨q - 1, by omega⟩
    simp [unC, List.range_succ_eq_map]
  have := atI_d (xs := unC a c r t q) (i := 0) (by omega) (by omega)
  rw [this]
  simp [-List.getD_eq_getElem?_getD]
  rw [hg]
  refine ⟨x, by omega, y, by omega, ?_, hd.trans hd2⟩
  rw [eq, et]
  exact ⟨rfl, rfl, rfl⟩

end
end Tx

namespace Tx
open PySem LC
variable {G : Prog} {σ : Nat → Nat} {n : Nat}
/-- a form -/
abbrev frmD (a c : List Int) (r : Int) : D := .tup [.tup (dints a), .tup (dints c), .int r]
def In40 (i : Int) : Prop := -(10 ^ 40) ≤ i ∧ i ≤ 10 ^ 40
structure Fm (a c : List Int) (r : Int) : Prop where
  la : a.length ≤ 8
  lc : 0 < c.length
  lc2 : c.length ≤ 12
  sz : ∀ x ∈ a ++ c, In40 x
  sr : In40 r
section
variable [HasD G (σ 73) (d_Row_early σ)] [HasF G "Row" "head"]
theorem Row_early_ok (h k : List Int) (s : Int) (p : Nat) (m : Sto) (hp : m[p]? = some (rowOb h k s)) : callD G (n + 1) (σ 73) [.ref p] m = .ok (.tup (dints h)) m := by
  refine po_eq ?_; refine po_callD rfl ?_; simp only [d_Row_early, f_Row_early]; simp only [List.map_cons, List.map_nil, List.length_cons, List.length_nil, List.cons_append, List.nil_append, List.replicate]
  refine po_seq ?_; simp [den, gHead hp]
end
section
variable [HasD G (σ 74) (d_Row_again σ)] [HasF G "Row" "cycle"]
theorem Row_again_ok (h k : List Int) (s : Int) (p : Nat) (m : Sto) (hp : m[p]? = some (rowOb h k s)) : callD G (n + 1) (σ 74) [.ref p] m = .ok (.tup (dints k)) m := by
  refine po_eq ?_; refine po_callD rfl ?_; simp only [d_Row_again, f_Row_again]; simp only [List.map_cons, List.map_nil, List.length_cons, List.length_nil, List.cons_append, List.nil_append, List.replicate]
  refine po_seq ?_; simp [den, gCycle hp]
end
section
variable [HasD G (σ 75) (d_Row_rise σ)] [HasF G "Row" "step"]
theorem Row_rise_ok (h k : List Int) (s : Int) (p : Nat) (m : Sto) (hp : m[p]? = some (rowOb h k s)) : callD G (n + 1) (σ 75) [.ref p] m = .ok (.int s) m := by
  refine po_eq ?_; refine po_callD rfl ?_; simp only [d_Row_rise, f_Row_rise]; simp only [List.map_cons, List.map_nil, List.length_cons, List.length_nil, List.cons_append, List.nil_append, List.replicate]
  refine po_seq ?_; simp [den, gStep hp]
end
section
variable [HasD G (σ 82) (d_L_same_told σ)] [HasD G (σ 80) (d_L_at σ)]
theorem L_same_told_ok (a c b e : List Int) (r s : Int) (m : Sto) (ha : a.length ≤ 20) (hc : 0 < c.length) (hc2 : c.length ≤ 20) (hb : b.length ≤ 20) (he : 0 < e.length) (he2 : e.length ≤ 20) :
    ∃ z : Bool, callD G (n + 2) (σ 82) [frmD a c r, frmD b e s] m = .ok (.bl z) m ∧ (z = true ↔ ∀ i, Rw.tell a c r i = Rw.tell b e s i) := by
  have hq : 0 < c.length * e.length ∧ c.length * e.length ≤ 20 * 20 := ⟨Nat.mul_pos hc he, Nat.mul_le_mul hc2 he2⟩
  let M := if b.length > a.length then b.length else a.length
  refine ⟨(List.range (M + c.length * e.length + 1)).all fun k => decide (Rw.tell a c r k = Rw.tell b e s k), ?_, ?_⟩
  · refine po_eq ?_; refine po_callD rfl ?_; simp only [d_L_same_told, f_L_same_told]; simp only [List.map_cons, List.map_nil, List.length_cons, List.length_nil, List.cons_append, List.nil_append, List.replicate]
    refine po_seq ?_; simp [den, atI, ixN, dints_len, mulOk_l (i := (c.length : Int)) (j := (e.length : Int)) (by omega) (by omega)]
    refine po_seq ?_
    have eM : ((if (b.length : Int) > a.length then (b.length : Int) else a.length) + (c.length : Int) * e.length + 1) = ((M + c.length * e.length + 1 : Nat) : Int) := by
      push_cast
      show _ = ((if b.length > a.length then b.length else a.length : Nat) : Int) + _ + 1
      split <;> split <;> omega
    have hM : M ≤ 20 := by show (if b.length > a.length then b.length else a.length) ≤ 20; split <;> omega
    simp [den]
    rw [show (if a.length < b.length then (b.length : Int) else a.length) = (if (b.length : Int) > a.length then (b.length : Int) else a.length) by split <;> split <;> omega, eM]
    refine ⟨small62I (by omega) (by omega), ?_⟩
    refine eq_po (lcL_range (f := fun j => .bl (decide (Rw.tell a c r j = Rw.tell b e s j))) (fun j hj => po_eq (by simp [lcTurn, ifT, wipeE, L_at_ok a c r j m (by omega) (by omega) hc (by omega), L_at_ok b e s j m (by omega) (by omega) he (by omega)])) (by unfold LIM; omega)) ?_
    rw [v_allF]
    simp
  · rw [List.all_eq_true]
    constructor
    · intro h i
      have ha : a.length ≤ M := by show _ ≤ (if b.length > a.length then b.length else a.length); split <;> omega
      have hb : b.length ≤ M := by show _ ≤ (if b.length > a.length then b.length else a.length); split <;> omega
      refine Rw.same_all hc he ha hb (fun j hj => ?_) i
      exact of_decide_eq_true (h j (List.mem_range.mpr (by omega)))
    · intro h j _
      exact decide_eq_true (h j)
end
section
variable [HasD G (σ 83) (d_L_is_least σ)] [HasD G (σ 80) (d_L_at σ)]
theorem L_is_least_ok (T : Nat → Int) (h k : List Int) (s : Int) (m : Sto) (L : Rw.Least T h k s) (hh : h.length ≤ 20) (hk : k.length ≤ 20) : callD G (n + 2) (σ 83) [frmD h k s] m = .ok (.bl true) m := by
  have ne := L.ne
  have tl : Rw.tell h k s = T := funext L.tell
  refine po_eq ?_; refine po_callD rfl ?_; simp only [d_L_is_least, f_L_is_least]; simp only [List.map_cons, List.map_nil, List.length_cons, List.length_nil, List.cons_append, List.nil_append, List.replicate]
  refine po_seq ?_; simp [den, atI, ixN, dints_len]
  refine po_seq ?_
  simp [den]
  refine ⟨⟨rfl, small62I (by omega) (by omega)⟩, ?_⟩
  refine forL_po (n := (rangeL 1 (k.length : Int)).length) (fun i env m' => m' = m ∧ ∃ x y z, env = [some (frmD h k s), some (.int (h.length : Int)), some (.int (k.length : Int)), x, y, z]) rfl ⟨rfl, _, _, _, rfl⟩ ?_ ?_
  · rintro i env m' d hi hd ⟨rfl, x, y, z, rfl⟩
    obtain ⟨j, hj, rfl⟩ := List.mem_map.mp (List.mem_of_getElem? hd)
    have hj := List.mem_range.mp hj
    obtain ⟨q, hq⟩ : ∃ q : Nat, q = 1 + j := ⟨_, rfl⟩
    have eq : (1 : Int) + (j : Int) = (q : Int) := by omega
    rw [eq]
    simp
    refine po_seq ?_
    simp [den]
    refine ⟨small62I (by omega) (by omega), ?_⟩
    refine eq_po (lcL_range (f := fun t => .int (T (h.length + t + q) - T (h.length + t))) (fun t ht => po_eq (by
      have e1 : ((h.length : Int) + (t : Int) + (q : Int)) = ((h.length + t + q : Nat) : Int) := by push_cast; rfl
      have e2 : ((h.length : Int) + (t : Int)) = ((h.length + t : Nat) : Int) := by push_cast; rfl
      simp [lcTurn, ifT, wipeE]
      rw [e1, e2, L_at_ok h k s _ m' (by omega) (by omega) ne (by omega)]
      simp
      rw [e2, L_at_ok h k s _ m' (by omega) (by omega) ne (by omega)]
      simp [tl])) (by unfold LIM; omega)) ?_
    have f1 : (List.range k.length).map (fun t => D.int (T (h.length + t + q) - T (h.length + t))) = dints ((List.range k.length).map fun t => T (h.length + t + q) - T (h.length + t)) := by simp [dints]
    rw [f1]
    refine po_seq ?_
    have a0 := atI_d (xs := (List.range k.length).map fun t => T (h.length + t + q) - T (h.length + t)) (i := 0) (by omega) (by simp; omega)
    have g0 : ((List.range k.length).map fun t => T (h.length + t + q) - T (h.length + t)).getD (0 : Int).toNat 0 = T (h.length + q) - T h.length := by
      rw [show (0 : Int).toNat = 0 by rfl, Rw.getD_map_range ne]; simp
    rw [g0] at a0
    have rep : ∀ v : D, opBin false .Mult (.lst [v]) (.int (k.length : Int)) m' = .ok (.lst (List.replicate k.length v)) m' := fun v => by
      show (match top m' (.lst [v]) with
        | .lst a => if decide (-(2 ^ 63) ≤ (k.length : Int) ∧ (k.length : Int) < 2 ^ 63 ∧ a.length * (k.length : Int).toNat ≤ LIM) = true then (if false then new (.lst (List.replicate (k.length : Int).toNat a).flatten) m' else .ok (.lst (List.replicate (k.length : Int).toNat a).flatten) m') else .bad
        | _ => .bad) = _
      have : (-(2 ^ 63) ≤ (k.length : Int) ∧ (k.length : Int) < 2 ^ 63 ∧ [v].length * (k.length : Int).toNat ≤ LIM) := by
        refine ⟨by omega, by omega, ?_⟩
        simp [LIM]; omega
      simp only [top, decide_eq_true this, if_true]
      simp
    have rd : ∀ v : Int, List.replicate k.length (D.int v) = dints (List.replicate k.length v) := fun v => by simp [dints]
    simp [den, a0, rep, rd, eq_ints]
    have no : ¬ ((List.range k.length).map (fun t => T (h.length + t + q) - T (h.length + t)) = List.replicate k.length (T (h.length + q) - T h.length)) := by
      intro e
      refine L.per q (T (h.length + q) - T h.length) (by omega) (by omega) ⟨h.length, fun t ht => ?_⟩
      have el : ∀ t, t < k.length → T (h.length + t + q) - T (h.length + t) = T (h.length + q) - T h.length := fun t ht => by
        have := congrArg (fun l => l.getD t 0) e
        rw [Rw.getD_map_range ht] at this
        rw [this]
        simp [List.getD, ht]
      have p1 : ∀ u j, h.length ≤ u → T (u + k.length * j) = T u + j * s := fun u j hu => by rw [← tl]; exact Rw.tell_per ne hu j
      have dm := Nat.div_add_mod (t - h.length) k.length
      have h1 := p1 (h.length + (t - h.length) % k.length) ((t - h.length) / k.length) (by omega)
      have h2 := p1 (h.length + (t - h.length) % k.length + q) ((t - h.length) / k.length) (by omega)
      have h3 := el _ (Nat.mod_lt (t - h.length) ne)
      rw [show h.length + (t - h.length) % k.length + k.length * ((t - h.length) / k.length) = t by omega] at h1
      rw [show h.length + (t - h.length) % k.length + q + k.length * ((t - h.length) / k.length) = t + q by omega] at h2
      omega
    simp [no]
  · rintro env m' ⟨rfl, x, y, z, rfl⟩
    simp
    refine po_seq ?_
    simp [den]
    split
    · refine po_seq ?_; simp [den]
    · rename_i h0
      refine po_seq ?_
      have hpos : 0 < h.length := by cases h with | nil => simp at h0 | cons _ _ => simp
      have e1 : ((h.length : Int) - 1 + (k.length : Int)) = ((h.length - 1 + k.length : Nat) : Int) := by omega
      have e2 : ((h.length : Int) - 1) = ((h.length - 1 : Nat) : Int) := by omega
      simp [den]
      rw [e1, e2, L_at_ok h k s _ m' (by omega) (by omega) ne (by omega)]
      rw [v_ok, L_at_ok h k s _ m' (by omega) (by omega) ne (by omega)]
      simp [atI, ixN, tl]
      rcases L.pre with z | z
      · omega
      · omega
end
theorem tell_bd {a c : List Int} {r : Int} {B : Int} (hc : 0 < c.length) (h : ∀ x ∈ a ++ c, -B ≤ x ∧ x ≤ B) (hr : -B ≤ r ∧ r ≤ B) (n : Nat) : -((n + 1 : Nat) * B) ≤ Rw.tell a c r n ∧ Rw.tell a c r n ≤ (n + 1 : Nat) * B := by
  have hB : 0 ≤ B := by omega
  have nB : 0 ≤ (n : Int) * B := Int.mul_nonneg (by omega) hB
  have e : ((n + 1 : Nat) : Int) * B = n * B + B := by push_cast; rw [Int.add_mul, Int.one_mul]
  rw [e]
  unfold Rw.tell
  by_cases hl : n < a.length
  · rw [if_pos hl]
    have := h _ (List.mem_append_left c (Rw.getD_mem hl))
    omega
  · rw [if_neg hl]
    have h1 := h _ (List.mem_append_right a (Rw.getD_mem (Nat.mod_lt (n - a.length) hc)))
    have hq : (n - a.length) / c.length ≤ n := Nat.le_trans (Nat.div_le_self _ _) (Nat.sub_le _ _)
    generalize (n - a.length) / c.length = q at hq
    have u : (q : Int) * r ≤ n * B := Int.le_trans (Int.mul_le_mul_of_nonneg_left hr.2 (by omega)) (Int.mul_le_mul_of_nonneg_right (by omega) hB)
    have l : -((n : Int) * B) ≤ q * r := by
      have : (q : Int) * (-r) ≤ n * B := Int.le_trans (Int.mul_le_mul_of_nonneg_left (show -r ≤ B by omega) (by omega)) (Int.mul_le_mul_of_nonneg_right (by omega) hB)
      rw [Int.mul_neg] at this
      omega
    generalize (q : Int) * r = z at u l ⊢
    generalize (n : Int) * B = w at u l ⊢
    omega
/-- what a form of a moderate size tells early is moderate -/
theorem tell_big {a c : List Int} {r : Int} (F : Fm a c r) {n : Nat} (hn : n ≤ 40) : big (Rw.tell a c r n) := by
  have := tell_bd (B := 10 ^ 40) F.lc F.sz F.sr n
  unfold big
  have h : ((n + 1 : Nat) : Int) * 10 ^ 40 ≤ 41 * 10 ^ 40 := Int.mul_le_mul_of_nonneg_right (by omega) (by omega)
  omega
section
variable [HasD G (σ 72) (d_Row_init σ)] [HasF G "Row" "head"] [HasF G "Row" "cycle"] [HasF G "Row" "step"] [HasD G (σ 70) (d_check_integers σ)] [HasD G (σ 71) (d_goes_on σ)]
  [HasD G (σ 3) (d_is_integer σ)] [HasI G "Row" (σ 72)]
include σ
theorem mkRow_ok (hW : 2000 ≤ G.W) (a c : List Int) (r : Int) (m : Sto) (hc : 0 < c.length) (hz : c.length ≤ 1000) (ha : a.length ≤ 1000) :
    Po (opMk (phi G (n + 4)) "Row" [.tup (dints a), .tup (dints c), .int r] m) fun v m' => v = .ref m.length ∧ ∃ h k s, Rw.Least (Rw.tell a c r) h k s ∧ h.length ≤ a.length ∧ k.length ≤ c.length ∧ m' = m ++ [rowOb h k s] := by
  refine mk_new (k := (σ 72)) ?_
  refine (Row_init_ok (σ := σ) hW a c r m.length (m ++ [.ins "Row" []]) (by simp) hc hz ha).mono ?_
  rintro _ m5 ⟨rfl, h, k, s, R, rfl⟩
  refine ⟨rfl, rfl, h, k, s, Rw.least_of hc R.ne R.tell R.mp R.ml, R.hl, R.kl, by simp⟩
end
theorem rep_form {h k : List Int} {s : Int} {m : Sto} (bh : ∀ x ∈ h ++ k, big x) (bs : big s) (lh : h.length ≤ 20) (lk : k.length ≤ 20) :
    (top m (frmD h k s)).py = some (.tuple [.tuple (h.map .int), .tuple (k.map .int), .int s]) ∧ tel (.tuple [.tuple (h.map .int), .tuple (k.map .int), .int s]) = true ∧ (PyData.tuple [.tuple (h.map .int), .tuple (k.map .int), .int s]).depth ≤ 64 ∧
      wt (.tuple [.tuple (h.map .int), .tuple (k.map .int), .int s]) ≤ LIM ∧ rs (.tuple [.tuple (h.map .int), .tuple (k.map .int), .int s]) = true := by
  refine ⟨?_, ?_, ?_, ?_, ?_⟩
  · show D.py (frmD h k s) = _
    rw [py_tup, pys_cons (by rw [py_tup, pys_ints]; rfl) (pys_cons (by rw [py_tup, pys_ints]; rfl) (pys_cons (py_int) pys_nil))]
    rfl
  · simp only [tel, tels, tels_ints fun x hx => bh x (List.mem_append_left _ hx), tels_ints fun x hx => bh x (List.mem_append_right _ hx)]
    have := tel_big bs
    simp only [tel] at this
    simp [this]
  · simp only [PyData.depth, PyData.depthAll]
    have h1 := depths_ints h
    have h2 := depths_ints k
    omega
  · simp only [wt, wts, wts_ints, LIM]
    omega
  · simp [rs, rss, rss_ints]
theorem least_big {a c h k : List Int} {r s : Int} (F : Fm a c r) (L : Rw.Least (Rw.tell a c r) h k s) (lh : h.length ≤ a.length) (lk : k.length ≤ c.length) : (∀ x ∈ h ++ k, big x) ∧ big s := by
  have la := F.la
  have lc2 := F.lc2
  have ne := L.ne
  have ex : ∀ n, n < h.length + k.length → (h ++ k).getD n 0 = Rw.tell a c r n := fun n hn => by
    rw [← L.tell]
    unfold Rw.tell
    by_cases hl : n < h.length
    · rw [if_pos hl, Rw.getD_app_l hl]
    · rw [if_neg hl, Rw.getD_app_r (by omega), Nat.mod_eq_of_lt (by omega), Nat.div_eq_of_lt (by omega)]; simp
  refine ⟨fun x hx => ?_, ?_⟩
  · obtain ⟨n, hn, rfl⟩ := List.mem_iff_getElem.mp hx
    rw [List.length_append] at hn
    have := ex n hn
    rw [show (h ++ k)[n] = (h ++ k).getD n 0 by simp [List.getD, List.getElem?_eq_getElem (show n < (h ++ k).length by rw [List.length_append]; exact hn)], this]
    exact tell_big F (by omega)
  · have h1 := Rw.tell_per (r := s) ne (Nat.le_refl h.length) 1
    rw [L.tell, L.tell] at h1
    have b1 := tell_bd (B := 10 ^ 40) F.lc F.sz F.sr (h.length + k.length * 1)
    have b2 := tell_bd (B := 10 ^ 40) F.lc F.sz F.sr h.length
    have u1 : ((h.length + k.length * 1 + 1 : Nat) : Int) * 10 ^ 40 ≤ 41 * 10 ^ 40 := Int.mul_le_mul_of_nonneg_right (by omega) (by omega)
    have u2 : ((h.length + 1 : Nat) : Int) * 10 ^ 40 ≤ 41 * 10 ^ 40 := Int.mul_le_mul_of_nonneg_right (by omega) (by omega)
    unfold big
    generalize Rw.tell a c r (h.length + k.length * 1) = z at *
    generalize Rw.tell a c r h.length = y at *
    omega
section
variable [HasD G (σ 85) (d_L_shown σ)] [HasI G "Row" (σ 72)] [HasP G "Row" "early" (σ 73)] [HasP G "Row" "again" (σ 74)] [HasP G "Row" "rise" (σ 75)] [HasD G (σ 83) (d_L_is_least σ)]
  [HasD G (σ 82) (d_L_same_told σ)] [HasD G (σ 72) (d_Row_init σ)] [HasF G "Row" "head"] [HasF G "Row" "cycle"] [HasF G "Row" "step"] [HasD G (σ 73) (d_Row_early σ)]
  [HasD G (σ 74) (d_Row_again σ)] [HasD G (σ 75) (d_Row_rise σ)] [HasD G (σ 80) (d_L_at σ)] [HasD G (σ 70) (d_check_integers σ)] [HasD G (σ 71) (d_goes_on σ)] [HasD G (σ 3) (d_is_integer σ)]
theorem L_shown_ok (hW : 2000 ≤ G.W) (a c : List Int) (r : Int) (F : Fm a c r) (m : Sto) :
    Po (callD G (n + 5) (σ 85) [frmD a c r] m) fun v m' => ∃ h k s, v = frmD h k s ∧ Rw.Least (Rw.tell a c r) h k s ∧ h.length ≤ a.length ∧ k.length ≤ c.length ∧ Kept m m' := by
  have la := F.la
  have lc := F.lc
  have lc2 := F.lc2
  refine po_callD rfl ?_; simp only [d_L_shown, f_L_shown]; simp only [List.map_cons, List.map_nil, List.length_cons, List.length_nil, List.cons_append, List.nil_append, List.replicate]
  refine po_seq ?_
  simp [den, atI, ixN]
  refine (mkRow_ok (σ := σ) (n := n) hW a c r m lc (by omega) (by omega)).mono ?_
  rintro _ m1 ⟨rfl, h, k, s, L, lh, lk, rfl⟩
  have hp : (m ++ [rowOb h k s])[m.length]? = some (rowOb h k s) := by simp
  have K1 : Kept m (m ++ [rowOb h k s]) := Kept.new
  generalize m ++ [rowOb h k s] = m1 at hp K1 ⊢
  have g1 : opAt (phi G (n + 4)) "early" (.ref m.length) m1 = .ok (.tup (dints h)) m1 := (at_prop hp).trans (Row_early_ok h k s _ m1 hp)
  have g2 : opAt (phi G (n + 4)) "again" (.ref m.length) m1 = .ok (.tup (dints k)) m1 := (at_prop hp).trans (Row_again_ok h k s _ m1 hp)
  have g3 : opAt (phi G (n + 4)) "rise" (.ref m.length) m1 = .ok (.int s) m1 := (at_prop hp).trans (Row_rise_ok h k s _ m1 hp)
  refine po_seq ?_; simp [den, g1, g2, g3]
  have ne := L.ne
  obtain ⟨z, e1, e2⟩ := L_same_told_ok (G := G) (σ := σ) (n := n + 2) a c h k r s m1 (by omega) lc (by omega) (by omega) ne (by omega)
  have zt : z = true := e2.mpr fun i => (L.tell i).symm
  subst zt
  have e3 := L_is_least_ok (G := G) (σ := σ) (n := n + 2) _ h k s m1 L (by omega) (by omega)
  refine po_seq ?_; simp [den, atI, ixN]
  refine po_seq ?_; simp [den, atI, ixN, dints_len, show 1 ≤ (k.length : Int) by omega, show (k.length : Int) ≤ c.length by omega]
  refine po_seq ?_; simp [den, atI, ixN, dints_len, e1, e3, show ¬ ((a.length : Int) < h.length) by omega]
  refine po_seq ?_
  simp [den, atI, ixN]
  refine (mkRow_ok (σ := σ) (n := n) hW h k s m1 ne (by omega) (by omega)).mono ?_
  rintro _ m2 ⟨rfl, h2, k2, s2, L2, lh2, lk2, rfl⟩
  have hp2 : (m1 ++ [rowOb h2 k2 s2])[m1.length]? = some (rowOb h2 k2 s2) := by simp
  have K2 : Kept m (m1 ++ [rowOb h2 k2 s2]) := K1.trans Kept.new
  generalize m1 ++ [rowOb h2 k2 s2] = m2 at hp2 K2 ⊢
  have tl : Rw.tell h k s = Rw.tell a c r := funext L.tell
  rw [tl] at L2
  obtain ⟨rfl, rfl, rfl⟩ := L2.uniq L
  have g1 : opAt (phi G (n + 4)) "early" (.ref m1.length) m2 = .ok (.tup (dints h2)) m2 := (at_prop hp2).trans (Row_early_ok h2 k2 s2 _ m2 hp2)
  have g2 : opAt (phi G (n + 4)) "again" (.ref m1.length) m2 = .ok (.tup (dints k2)) m2 := (at_prop hp2).trans (Row_again_ok h2 k2 s2 _ m2 hp2)
  have g3 : opAt (phi G (n + 4)) "rise" (.ref m1.length) m2 = .ok (.int s2) m2 := (at_prop hp2).trans (Row_rise_ok h2 k2 s2 _ m2 hp2)
  obtain ⟨bh, bs⟩ := least_big F L lh lk
  obtain ⟨q1, q2, q3, q4, q5⟩ := rep_form (m := m2) bh bs (by omega) (by omega)
  refine po_seq ?_
  simp [den, g1, g2, g3]
  refine repr_eq q1 q2 q3 q4 q5 ?_
  simp
  exact ⟨h2, k2, s2, ⟨rfl, rfl, rfl⟩, L, lh, lk, K2⟩
end
theorem cut_drop {α : Type} {xs : List α} {s : Nat} : cut xs (some (s : Int)) none = xs.drop s := by
  unfold cut
  have h : sIx xs.length 0 (some (s : Int)) = min s xs.length := by
    show (if (s : Int) < 0 then ((s : Int) + (xs.length : Int)).toNat else min (s : Int).toNat xs.length) = _
    rw [if_neg (by omega), Int.toNat_natCast]
  rw [h]
  show (xs.drop (min s xs.length)).take (xs.length - min s xs.length) = _
  by_cases q : s ≤ xs.length
  · rw [Nat.min_eq_left q, List.take_of_length_le (by simp)]
  · rw [Nat.min_eq_right (by omega), List.drop_of_length_le (by omega), List.drop_of_length_le (by omega)]; simp
theorem dints_drop {xs : List Int} {k : Nat} : (dints xs).drop k = dints (xs.drop k) := by simp [dints, List.map_drop]
theorem dints_set {xs : List Int} {t : Nat} {v : Int} (ht : t < xs.length) : (dints xs).take t ++ ([D.int v] ++ (dints xs).drop (t + 1)) = dints (xs.set t v) := by
  rw [List.set_eq_take_append_cons_drop, if_pos ht]
  simp [dints, List.map_take, List.map_drop]
theorem set_sz {xs : List Int} {t : Nat} {B C v : Int} (ht : t < xs.length) (h : ∀ x ∈ xs, -B ≤ x ∧ x ≤ B) (hv : -C ≤ v ∧ v ≤ C) (hC : 0 ≤ C) : ∀ x ∈ xs.set t (xs.getD t 0 + v), -(B + C) ≤ x ∧ x ≤ B + C := by
  intro x hx
  rcases List.mem_or_eq_of_mem_set hx with h1 | h1
  · have := h x h1; omega
  · have := h _ (Rw.getD_mem ht); omega
section
variable [HasD G (σ 84) (d_L_bent_form σ)] [HasD G (σ 22) (d_L_take σ)]
theorem L_bent_form_ok (a c : List Int) (r : Int) (p : Nat) (m : Sto) (hp : Purse p m) (la : a.length ≤ 20) (lc2 : c.length ≤ 20) (sa : ∀ x ∈ a, -(10 ^ 39) ≤ x ∧ x ≤ 10 ^ 39) (sc : ∀ x ∈ c, -(10 ^ 39) ≤ x ∧ x ≤ 10 ^ 39) (sr : -(10 ^ 39) ≤ r ∧ r ≤ 10 ^ 39) :
    Po (callD G (n + 2) (σ 84) [.ref p, frmD a c r] m) fun v m' => ∃ a' c' r', v = frmD a' c' r' ∧ a'.length = a.length ∧ c'.length = c.length ∧ (∀ x ∈ a', In40 x) ∧ (∀ x ∈ c', In40 x) ∧ In40 r' ∧ Drawn p m m' := by
  have wide : ∀ {xs : List Int}, (∀ x ∈ xs, -(10 ^ 39) ≤ x ∧ x ≤ 10 ^ 39) → ∀ x ∈ xs, In40 x := fun h x hx => by have := h x hx; unfold In40; omega
  refine po_callD rfl ?_; simp only [d_L_bent_form, f_L_bent_form]; simp only [List.map_cons, List.map_nil, List.length_cons, List.length_nil, List.cons_append, List.nil_append, List.replicate]
  refine po_seq ?_; simp [den]
  refine po_seq ?_
  simp [den, dints_len]
  refine (L_take_ok (σ := σ) p ((a.length : Int) + c.length + 1) (by omega) (by omega) m hp).mono ?_
  rintro _ m1 ⟨t, rfl, t0, t1, hd1⟩
  refine po_seq ?_
  simp [den]
  refine (L_take_ok (σ := σ) p 4 (by omega) (by omega) m1 hd1.pu).mono ?_
  rintro _ m2 ⟨w, rfl, w0, w1, hd2⟩
  obtain ⟨v, hv, hv1⟩ : ∃ v : Int, atI [D.int 1, D.int (-1), D.int 2, D.int 100000000000000000000] w = some (.int v) ∧ (-(10 ^ 20) ≤ v ∧ v ≤ 10 ^ 20) := by
    have hr : w = 0 ∨ w = 1 ∨ w = 2 ∨ w = 3 := by omega
    rcases hr with rfl | rfl | rfl | rfl
    · exact ⟨1, rfl, by omega⟩
    · exact ⟨-1, rfl, by omega⟩
    · exact ⟨2, rfl, by omega⟩
    · exact ⟨100000000000000000000, rfl, by omega⟩
  simp [hv]
  obtain ⟨t, rfl⟩ := Int.eq_ofNat_of_zero_le t0
  have hd := hd1.trans hd2
  have e1 : ((t : Int) + 1) = ((t + 1 : Nat) : Int) := by push_cast; rfl
  have szA : ∀ {xs : List Int} {t : Nat}, t < xs.length → (∀ x ∈ xs, -(10 ^ 39) ≤ x ∧ x ≤ 10 ^ 39) → ∀ x ∈ xs.set t (xs.getD t 0 + v), In40 x := fun ht h x hx => by
    have := set_sz ht h hv1 (by omega) x hx
    unfold In40; omega
  refine po_seq ?_
  simp [den, dints_len]
  split
  · rename_i hlt
    refine po_seq ?_
    simp [den, dints_len]
    rw [cut_take, atI_d (by omega) (by omega), e1, cut_drop]
    simp [-List.getD_eq_getElem?_getD, dints_len]
    have hlt2 : t < a.length := by omega
    have ds : List.take t (dints a) ++ D.int (a.getD t 0 + v) :: List.drop (t + 1) (dints a) = dints (a.set t (a.getD t 0 + v)) := dints_set hlt2
    rw [ds]
    refine ⟨by unfold LIM; omega, by unfold LIM; omega, a.set t (a.getD t 0 + v), c, r, ⟨rfl, rfl, rfl⟩, by simp, rfl, szA hlt2 sa, wide sc, by unfold In40; omega, hd⟩
  · rename_i hlt
    obtain ⟨u, hu⟩ : ∃ u : Nat, t = a.length + u := ⟨t - a.length, by omega⟩
    have e2 : ((t : Int) - a.length) = (u : Int) := by omega
    refine po_seq ?_; simp [den, dints_len]
    refine po_seq ?_
    simp [den, dints_len]
    split
    · rename_i hlt3
      refine po_seq ?_
      simp [den, dints_len]
      rw [e2, cut_take, atI_d (by omega) (by omega), show ((u : Int) + 1) = ((u + 1 : Nat) : Int) by push_cast; rfl, cut_drop]
      simp [-List.getD_eq_getElem?_getD, dints_len]
      have hlt2 : u < c.length := by omega
      have ds : List.take u (dints c) ++ D.int (c.getD u 0 + v) :: List.drop (u + 1) (dints c) = dints (c.set u (c.getD u 0 + v)) := dints_set hlt2
      rw [ds]
      refine ⟨by unfold LIM; omega, by unfold LIM; omega, a, c.set u (c.getD u 0 + v), r, ⟨rfl, rfl, rfl⟩, rfl, by simp, wide sa, szA hlt2 sc, by unfold In40; omega, hd⟩
    · refine po_seq ?_
      simp [den]
      exact ⟨a, c, r + v, ⟨rfl, rfl, rfl⟩, rfl, rfl, wide sa, wide sc, by unfold In40; omega, hd⟩
end
section
variable [HasD G (σ 31) (d_L_right_k17 σ)] [HasD G (σ 84) (d_L_bent_form σ)] [HasD G (σ 79) (d_L_form σ)] [HasD G (σ 85) (d_L_shown σ)] [HasI G "Row" (σ 72)] [HasP G "Row" "early" (σ 73)]
  [HasP G "Row" "again" (σ 74)] [HasP G "Row" "rise" (σ 75)] [HasD G (σ 81) (d_L_unrolled σ)] [HasD G (σ 22) (d_L_take σ)] [HasD G (σ 78) (d_L_int σ)] [HasD G (σ 83) (d_L_is_least σ)]
  [HasD G (σ 82) (d_L_same_told σ)] [HasD G (σ 72) (d_Row_init σ)] [HasF G "Row" "head"] [HasF G "Row" "cycle"] [HasF G "Row" "step"] [HasD G (σ 73) (d_Row_early σ)]
  [HasD G (σ 74) (d_Row_again σ)] [HasD G (σ 75) (d_Row_rise σ)] [HasD G (σ 80) (d_L_at σ)] [HasD G (σ 70) (d_check_integers σ)] [HasD G (σ 71) (d_goes_on σ)] [HasD G (σ 3) (d_is_integer σ)]
theorem L_right_k17_ok (hW : 2000 ≤ G.W) (p : Nat) (m : Sto) (hp : Purse p m) : Po (callD G (n + 6) (σ 31) [.ref p] m) fun v m' => v = .bl true := by
  refine po_callD rfl ?_; simp only [d_L_right_k17, f_L_right_k17]; simp only [List.map_cons, List.map_nil, List.length_cons, List.length_nil, List.cons_append, List.nil_append, List.replicate]
  refine po_seq ?_
  simp [den]
  refine ⟨rfl, ?_⟩
  refine forL_po (fun i env m' => Purse p m' ∧ ∃ x1 x2 x3 x4, env = [some (.ref p), x1, x2, x3, x4]) rfl ⟨hp, _, _, _, _, rfl⟩ ?_ ?_
  · rintro i env m1 d hi hd ⟨hp1, x1, x2, x3, x4, rfl⟩
    simp
    refine po_seq ?_
    simp [den]
    refine (L_form_ok (σ := σ) p m1 hp1).mono ?_
    rintro _ m2 ⟨a, c, r, rfl, la, lc, lc2, sa, sc, sr, hd2⟩
    have sr := sr r (by simp)
    have sa := fun x hx => sa x hx
    have sc := fun x hx => sc x hx
    refine po_seq ?_
    simp [den]
    refine (L_unrolled_ok (σ := σ) a c r p m2 hd2.pu la (by omega) lc2).mono ?_
    rintro _ m3 ⟨x, y, hx, hy, rfl, hd3⟩
    have lc : 0 < c.length := by omega
    have hq : 0 < c.length * (1 + y) ∧ c.length * (1 + y) ≤ 4 * 3 := ⟨Nat.mul_pos lc (by omega), Nat.mul_le_mul lc2 (by omega)⟩
    have ri := Rw.rise_unrolled (a := a) (r := r) lc (x := x) (y := y)
    have tu := Rw.tell_unrolled (a := a) (r := r) lc (x := x) (y := y)
    have lA : (unA a c r (a.length + x)).length = a.length + x := by simp [unA]
    have lC : (unC a c r (a.length + x) (c.length * (1 + y))).length = c.length * (1 + y) := by simp [unC]
    have bd : ∀ j, j ≤ 30 → -(10 ^ 39) ≤ Rw.tell a c r j ∧ Rw.tell a c r j ≤ 10 ^ 39 := fun j hj => by
      have := tell_bd (B := 10 ^ 30) lc (fun x hx => by rcases List.mem_append.mp hx with h | h; exact sa x h; exact sc x h) sr j
      have h : ((j + 1 : Nat) : Int) * 10 ^ 30 ≤ 41 * 10 ^ 30 := Int.mul_le_mul_of_nonneg_right (by omega) (by omega)
      omega
    have sA : ∀ z ∈ unA a c r (a.length + x), -(10 ^ 39) ≤ z ∧ z ≤ 10 ^ 39 := fun z hz => by
      obtain ⟨j, hj, rfl⟩ := List.mem_map.mp hz
      have := List.mem_range.mp hj
      exact bd j (by omega)
    have sC : ∀ z ∈ unC a c r (a.length + x) (c.length * (1 + y)), -(10 ^ 39) ≤ z ∧ z ≤ 10 ^ 39 := fun z hz => by
      obtain ⟨j, hj, rfl⟩ := List.mem_map.mp hz
      have := List.mem_range.mp hj
      exact bd _ (by omega)
    have sR : -(10 ^ 39) ≤ Rw.tell a c r (a.length + x + c.length * (1 + y)) - Rw.tell a c r (a.length + x) ∧ Rw.tell a c r (a.length + x + c.length * (1 + y)) - Rw.tell a c r (a.length + x) ≤ 10 ^ 39 := by
      have y3 : (1 + y : Nat) = 1 ∨ (1 + y : Nat) = 2 ∨ (1 + y : Nat) = 3 := by omega
      rw [ri]; rcases y3 with e | e | e <;> rw [e] <;> omega
    have tu : Rw.tell (unA a c r (a.length + x)) (unC a c r (a.length + x) (c.length * (1 + y))) (Rw.tell a c r (a.length + x + c.length * (1 + y)) - Rw.tell a c r (a.length + x)) = Rw.tell a c r := funext tu
    generalize Rw.tell a c r (a.length + x + c.length * (1 + y)) - Rw.tell a c r (a.length + x) = R at tu sR ⊢
    generalize unA a c r (a.length + x) = A at tu sA lA ⊢
    generalize unC a c r (a.length + x) (c.length * (1 + y)) = C at tu sC lC ⊢
    have F1 : Fm a c r := ⟨by omega, lc, by omega, fun z hz => by rcases List.mem_append.mp hz with h | h; (have := sa z h; unfold In40; omega); (have := sc z h; unfold In40; omega), by unfold In40; omega⟩
    have F2 : Fm A C R := ⟨by omega, by omega, by omega, fun z hz => by rcases List.mem_append.mp hz with h | h; (have := sA z h; unfold In40; omega); (have := sC z h; unfold In40; omega), by unfold In40; omega⟩
    refine po_seq ?_
    simp [den]
    refine (L_shown_ok (σ := σ) hW a c r F1 m3).mono ?_
    rintro _ m4 ⟨h, k, s, rfl, L1, lh, lk, K4⟩
    refine po_seq ?_
    simp [den]
    refine (L_shown_ok (σ := σ) hW A C R F2 m4).mono ?_
    rintro _ m5 ⟨h2, k2, s2, rfl, L2, lh2, lk2, K5⟩
    rw [tu] at L2
    obtain ⟨rfl, rfl, rfl⟩ := L2.uniq L1
    obtain ⟨bh, bs⟩ := least_big F1 L1 lh lk
    obtain ⟨q1, q2, q3, q4, q5⟩ := rep_form (m := m5) bh bs (by omega) (by omega)
    rw [repr_ok q1 q2 q3 q4]
    simp
    rw [repr_ok q1 q2 q3 q4]
    simp [neS (okS_shown _ q5) (okS_shown _ q5)]
    have hp5 : Purse p m5 := K5.purse (K4.purse hd3.pu)
    refine po_seq ?_
    simp [den]
    refine (L_bent_form_ok (σ := σ) A C R p m5 hp5 (by omega) (by omega) sA sC sR).mono ?_
    rintro _ m6 ⟨A', C', R', rfl, lA', lC', sA', sC', sR', hd6⟩
    have F3 : Fm A' C' R' := ⟨by omega, by omega, by omega, fun z hz => by rcases List.mem_append.mp hz with h | h; exact sA' z h; exact sC' z h, sR'⟩
    refine (L_shown_ok (σ := σ) hW A' C' R' F3 m6).mono ?_
    rintro _ m7 ⟨h3, k3, s3, rfl, L3, lh3, lk3, K7⟩
    simp [den]
    exact K7.purse hd6.pu
  · rintro env m1 ⟨hp1, x1, x2, x3, x4, rfl⟩
    simp
    refine po_seq ?_
    simp [den]
end
/-- what makes a written form the least one of another written one -/
def lchk (a c : List Int) (r : Int) (h k : List Int) (s : Int) : Bool :=
  decide (0 < c.length) && decide (0 < k.length) && ((List.range (max a.length h.length + c.length * k.length + 1)).all fun n => decide (Rw.tell a c r n = Rw.tell h k s n)) &&
    ((List.range k.length).all fun q => decide (q = 0) || !decide (c.length % q = 0) || !Rw.gon c r q) && (decide (h.length = 0) || !decide (h.getD (h.length - 1) 0 = k.getD (k.length - 1) 0 - s))
theorem least_chk {a c h k : List Int} {r s : Int} (e : lchk a c r h k s = true) : Rw.Least (Rw.tell a c r) h k s := by
  unfold lchk at e
  simp only [Bool.and_eq_true, Bool.or_eq_true, decide_eq_true_eq, List.all_eq_true, Bool.not_eq_true', decide_eq_false_iff_not] at e
  obtain ⟨⟨⟨⟨h1, h2⟩, h3⟩, h4⟩, h5⟩ := e
  refine Rw.least_of h1 h2 (fun n => (Rw.same_all h1 h2 (Nat.le_max_left _ _) (Nat.le_max_right _ _) (fun n hn => h3 n (List.mem_range.mpr (by omega))) n).symm) (fun q q0 q1 qd => ?_) h5
  rcases h4 q (List.mem_range.mpr q1) with (h | h) | h
  · omega
  · exact absurd (Nat.mod_eq_zero_of_dvd qd) h
  · exact h
section
variable [HasD G (σ 2) (d_L_law_k17 σ)] [HasI G "Row" (σ 72)] [HasP G "Row" "early" (σ 73)] [HasP G "Row" "again" (σ 74)] [HasP G "Row" "rise" (σ 75)] [HasD G (σ 0) (d_L_cell σ)]
  [HasD G (σ 1) (d_L_purse σ)] [HasD G (σ 31) (d_L_right_k17 σ)] [HasD G (σ 72) (d_Row_init σ)] [HasF G "Row" "head"] [HasF G "Row" "cycle"] [HasF G "Row" "step"]
  [HasD G (σ 73) (d_Row_early σ)] [HasD G (σ 74) (d_Row_again σ)] [HasD G (σ 75) (d_Row_rise σ)] [HasD G (σ 84) (d_L_bent_form σ)] [HasD G (σ 79) (d_L_form σ)] [HasD G (σ 85) (d_L_shown σ)]
  [HasD G (σ 81) (d_L_unrolled σ)] [HasD G (σ 70) (d_check_integers σ)] [HasD G (σ 71) (d_goes_on σ)] [HasD G (σ 3) (d_is_integer σ)] [HasD G (σ 22) (d_L_take σ)] [HasD G (σ 78) (d_L_int σ)]
  [HasD G (σ 83) (d_L_is_least σ)] [HasD G (σ 82) (d_L_same_told σ)] [HasD G (σ 80) (d_L_at σ)]
theorem L_law_k17_ok (hW : 2000 ≤ G.W) (ns : List Int) (hl : ns.length ≤ 63) : Po (callD G (n + 7) (σ 2) [.scr ns] []) fun v m' => v = .bl true := by
  refine po_callD rfl ?_; simp only [d_L_law_k17, f_L_law_k17]; simp only [List.map_cons, List.map_nil, List.length_cons, List.length_nil, List.cons_append, List.nil_append, List.replicate]
  refine po_seq ?_
  simp [den]
  have d1 : ∀ l : List Int, (l.map D.int) = dints l := fun _ => rfl
  have mk : ∀ (a c : List Int) (r : Int) (h k : List Int) (s : Int) (m : Sto) (F : D → Sto → Prop), c.length ≤ 1000 → a.length ≤ 1000 → lchk a c r h k s = true → F (.ref m.length) (m ++ [rowOb h k s]) →
      Po (opMk (phi G (n + 6)) "Row" [.tup (dints a), .tup (dints c), .int r] m) F := fun a c r h k s m F hz ha e q => by
    have L := least_chk e
    unfold lchk at e
    simp only [Bool.and_eq_true, decide_eq_true_eq] at e
    refine (mkRow_ok (σ := σ) hW a c r m e.1.1.1.1 hz ha).mono ?_
    rintro _ m2 ⟨rfl, h', k', s', L', _, _, rfl⟩
    obtain ⟨rfl, rfl, rfl⟩ := L'.uniq L
    exact q
  refine mk [0, 0, 1] [1, 2, 2, 3] 2 [] [0, 0] 1 [] _ (by decide) (by decide) (by decide +kernel) ?_
  refine mk [5, 3] [1, -1] (-4) [] [5] (-2) _ _ (by decide) (by decide) (by decide +kernel) ?_
  refine mk [] [7, 7] 0 [] [7] 0 _ _ (by decide) (by decide) (by decide +kernel) ?_
  refine mk [1] [1, 1, 2] 1 [] [1, 1, 1] 1 _ _ (by decide) (by decide) (by decide +kernel) ?_
  simp
  generalize hm : [rowOb [] [0, 0] 1, rowOb [] [5] (-2), rowOb [] [7] 0, rowOb [] [1, 1, 1] 1] = m
  have g : ∀ (p : Nat) (h k : List Int) (s : Int), m[p]? = some (rowOb h k s) → opAt (phi G (n + 6)) "early" (.ref p) m = .ok (.tup (dints h)) m ∧ opAt (phi G (n + 6)) "again" (.ref p) m = .ok (.tup (dints k)) m ∧ opAt (phi G (n + 6)) "rise" (.ref p) m = .ok (.int s) m :=
    fun p h k s hp => ⟨(at_prop hp).trans (Row_early_ok h k s _ m hp), (at_prop hp).trans (Row_again_ok h k s _ m hp), (at_prop hp).trans (Row_rise_ok h k s _ m hp)⟩
  obtain ⟨a0, b0, c0⟩ := g 0 [] [0, 0] 1 (by rw [← hm]; rfl)
  obtain ⟨a1, b1, c1⟩ := g 1 [] [5] (-2) (by rw [← hm]; rfl)
  obtain ⟨a2, b2, c2⟩ := g 2 [] [7] 0 (by rw [← hm]; rfl)
  obtain ⟨a3, b3, c3⟩ := g 3 [] [1, 1, 1] 1 (by rw [← hm]; rfl)
  have a0 : opAt (phi G (n + 6)) "early" (.ref 0) m = .ok (.tup []) m := a0
  refine po_seq ?_
  simp [den]
  refine eq_po (lcL_map (acc := []) (g := fun d => match d with | .ref 0 => frmD [] [0, 0] 1 | .ref 1 => frmD [] [5] (-2) | .ref 2 => frmD [] [7] 0 | .ref 3 => frmD [] [1, 1, 1] 1 | _ => .non) (fun d hd => po_eq ?_) (by decide)) ?_
  · simp only [List.mem_cons, List.not_mem_nil, or_false] at hd
    rcases hd with rfl | rfl | rfl | rfl
    · simp [lcTurn, ifT, wipeE, a0, b0, c0]; rfl
    · simp [lcTurn, ifT, wipeE, a1, b1, c1]
    · simp [lcTurn, ifT, wipeE, a2, b2, c2]
    · simp [lcTurn, ifT, wipeE, a3, b3, c3]
  simp
  have rp := repr_ok (P := phi G (n + 6)) (d := .lst [frmD [] [0, 0] 1, frmD [] [5] (-2), frmD [] [7] 0, frmD [] [1, 1, 1] 1]) (m := m) (a := .list [.tuple [.tuple [], .tuple [.int 0, .int 0], .int 1], .tuple [.tuple [], .tuple [.int 5], .int (-2)], .tuple [.tuple [], .tuple [.int 7], .int 0], .tuple [.tuple [], .tuple [.int 1, .int 1, .int 1], .int 1]])
    (show D.py (.lst [frmD [] [0, 0] 1, frmD [] [5] (-2), frmD [] [7] 0, frmD [] [1, 1, 1] 1]) = _ by simp [frmD, dints, D.pys]) (by decide +kernel) (by decide +kernel) (by decide +kernel)
  have es : (PyData.list [.tuple [.tuple [], .tuple [.int 0, .int 0], .int 1], .tuple [.tuple [], .tuple [.int 5], .int (-2)], .tuple [.tuple [], .tuple [.int 7], .int 0], .tuple [.tuple [], .tuple [.int 1, .int 1, .int 1], .int 1]]).shown = "[((), (0, 0), 1), ((), (5,), -2), ((), (7,), 0), ((), (1, 1, 1), 1)]" := by decide +kernel
  rw [es] at rp
  refine po_seq ?_
  simp [den]
  rw [rp]
  simp [neS (okS_of _) (okS_of _)]
  refine po_seq ?_
  simp [den]
  refine ⟨small62I (by split <;> omega) (by split <;> omega), ?_⟩
  refine (lcL_po (n := (rangeL 0 (if (if 6 < (ns.length : Int) then 6 else (ns.length : Int)) > 2 then (if 6 < (ns.length : Int) then 6 else (ns.length : Int)) else 2)).length) (fun i acc m' => ∀ x ∈ acc, x = .bl true) rfl (by rw [rangeL_len]; unfold LIM; split <;> omega) (by simp) ?_ (fun acc m h => h)).mono ?_
  · rintro i acc m1 d hi hd hl h
    obtain ⟨k, hk, rfl⟩ := List.mem_map.mp (List.mem_of_getElem? hd)
    have hk := List.mem_range.mp hk
    simp [lcTurn, ifT, wipeE]
    refine (L_cell_ok (σ := σ) ns k (by omega) (by split at hk <;> omega) m1).mono ?_
    rintro _ m1 ⟨z, rfl, rfl⟩
    refine (L_purse_ok (σ := σ) z m1).mono ?_
    rintro _ m2 ⟨rfl, hp, _⟩
    refine (L_right_k17_ok (σ := σ) hW _ m2 hp).mono ?_
    rintro _ m3 rfl
    intro x hx
    rcases hx with hx | rfl
    · exact h x hx
    · rfl
  · intro acc m1 h
    simp [allTrue h]
end
end Tx

/-! # K16W: law k16 -/
namespace Tx
open PySem LC
variable {G : Prog} {σ : Nat → Nat} {n : Nat}
section
variable [HasD G (σ 80) (d_L_at σ)]
theorem L_atB_ok (a c : List Int) (r : Int) (i : Nat) (m : Sto) (hr : r.natAbs.log2 < 500) (hi : i.log2 < 500) (ha : a.length ≤ 20) (hc : 0 < c.length) (hc2 : c.length ≤ 20) : callD G (n + 1) (σ 80) [frmD a c r, .int i] m = .ok (.int (Rw.tell a c r i)) m := by
  refine po_eq ?_; refine po_callD rfl ?_; simp only [d_L_at, f_L_at]; simp only [List.map_cons, List.map_nil, List.length_cons, List.length_nil, List.cons_append, List.nil_append, List.replicate]
  refine po_seq ?_; simp [den, dints_len]
  refine po_seq ?_; simp [den, dints_len]
  split
  · rename_i hlt
    refine po_seq ?_; simp [den]
    rw [atI_d (by omega) (by omega)]
    simp [Rw.tell, hlt]
  · rename_i hlt
    refine po_seq ?_; simp [den, dints_len, divOk_of (j := c.length) (by omega) (by omega)]
    have e : ((i : Int) - a.length) = ((i - a.length : Nat) : Int) := by omega
    have e1 : ((i : Int) - a.length) % (c.length : Int) = (((i - a.length) % c.length : Nat) : Int) := by rw [e]; rfl
    have e2 : ((i : Int) - a.length) / (c.length : Int) = (((i - a.length) / c.length : Nat) : Int) := by rw [e]; rfl
    have lt := Nat.mod_lt (i - a.length) hc
    have tt : Rw.tell a c r i = c.getD ((i - a.length) % c.length) 0 + ((i - a.length) / c.length : Nat) * r := by unfold Rw.tell; rw [if_neg hlt]
    have le : (i - a.length) / c.length ≤ i := Nat.le_trans (Nat.div_le_self _ _) (Nat.sub_le _ _)
    rw [e1, e2, tt]
    generalize (i - a.length) / c.length = q at le ⊢
    generalize (i - a.length) % c.length = t at lt ⊢
    have mu : mulOk (q : Int) r = true := by
      unfold mulOk
      rw [Bool.or_eq_true, decide_eq_true_eq]
      refine .inr ?_
      have : q.log2 ≤ i.log2 := by
        by_cases z : q = 0
        · rw [z]; simp
        · have z2 : i ≠ 0 := by omega
          rw [Nat.le_log2 z2]
          exact Nat.le_trans (Nat.log2_self_le z) le
      rw [Int.natAbs_natCast]
      omega
    rw [atI_d (by omega) (by omega)]
    simp [-List.getD_eq_getElem?_getD, mu]
    exact hc
end
theorem log2_40 {i : Int} (h : -(10 ^ 100) ≤ i ∧ i ≤ 10 ^ 100) : i.natAbs.log2 < 500 := by
  refine log2_lt (by decide) ?_ ?_ <;> omega
def itx (i : Int) : Str := ((toString i : String) : Str)
theorem itxI {i : Int} {m : Sto} (h0 : -(10 ^ 100) ≤ i) (h1 : i ≤ 10 ^ 100) : fmt (.int i) m = .ok (.str (itx i)) m ∧ callT false .str [.int i] m = .ok (.str (itx i)) m ∧ (itx i).length ≤ 1921 := by
  have l : i.natAbs.log2 < 1920 := Nat.lt_of_lt_of_le (log2_lt (k := 500) (by decide) (by omega) (by omega)) (by omega)
  refine ⟨v_fmtI l, ?_, istr_len l⟩
  show (if decide (i.natAbs.log2 < 1920) = true then _ else _) = _
  rw [decide_eq_true l]
  rfl
theorem repr_row [i : HasM G "Row" "__repr__" k] {p : Nat} {m : Sto} {h c : List Int} {s : Int} {z : Str} (hp : m[p]? = some (rowOb h c s)) (hc : callD G n k [.ref p] m = .ok (.str z) m) : callB (phi G n) .repr [.ref p] m = .ok (.str z) m := by
  obtain ⟨c', h1, h2⟩ := i.h
  have h1 : (phi G n).cl "Row" = some c' := h1
  have e : (top m (.ref p)).py = none := by
    show (topR (.ref p) m[p]?).py = none
    rw [hp]
    rfl
  show bRepr _ (.ref p) m = _
  unfold bRepr
  rw [e]
  simp only [hp, rowOb, h1, h2]
  show bnd (callD G n k [.ref p]) _ m = _
  unfold bnd
  rw [hc]
def rowT (k : List Int) (s : Int) : Str := ("Row with period " : Str) ++ itx ((k.length : Nat) : Int) ++ " and rise " ++ itx s
theorem okS_rowT (k : List Int) (s : Int) : okS (rowT k s) := okS_app (okS_app (okS_app (okS_of _) (okS_of _)) (okS_of _)) (okS_of _)
theorem empA (a : Str) : Str.empty ++ a = a := by
  show (⟨#[] ++ a.cps⟩ : Str) = a
  simp
section
variable [HasD G (σ 77) (d_Row_repr σ)] [HasF G "Row" "cycle"] [HasF G "Row" "step"]
theorem Row_repr_ok (h k : List Int) (s : Int) (p : Nat) (m : Sto) (hp : m[p]? = some (rowOb h k s)) (hk : k.length ≤ 1000) (hs : -(10 ^ 100) ≤ s ∧ s ≤ 10 ^ 100) : callD G (n + 1) (σ 77) [.ref p] m = .ok (.str (rowT k s)) m := by
  refine po_eq ?_; refine po_callD rfl ?_; simp only [d_Row_repr, f_Row_repr]; simp only [List.map_cons, List.map_nil, List.length_cons, List.length_nil, List.cons_append, List.nil_append, List.replicate]
  obtain ⟨f1, f2, f3⟩ := itxI (m := m) hs.1 hs.2
  obtain ⟨g1, g2, g3⟩ := itxI (i := ((k.length : Nat) : Int)) (m := m) (by omega) (by omega)
  have el : Str.empty.length = 0 := rfl
  refine po_seq ?_; simp [den, gCycle hp, gStep hp, dints_len, f1, g1, str_len_app, el, empA]
  refine ⟨by unfold LIM; omega, by unfold LIM; omega, by unfold LIM; omega, rfl⟩
end
theorem repN {P : Phi} {m : Sto} {xs : List Int} (hx : ∀ x ∈ xs, big x) (hl : xs.length ≤ 1000) : callB P .repr [.lst (dints xs)] m = .ok (.str (PyData.list (xs.map .int)).shown) m ∧ okS (PyData.list (xs.map .int)).shown := by
  have e : (top m (.lst (dints xs))).py = some (.list (xs.map .int)) := by simp [top, pys_ints]
  have ht : tel (.list (xs.map .int)) = true := by simp only [tel]; rw [tels_ints hx]
  have hd : (PyData.list (xs.map .int)).depth ≤ 64 := by simp only [PyData.depth]; exact Nat.le_trans (Nat.add_le_add_right (depths_ints xs) 1) (by decide)
  have hw : wt (.list (xs.map .int)) ≤ LIM := by simp only [wt, wts_ints, LIM]; omega
  have hr : rs (.list (xs.map .int)) = true := by simp [rs, rss_ints]
  exact ⟨repr_ok e ht hd hw, okS_shown _ hr⟩
section
variable [HasD G (σ 321) (d_L_tells σ)] [HasM G "Row" "at" (σ 89)] [HasP G "Row" "early" (σ 73)] [HasP G "Row" "again" (σ 74)] [HasP G "Row" "rise" (σ 75)] [HasD G (σ 77) (d_Row_repr σ)]
  [HasF G "Row" "cycle"] [HasF G "Row" "step"] [HasD G (σ 80) (d_L_at σ)] [HasD G (σ 89) (d_Row_at σ)] [HasF G "Row" "head"] [HasD G (σ 73) (d_Row_early σ)]
  [HasD G (σ 74) (d_Row_again σ)] [HasD G (σ 75) (d_Row_rise σ)] [HasD G (σ 32) (d_check_number σ)] [HasD G (σ 4) (d_is_between σ)] [HasD G (σ 3) (d_is_integer σ)] [HasM G "Row" "__repr__" (σ 77)]
include σ
theorem L_tells_ok (a c h k : List Int) (r s : Int) (ps : List Nat) (p : Nat) (m : Sto) (hp : m[p]? = some (rowOb h k s)) (hT : ∀ i, Rw.tell h k s i = Rw.tell a c r i) (la : a.length ≤ 20) (lc : 0 < c.length) (lc2 : c.length ≤ 20) (lh : h.length ≤ 20) (lk : 0 < k.length) (lk2 : k.length ≤ 20)
    (sz : ∀ x ∈ a ++ c, -(10 ^ 40) ≤ x ∧ x ≤ 10 ^ 40) (sr : -(10 ^ 40) ≤ r ∧ r ≤ 10 ^ 40) (ss : -(10 ^ 100) ≤ s ∧ s ≤ 10 ^ 100) (hps : ∀ i ∈ ps, i ≤ 10 ^ 21) (hpl : ps.length ≤ 1000) :
    Po (callD G (n + 5) (σ 321) [.ref p, frmD a c r, .lst (ps.map fun i => .int ((i : Nat) : Int))] m) fun v m' => v = .bl true ∧ m' = m := by
  refine po_callD rfl ?_; simp only [d_L_tells, f_L_tells]; simp only [List.map_cons, List.map_nil, List.length_cons, List.length_nil, List.cons_append, List.nil_append, List.replicate]
  have g1 : opAt (phi G (n + 4)) "early" (.ref p) m = .ok (.tup (dints h)) m := (at_prop hp).trans (Row_early_ok h k s _ m hp)
  have g2 : opAt (phi G (n + 4)) "again" (.ref p) m = .ok (.tup (dints k)) m := (at_prop hp).trans (Row_again_ok h k s _ m hp)
  have g3 : opAt (phi G (n + 4)) "rise" (.ref p) m = .ok (.int s) m := (at_prop hp).trans (Row_rise_ok h k s _ m hp)
  have pa : preMe (phi G (n + 4)) "at" (.ref p) m = .ok (σ 89) m := pre_me hp rfl
  obtain ⟨f1, f2, f3⟩ := itxI (i := s) (m := m) (by omega) (by omega)
  obtain ⟨q1, q2, q3⟩ := itxI (i := ((k.length : Nat) : Int)) (m := m) (by omega) (by omega)
  have rp := repr_row (n := n + 4) hp (Row_repr_ok (G := G) (σ := σ) (n := n + 3) h k s p m hp (by omega) (by omega))
  refine po_seq ?_; simp [den, g1, g2, g3]
  refine po_seq ?_; simp [den, dints_len, atI, ixN, show ¬ ((k.length : Int) < 1) by omega]
  have l1 : ("Row with period " : Str).length = 16 := by decide +kernel
  have l2 : (" and rise " : Str).length = 10 := by decide +kernel
  have ad : ∀ (x y : Str), x.length + y.length ≤ 10000 → opBin false .Add (.str x) (.str y) m = .ok (.str (x ++ y)) m := fun x y hxy => v_addS (by unfold LIM; omega)
  have e1 := ad "Row with period " (itx k.length) (by omega)
  have e2 := ad ("Row with period " ++ itx k.length) " and rise " (by rw [str_len_app]; omega)
  have e3 := ad ("Row with period " ++ itx k.length ++ " and rise ") (itx s) (by rw [str_len_app, str_len_app]; omega)
  have ne : opCmp .NotEq (.str (rowT k s)) (.str (("Row with period " : Str) ++ itx k.length ++ " and rise " ++ itx s)) m = .ok (.bl false) m := by
    rw [show (("Row with period " : Str) ++ itx k.length ++ " and rise " ++ itx s) = rowT k s from rfl, neS (okS_rowT k s) (okS_rowT k s)]
    simp
  refine po_seq ?_; simp [den, rp, dints_len, atI, ixN, f2, q2, e1, e2, e3, ne]
  refine po_seq ?_
  simp [den]
  refine forL_po (n := (ps.map fun i => D.int ((i : Nat) : Int)).length) (fun i env m' => m' = m ∧ ∃ x4 x5, env = [some (.ref p), some (frmD a c r), some (.lst (ps.map fun i => .int ((i : Nat) : Int))), some (frmD h k s), x4, x5]) rfl ⟨rfl, _, _, rfl⟩ ?_ ?_
  · rintro i env m' d hi hd ⟨rfl, x4, x5, rfl⟩
    rw [List.getElem?_map] at hd
    obtain ⟨t, ht, rfl⟩ := Option.map_eq_some_iff.mp hd
    have ht := hps t (List.mem_of_getElem? ht)
    have tl : t.log2 < 500 := by
      have := log2_40 (i := (t : Int)) (by omega)
      simpa using this
    have s1 := log2_40 ss
    have r1 := log2_40 (i := r) (by omega)
    have A1 := L_atB_ok (G := G) (σ := σ) (n := n + 3) a c r t m' r1 tl la lc lc2
    have A2 := L_atB_ok (G := G) (σ := σ) (n := n + 3) h k s t m' s1 tl lh lk lk2
    have A3 := Row_at_ok (G := G) (σ := σ) (n := n) h k s p m' t hp lk (by omega) s1 tl
    rw [hT] at A2 A3
    have bt : big (Rw.tell a c r t) := by
      have := tell_bd (B := 10 ^ 40) lc sz sr t
      have h2 : ((t + 1 : Nat) : Int) * 10 ^ 40 ≤ (10 ^ 22) * 10 ^ 40 := Int.mul_le_mul_of_nonneg_right (by omega) (by omega)
      unfold big
      omega
    generalize Rw.tell a c r t = v at *
    simp
    refine po_seq ?_
    simp [den, A1]
    refine po_seq ?_
    have pk : permK 1 1 [0, 1] [.ref p] [.int (t : Nat)] m' = .ok [.ref p, .int (t : Nat)] m' := rfl
    have m4 : opBin false .Mult (.lst [.int v]) (.int 4) m' = .ok (.lst [.int v, .int v, .int v, .int v]) m' := rfl
    obtain ⟨r4, o4⟩ := repN (P := phi G (n + 4)) (m := m') (xs := [v, v, v, v]) (by intro x hx; simp at hx; subst hx; exact bt) (by simp)
    have r4 : callB (phi G (n + 4)) .repr [.lst [.int v, .int v, .int v, .int v]] m' = _ := r4
    simp [den, pa, A3, A2, pk, m4]
    rw [r4, v_ok, m4, v_ok, r4, v_ok, neS o4 o4]
    simp
  · rintro env m' ⟨rfl, x4, x5, rfl⟩
    simp
    refine po_seq ?_
    simp [den]

end
theorem bo_row [i : HasF G "Row" "__bool__"] [j : HasF G "Row" "__len__"] {p : Nat} {m : Sto} {h k : List Int} {s : Int} (hp : m[p]? = some (rowOb h k s)) : tBo (phi G n) [.ref p] m = .ok (.bl true) m := by
  obtain ⟨c, h1, h2⟩ := i.h
  obtain ⟨c', h1', h2'⟩ := j.h
  rw [h1] at h1'
  cases h1'
  have h1 : (phi G n).cl "Row" = some c := h1
  show opBo _ (.ref p) m = _
  unfold opBo
  simp only [hp, rowOb, h1, h2, h2', Bool.and_self, if_true]
def plc (t1 t2 : Nat) : List Nat := List.range 24 ++ [100000000000000000000 + t1, 1000000 + t2]
section
variable [HasD G (σ 31) (d_L_right_k16 σ)] [HasI G "Row" (σ 72)] [HasC G "Row"] [HasG G "Row" (.glb "Row")] [HasD G (σ 77) (d_Row_repr σ)] [HasF G "Row" "cycle"]
  [HasF G "Row" "step"] [HasD G (σ 72) (d_Row_init σ)] [HasF G "Row" "head"] [HasD G (σ 79) (d_L_form σ)] [HasD G (σ 22) (d_L_take σ)] [HasD G (σ 321) (d_L_tells σ)]
  [HasM G "Row" "at" (σ 89)] [HasP G "Row" "early" (σ 73)] [HasP G "Row" "again" (σ 74)] [HasP G "Row" "rise" (σ 75)] [HasD G (σ 81) (d_L_unrolled σ)] [HasD G (σ 70) (d_check_integers σ)]
  [HasD G (σ 71) (d_goes_on σ)] [HasD G (σ 3) (d_is_integer σ)] [HasD G (σ 78) (d_L_int σ)] [HasD G (σ 80) (d_L_at σ)] [HasD G (σ 89) (d_Row_at σ)] [HasD G (σ 73) (d_Row_early σ)]
  [HasD G (σ 74) (d_Row_again σ)] [HasD G (σ 75) (d_Row_rise σ)] [HasD G (σ 32) (d_check_number σ)] [HasD G (σ 4) (d_is_between σ)] [HasM G "Row" "__repr__" (σ 77)] [HasF G "Row" "__bool__"]
  [HasF G "Row" "__len__"] [HasC G "Row"]
include σ
theorem L_right_k16_ok (hW : 2000 ≤ G.W) (p : Nat) (m : Sto) (hp : Purse p m) : Po (callD G (n + 6) (σ 31) [.ref p] m) fun v m' => v = .bl true := by
  refine po_callD rfl ?_; simp only [d_L_right_k16, f_L_right_k16]; simp only [List.map_cons, List.map_nil, List.length_cons, List.length_nil, List.cons_append, List.nil_append, List.replicate]
  refine po_seq ?_
  simp [den]
  refine ⟨rfl, ?_⟩
  refine forL_po (n := (rangeL 0 8).length) (fun i env m' => Purse p m' ∧ ∃ x1 x2 x3 x4 x5 x6, env = [some (.ref p), x1, x2, x3, x4, x5, x6]) rfl ⟨hp, _, _, _, _, _, _, rfl⟩ ?_ ?_
  · rintro i env m1 d hi hd ⟨hp1, x1, x2, x3, x4, x5, x6, rfl⟩
    simp
    refine po_seq ?_
    simp [den]
    refine (L_form_ok p m1 hp1).mono ?_
    rintro _ m2 ⟨a, c, r, rfl, la, lc, lc2, sa, sc, sr, hd2⟩
    have sr := sr r (by simp)
    have sac : Sm (a ++ c) := fun x hx => by rcases List.mem_append.mp hx with h | h; exact sa x h; exact sc x h
    try simp
    refine po_seq ?_
    simp [den]
    refine (L_unrolled_ok a c r p m2 hd2.pu la lc lc2).mono ?_
    rintro _ m3 ⟨x, y, hx, hy, rfl, hd3⟩
    try simp
    refine po_seq ?_
    simp [den]
    have rg : opRg1 false (.int 24) m3 = .ok (.lst ((List.range 24).map fun i => D.int ((i : Nat) : Int))) m3 := rfl
    rw [rg, v_ok]
    refine (L_take_ok (G := G) (σ := σ) p 999 (by omega) (by omega) m3 hd3.pu).mono ?_
    rintro _ m4 ⟨t1, rfl, t10, t11, hd4⟩
    try simp
    refine (L_take_ok (G := G) (σ := σ) p 999 (by omega) (by omega) m4 hd4.pu).mono ?_
    rintro _ m5 ⟨t2, rfl, t20, t21, hd5⟩
    obtain ⟨t1, rfl⟩ := Int.eq_ofNat_of_zero_le t10
    obtain ⟨t2, rfl⟩ := Int.eq_ofNat_of_zero_le t20
    have pu5 := hd5.pu
    have eP : (List.range 24).map (fun i => D.int ((i : Nat) : Int)) ++ [.int (100000000000000000000 + (t1 : Int)), .int (1000000 + (t2 : Int))] = (plc t1 t2).map fun i => D.int ((i : Nat) : Int) := by
      have e1 : (100000000000000000000 : Int) + (t1 : Int) = ((100000000000000000000 + t1 : Nat) : Int) := by omega
      have e2 : (1000000 : Int) + (t2 : Int) = ((1000000 + t2 : Nat) : Int) := by omega
      rw [e1, e2]
      unfold plc
      rw [List.map_append]
      rfl
    have hpl : (plc t1 t2).length ≤ 1000 := by simp [plc]
    have hps : ∀ i ∈ plc t1 t2, i ≤ 10 ^ 21 := fun i hi => by
      unfold plc at hi
      rcases List.mem_append.mp hi with h | h
      · have := List.mem_range.mp h; omega
      · simp only [List.mem_cons, List.not_mem_nil, or_false] at h
        rcases h with h | h <;> omega
    rw [v_add, v_ok, eP]
    generalize plc t1 t2 = ps at *
    refine po_seq ?_
    simp [den, atI, ixN]
    refine (mkRow_ok (G := G) (σ := σ) (n := n + 1) hW a c r m5 lc (by omega) (by omega)).mono ?_
    rintro _ m6 ⟨rfl, h1, k1, s1, L1, lh1, lk1, rfl⟩
    refine mk_newK (l := [.ref (m5 ++ [rowOb h1 k1 s1]).length, .tup (dints (unA a c r (a.length + x))), .tup (dints (unC a c r (a.length + x) (c.length * (1 + y)))), .int (Rw.tell a c r (a.length + x + c.length * (1 + y)) - Rw.tell a c r (a.length + x))]) rfl ?_
    have hq : 0 < c.length * (1 + y) ∧ c.length * (1 + y) ≤ 4 * 3 := ⟨Nat.mul_pos lc (by omega), Nat.mul_le_mul lc2 (by omega)⟩
    have lA : (unA a c r (a.length + x)).length = a.length + x := by simp [unA]
    have lC : (unC a c r (a.length + x) (c.length * (1 + y))).length = c.length * (1 + y) := by simp [unC]
    refine (Row_init_ok (G := G) (σ := σ) (n := n + 1) hW _ _ _ (m5 ++ [rowOb h1 k1 s1]).length _ (by simp) (by rw [lC]; omega) (by rw [lC]; omega) (by rw [lA]; omega)).mono ?_
    rintro _ m7 ⟨rfl, h2, k2, s2, R2, rfl⟩
    refine ⟨rfl, ?_⟩
    have q6 : ((m5 ++ [rowOb h1 k1 s1] ++ [Ob.ins "Row" []]).set (m5 ++ [rowOb h1 k1 s1]).length (rowOb h2 k2 s2)) = m5 ++ [rowOb h1 k1 s1] ++ [rowOb h2 k2 s2] := by
      rw [List.set_append_right _ _ (Nat.le_refl _)]; simp
    rw [q6]
    have at1 : (m5 ++ [rowOb h1 k1 s1] ++ [rowOb h2 k2 s2])[m5.length]? = some (rowOb h1 k1 s1) := by rw [List.getElem?_append_left]; simp; simp
    have at2 : (m5 ++ [rowOb h1 k1 s1] ++ [rowOb h2 k2 s2])[(m5 ++ [rowOb h1 k1 s1]).length]? = some (rowOb h2 k2 s2) := by simp
    have pu7 : Purse p (m5 ++ [rowOb h1 k1 s1] ++ [rowOb h2 k2 s2]) := ((Drawn.new pu5 _).trans (Drawn.new (Drawn.new pu5 _).pu _)).pu
    generalize m5 ++ [rowOb h1 k1 s1] ++ [rowOb h2 k2 s2] = m8 at at1 at2 pu7 ⊢
    generalize (m5 ++ [rowOb h1 k1 s1]).length = p2 at at2 ⊢
    generalize m5.length = p1 at at1 ⊢
    have F : Fm a c r := ⟨by omega, lc, by omega, fun x hx => by have := sac x hx; unfold In40; omega, by unfold In40; omega⟩
    have tu := Rw.tell_unrolled (a := a) (r := r) lc (x := x) (y := y)
    have ri := Rw.rise_unrolled (a := a) (r := r) lc (x := x) (y := y)
    obtain ⟨_, bs1⟩ := least_big F L1 lh1 lk1
    have y3 : (1 + y : Nat) = 1 ∨ (1 + y : Nat) = 2 ∨ (1 + y : Nat) = 3 := by omega
    have bs2 : -(10 ^ 100) ≤ s2 ∧ s2 ≤ 10 ^ 100 := by
      have := Rw.abs_step (by rw [lC]; omega) R2.kl R2.step
      rw [ri] at this
      rcases y3 with e | e | e <;> rw [e] at this <;> omega
    have T1 := fun qs hqs hql => L_tells_ok (G := G) (σ := σ) (n := n) a c h1 k1 r s1 qs p1 m8 at1 L1.tell (by omega) lc (by omega) (by omega) L1.ne (by omega) (fun x hx => by have := sac x hx; omega) (by omega) bs1 hqs hql
    have T2 := fun qs hqs hql => L_tells_ok (G := G) (σ := σ) (n := n) a c h2 k2 r s2 qs p2 m8 at2 (fun i => (R2.tell i).trans (tu i)) (by omega) lc (by omega) (by have := R2.hl; rw [lA] at this; omega) R2.ne (by have := R2.kl; rw [lC] at this; omega) (fun x hx => by have := sac x hx; omega) (by omega) bs2 hqs hql
    try simp
    refine po_seq ?_
    simp [den]
    refine (T1 ps hps hpl).mono ?_
    rintro _ m9 ⟨rfl, rfl⟩
    have rv : opRv false (.lst (ps.map fun i => D.int ((i : Nat) : Int))) m9 = .ok (.lst (ps.reverse.map fun i => D.int ((i : Nat) : Int))) m9 := by rw [List.map_reverse]; rfl
    simp
    rw [rv, v_ok]
    refine (T2 ps.reverse (fun i hi => hps i (List.mem_reverse.mp hi)) (by rw [List.length_reverse]; exact hpl)).mono ?_
    rintro _ _ ⟨rfl, rfl⟩
    simp
    refine po_seq ?_
    simp [den, bo_row (G := G) (n := n + 5) at1, is_own (G := G) (n := n + 5) at2]
    exact pu7
  · rintro env m1 ⟨hp1, x1, x2, x3, x4, x5, x6, rfl⟩
    refine po_seq ?_
    simp [den]
end
section
variable [HasD G (σ 2) (d_L_law_k16 σ)] [HasD G (σ 31) (d_L_right_k16 σ)] [HasI G "Row" (σ 72)] [HasC G "Row"] [HasG G "Row" (.glb "Row")] [HasD G (σ 77) (d_Row_repr σ)]
  [HasF G "Row" "cycle"] [HasF G "Row" "step"] [HasD G (σ 72) (d_Row_init σ)] [HasF G "Row" "head"] [HasD G (σ 0) (d_L_cell σ)] [HasD G (σ 1) (d_L_purse σ)]
  [HasD G (σ 79) (d_L_form σ)] [HasD G (σ 22) (d_L_take σ)] [HasD G (σ 321) (d_L_tells σ)] [HasM G "Row" "at" (σ 89)] [HasP G "Row" "early" (σ 73)] [HasP G "Row" "again" (σ 74)]
  [HasP G "Row" "rise" (σ 75)] [HasD G (σ 81) (d_L_unrolled σ)] [HasD G (σ 70) (d_check_integers σ)] [HasD G (σ 71) (d_goes_on σ)] [HasD G (σ 3) (d_is_integer σ)] [HasD G (σ 78) (d_L_int σ)]
  [HasD G (σ 80) (d_L_at σ)] [HasD G (σ 89) (d_Row_at σ)] [HasD G (σ 73) (d_Row_early σ)] [HasD G (σ 74) (d_Row_again σ)] [HasD G (σ 75) (d_Row_rise σ)] [HasD G (σ 32) (d_check_number σ)]
  [HasD G (σ 4) (d_is_between σ)] [HasM G "Row" "__repr__" (σ 77)] [HasF G "Row" "__bool__"] [HasF G "Row" "__len__"] [HasC G "Row"]
include σ
theorem L_law_k16_ok (hW : 2000 ≤ G.W) (ns : List Int) (hl : ns.length ≤ 63) : Po (callD G (n + 7) (σ 2) [.scr ns] []) fun v m' => v = .bl true := by
  refine po_callD rfl ?_; simp only [d_L_law_k16, f_L_law_k16]; simp only [List.map_cons, List.map_nil, List.length_cons, List.length_nil, List.cons_append, List.nil_append, List.replicate]
  refine po_seq ?_
  simp [den]
  refine ⟨small62I (by split <;> omega) (by split <;> omega), ?_⟩
  refine (lcL_po (n := (rangeL 0 (if (if 6 < (ns.length : Int) then 6 else (ns.length : Int)) > 2 then (if 6 < (ns.length : Int) then 6 else (ns.length : Int)) else 2)).length) (fun i acc m' => ∀ x ∈ acc, x = .bl true) rfl (by rw [rangeL_len]; unfold LIM; split <;> omega) (by simp) ?_ (fun acc m h => h)).mono ?_
  · rintro i acc m1 d hi hd hl h
    obtain ⟨k, hk, rfl⟩ := List.mem_map.mp (List.mem_of_getElem? hd)
    have hk := List.mem_range.mp hk
    simp [lcTurn, ifT, wipeE]
    refine (L_cell_ok (σ := σ) ns k (by omega) (by split at hk <;> omega) m1).mono ?_
    rintro _ m1 ⟨z, rfl, rfl⟩
    refine (L_purse_ok (σ := σ) z m1).mono ?_
    rintro _ m2 ⟨rfl, hp, _⟩
    refine (L_right_k16_ok (σ := σ) hW _ m2 hp).mono ?_
    rintro _ m3 rfl
    intro x hx
    rcases hx with hx | rfl
    · exact h x hx
    · rfl
  · intro acc m1 h
    simp [allTrue h]
end
end Tx

/-! # K18W: law k18 -/
namespace Tx
open PySem LC
variable {G : Prog} {σ : Nat → Nat} {n : Nat}
def S39 (xs : List Int) : Prop := ∀ x ∈ xs, -(10 ^ 39) ≤ x ∧ x ≤ 10 ^ 39
section
variable [HasD G (σ 81) (d_L_unrolled σ)] [HasD G (σ 80) (d_L_at σ)] [HasD G (σ 22) (d_L_take σ)]
include σ
theorem L_unrolled2_ok (a c : List Int) (r : Int) (p : Nat) (m : Sto) (hp : Purse p m) (la : a.length ≤ 5) (lc : 0 < c.length) (lc2 : c.length ≤ 4) (sa : Sm a) (sc : Sm c) (sr : -(10 ^ 30) ≤ r ∧ r ≤ 10 ^ 30) :
    Po (callD G (n + 3) (σ 81) [.ref p, frmD a c r] m) fun v m' => ∃ A C R, v = frmD A C R ∧ A.length ≤ 8 ∧ 0 < C.length ∧ C.length ≤ 12 ∧ S39 A ∧ S39 C ∧ S39 [R] ∧ Drawn p m m' := by
  refine (L_unrolled_ok (G := G) (σ := σ) a c r p m hp la lc lc2).mono ?_
  rintro _ m3 ⟨x, y, hx, hy, rfl, hd3⟩
  have hq : 0 < c.length * (1 + y) ∧ c.length * (1 + y) ≤ 4 * 3 := ⟨Nat.mul_pos lc (by omega), Nat.mul_le_mul lc2 (by omega)⟩
  have ri := Rw.rise_unrolled (a := a) (r := r) lc (x := x) (y := y)
  have lA : (unA a c r (a.length + x)).length = a.length + x := by simp [unA]
  have lC : (unC a c r (a.length + x) (c.length * (1 + y))).length = c.length * (1 + y) := by simp [unC]
  have bd : ∀ j, j ≤ 30 → -(10 ^ 39) ≤ Rw.tell a c r j ∧ Rw.tell a c r j ≤ 10 ^ 39 := fun j hj => by
    have := tell_bd (B := 10 ^ 30) lc (fun x hx => by rcases List.mem_append.mp hx with h | h; exact sa x h; exact sc x h) sr j
    have h : ((j + 1 : Nat) : Int) * 10 ^ 30 ≤ 41 * 10 ^ 30 := Int.mul_le_mul_of_nonneg_right (by omega) (by omega)
    omega
  refine ⟨_, _, _, rfl, by omega, by omega, by omega, fun z hz => ?_, fun z hz => ?_, fun z hz => ?_, hd3⟩
  · obtain ⟨j, hj, rfl⟩ := List.mem_map.mp hz
    have := List.mem_range.mp hj
    exact bd j (by omega)
  · obtain ⟨j, hj, rfl⟩ := List.mem_map.mp hz
    have := List.mem_range.mp hj
    exact bd _ (by omega)
  · rw [List.mem_singleton.mp hz]
    have y3 : (1 + y : Nat) = 1 ∨ (1 + y : Nat) = 2 ∨ (1 + y : Nat) = 3 := by omega
    rw [ri]; rcases y3 with e | e | e <;> rw [e] <;> omega
end
theorem fm_of {a c : List Int} {r : Int} (la : a.length ≤ 8) (lc : 0 < c.length) (lc2 : c.length ≤ 12) (sa : S39 a) (sc : S39 c) (sr : S39 [r]) : Fm a c r :=
  ⟨la, lc, lc2, fun z hz => by
    rcases List.mem_append.mp hz with h | h
    · have := sa z h; unfold In40; omega
    · have := sc z h; unfold In40; omega, by have := sr r (by simp); unfold In40; omega⟩
theorem fm_sm {a c : List Int} {r : Int} (la : a.length ≤ 5) (lc : 0 < c.length) (lc2 : c.length ≤ 4) (sa : Sm a) (sc : Sm c) (sr : Sm [r]) : Fm a c r :=
  ⟨by omega, lc, by omega, fun z hz => by
    rcases List.mem_append.mp hz with h | h
    · have := sa z h; unfold In40; omega
    · have := sc z h; unfold In40; omega, by have := sr r (by simp); unfold In40; omega⟩
section
variable [HasD G (σ 88) (d_L_two σ)] [HasD G (σ 84) (d_L_bent_form σ)] [HasD G (σ 79) (d_L_form σ)] [HasD G (σ 22) (d_L_take σ)] [HasD G (σ 81) (d_L_unrolled σ)] [HasD G (σ 78) (d_L_int σ)]
  [HasD G (σ 80) (d_L_at σ)]
theorem L_two_ok (p : Nat) (m : Sto) (hp : Purse p m) : Po (callD G (n + 4) (σ 88) [.ref p] m) fun v m' => ∃ A C R B E S, v = .tup [frmD A C R, frmD B E S] ∧ Fm A C R ∧ Fm B E S ∧ Drawn p m m' := by
  refine po_callD rfl ?_; simp only [d_L_two, f_L_two]; simp only [List.map_cons, List.map_nil, List.length_cons, List.length_nil, List.cons_append, List.nil_append, List.replicate]
  refine po_seq ?_
  simp [den]
  refine (L_form_ok (σ := σ) p m hp).mono ?_
  rintro _ m1 ⟨a, c, r, rfl, la, lc, lc2, sa, sc, sr0, hd1⟩
  have sr := sr0 r (by simp)
  try simp
  refine po_seq ?_
  simp [den]
  refine (L_take_ok (G := G) (σ := σ) p 4 (by omega) (by omega) m1 hd1.pu).mono ?_
  rintro _ m2 ⟨w, rfl, w0, w1, hd2⟩
  try simp
  refine (L_unrolled2_ok (G := G) (σ := σ) a c r p m2 hd2.pu la lc lc2 sa sc sr).mono ?_
  rintro _ m3 ⟨B, E, S, rfl, lB, lE, lE2, sB, sE, sS, hd3⟩
  try simp
  have hd3 := (hd1.trans hd2).trans hd3
  -- the mate
  have fin1 : ∀ B E S m4, Fm B E S → Drawn p m m4 → Po ((den (phi G (n + 3)) (f_L_two_2 σ)).s [some (.ref p), some (frmD a c r), some (.int w), some (frmD B E S)] m4) (fin fun v m' => ∃ A C R B E S, v = .tup [frmD A C R, frmD B E S] ∧ Fm A C R ∧ Fm B E S ∧ Drawn p m m') := fun B E S m4 FB hd4 => by
    refine po_seq ?_
    simp [den]
    refine (L_unrolled2_ok (G := G) (σ := σ) a c r p m4 hd4.pu la lc lc2 sa sc sr).mono ?_
    rintro _ m5 ⟨A, C, R, rfl, lA, lC, lC2, sA, sC, sR, hd5⟩
    simp
    exact ⟨A, C, R, B, E, S, ⟨⟨rfl, rfl, rfl⟩, rfl, rfl, rfl⟩, fm_of lA lC lC2 sA sC sR, FB, hd4.trans hd5⟩
  have FB := fm_of lB lE lE2 sB sE sS
  refine po_seq ?_
  simp [den]
  split
  · rename_i hw
    subst hw
    refine po_seq ?_
    simp [den]
    refine (L_bent_form_ok (G := G) (σ := σ) B E S p m3 hd3.pu (by omega) (by omega) sB sE (sS S (by simp))).mono ?_
    rintro _ m4 ⟨B', E', S', rfl, lB', lE', sB', sE', sS', hd4⟩
    try simp
    refine po_seq ?_
    simp [den]
    exact fin1 _ _ _ _ ⟨by omega, by omega, by omega, fun z hz => by rcases List.mem_append.mp hz with h | h; exact sB' z h; exact sE' z h, sS'⟩ (hd3.trans hd4)
  · rename_i hw
    refine po_seq ?_
    simp [den]
    split
    · rename_i hw2
      refine po_seq ?_
      simp [den]
      refine (L_form_ok (G := G) (σ := σ) p m3 hd3.pu).mono ?_
      rintro _ m4 ⟨B', E', S', rfl, lB', lE', lE2', sB', sE', sS', hd4⟩
      try simp
      exact fin1 _ _ _ _ (fm_sm lB' lE' lE2' sB' sE' sS') (hd3.trans hd4)
    · try simp
      exact fin1 _ _ _ _ FB hd3

end
section
variable [HasD G (σ 55) (d_common_divisor σ)]
theorem cd2_ok (hW : 2000 ≤ G.W) (x y : Nat) (hy : y ≤ 1000) (m : Sto) : callD G (n + 1) (σ 55) [.int (x : Nat), .int (y : Nat)] m = .ok (.int (Nat.gcd x y : Nat)) m := by
  refine po_eq ?_; refine po_callD rfl ?_; simp only [d_common_divisor, f_common_divisor]; simp only [List.map_cons, List.map_nil, List.length_cons, List.length_nil, List.cons_append, List.nil_append, List.replicate]
  refine po_seq ?_
  simp only [den, v_phiW]
  refine while_po (fun k env m' => m' = m ∧ ∃ a b : Nat, env = [some (.int (a : Nat)), some (.int (b : Nat))] ∧ Nat.gcd a b = Nat.gcd x y ∧ b ≤ k ∧ b ≤ 1000) (k := 1000) (by show 1000 < G.W; omega) ⟨rfl, x, y, rfl, rfl, hy, hy⟩ ?_
  rintro k env m' ⟨rfl, a, b, rfl, hg, hk, hb0⟩
  simp
  split
  · rename_i hb
    have dk : divOk (b : Int) = true := divOk_of (by omega) (by omega)
    have lt := Nat.mod_lt a (show 0 < b by omega)
    refine po_seq ?_
    simp [den, dk]
    refine ⟨by omega, k - 1, by omega, b, a % b, ⟨rfl, (Int.natCast_emod a b).symm⟩, ?_, by omega, by omega⟩
    rw [← hg, Nat.gcd_comm a b, Nat.gcd_rec b a, Nat.gcd_comm]
  · rename_i hb
    have : b = 0 := by omega
    subst this
    refine po_seq ?_
    simp [den]
    simp at hg
    rw [hg]
end
def gg (s : Int) (l : Nat) : Nat := Nat.gcd s.natAbs l
section
variable [HasD G (σ 56) (d_fraction σ)] [HasD G (σ 55) (d_common_divisor σ)]
theorem fraction2_ok (hW : 2000 ≤ G.W) (s : Int) (l : Nat) (h0 : 0 < l) (hl : l ≤ 1000) (m : Sto) : callD G (n + 2) (σ 56) [.int s, .int (l : Nat)] m = .ok (.tup (dints [s / (gg s l : Nat), (l : Int) / (gg s l : Nat)])) m := by
  refine po_eq ?_; refine po_callD rfl ?_; simp only [d_fraction, f_fraction]; simp only [List.map_cons, List.map_nil, List.length_cons, List.length_nil, List.cons_append, List.nil_append, List.replicate]
  have cd := cd2_ok (G := G) (σ := σ) (n := n) hW s.natAbs l hl m
  have ab : (if s < 0 then -s else s) = ((s.natAbs : Nat) : Int) := by split <;> omega
  have g0 : 0 < gg s l := Nat.gcd_pos_of_pos_right _ h0
  have gl : gg s l ≤ l := Nat.gcd_le_right _ h0
  have dk : divOk ((gg s l : Nat) : Int) = true := divOk_of (by omega) (by omega)
  refine po_seq ?_
  simp only [den]
  simp [ab, cd]
  refine po_seq ?_
  have dk' : divOk ((Nat.gcd s.natAbs l : Nat) : Int) = true := dk
  simp [den, dk']
  rfl

end
section
variable [HasD G (σ 86) (d_Row_pace σ)] [HasF G "Row" "step"] [HasF G "Row" "cycle"] [HasD G (σ 56) (d_fraction σ)] [HasD G (σ 55) (d_common_divisor σ)]
theorem Row_pace_ok (hW : 2000 ≤ G.W) (h k : List Int) (s : Int) (p : Nat) (m : Sto) (hp : m[p]? = some (rowOb h k s)) (h0 : 0 < k.length) (hl : k.length ≤ 1000) : callD G (n + 3) (σ 86) [.ref p] m = .ok (.tup (dints [s / (gg s k.length : Nat), (k.length : Int) / (gg s k.length : Nat)])) m := by
  refine po_eq ?_; refine po_callD rfl ?_; simp only [d_Row_pace, f_Row_pace]; simp only [List.map_cons, List.map_nil, List.length_cons, List.length_nil, List.cons_append, List.nil_append, List.replicate]
  refine po_seq ?_; simp [den, gStep hp, gCycle hp, dints_len, fraction2_ok hW s k.length h0 hl]
end
theorem gg_ok (s r : Int) (l C : Nat) (h0 : 0 < l) (hl : l ≤ C) (hs : s * C = r * l) :
    1 ≤ (l : Int) / (gg s l : Nat) ∧ (l : Int) / (gg s l : Nat) ≤ C ∧ s / (gg s l : Nat) * C = (l : Int) / (gg s l : Nat) * r ∧ ∀ k : Int, 2 ≤ k → ¬ (s / (gg s l : Nat) % k = 0 ∧ (l : Int) / (gg s l : Nat) % k = 0) := by
  have g0 : 0 < gg s l := Nat.gcd_pos_of_pos_right _ h0
  obtain ⟨b, hb⟩ : gg s l ∣ l := Nat.gcd_dvd_right _ _
  obtain ⟨a, ha⟩ : ((gg s l : Nat) : Int) ∣ s := Int.ofNat_dvd_left.mpr (Nat.gcd_dvd_left _ _)
  have gI : (0 : Int) < ((gg s l : Nat) : Int) := by omega
  have eg : Nat.gcd s.natAbs l = gg s l := rfl
  generalize gg s l = g at *
  have e1 : s / (g : Int) = a := by rw [ha]; exact Int.mul_ediv_cancel_left a (by omega)
  have e2 : (l : Int) / (g : Int) = b := by rw [hb, Int.natCast_mul]; exact Int.mul_ediv_cancel_left _ (by omega)
  have b0 : 0 < b := by
    rcases Nat.eq_zero_or_pos b with z | z
    · subst z; omega
    · exact z
  have bl : b ≤ l := by rw [hb]; exact Nat.le_mul_of_pos_left b g0
  rw [e1, e2]
  refine ⟨by omega, by omega, ?_, ?_⟩
  · have : (g : Int) * (a * C) = (g : Int) * ((b : Int) * r) := by
      rw [← Int.mul_assoc, ← ha, hs, ← Int.mul_assoc, ← Int.natCast_mul, ← hb, Int.mul_comm]
    exact Int.eq_of_mul_eq_mul_left (by omega) this
  · rintro k hk ⟨z1, z2⟩
    obtain ⟨u, hu⟩ := Int.dvd_of_emod_eq_zero z1
    obtain ⟨v, hv⟩ := Int.dvd_of_emod_eq_zero z2
    have d1 : g * k.natAbs ∣ s.natAbs := by
      refine ⟨u.natAbs, ?_⟩
      rw [ha, hu, Int.natAbs_mul, Int.natAbs_mul, Int.natAbs_natCast, Nat.mul_assoc]
    have d2 : g * k.natAbs ∣ l := by
      refine ⟨v.natAbs, ?_⟩
      have := congrArg Int.natAbs hv
      rw [Int.natAbs_mul, Int.natAbs_natCast] at this
      rw [hb, this, Nat.mul_assoc]
    have d3 := Nat.dvd_gcd d1 d2
    rw [eg] at d3
    have := Nat.le_of_dvd g0 d3
    have : g * 2 ≤ g * k.natAbs := Nat.mul_le_mul_left g (by omega)
    omega
section
variable [HasD G (σ 87) (d_L_paced σ)]
theorem L_paced_ok (s r : Int) (l : Nat) (a c : List Int) (lc2 : c.length ≤ 20) (h0 : 0 < l) (hl : l ≤ c.length) (hs : s * c.length = r * l) (m : Sto) :
    callD G (n + 1) (σ 87) [.tup (dints [s / (gg s l : Nat), (l : Int) / (gg s l : Nat)]), frmD a c r] m = .ok (.bl true) m := by
  refine po_eq ?_; refine po_callD rfl ?_; simp only [d_L_paced, f_L_paced]; simp only [List.map_cons, List.map_nil, List.length_cons, List.length_nil, List.cons_append, List.nil_append, List.replicate]
  obtain ⟨w1, w2, w3, w4⟩ := gg_ok s r l c.length h0 hl hs
  generalize s / ((gg s l : Nat) : Int) = t1 at *
  generalize (l : Int) / ((gg s l : Nat) : Int) = t2 at *
  refine po_seq ?_; simp [den]
  refine po_seq ?_
  simp [den]
  refine eq_po (lcL_ints (f := fun _ => .bl false) (fun i hi => po_eq (by simp [lcTurn, ifT, wipeE])) (by simp [LIM])) ?_
  have an : callB (phi G n) .any [D.lst [D.bl false, D.bl false]] m = .ok (.bl false) m := rfl
  simp [an]
  obtain ⟨e0, e1⟩ : atI (dints [t1, t2]) 0 = some (.int t1) ∧ atI (dints [t1, t2]) 1 = some (.int t2) := ⟨rfl, rfl⟩
  have q1 : mulOk t1 (c.length : Int) = true := mulOk_r (by omega) (by omega)
  have q2 : mulOk t2 r = true := mulOk_l (by omega) (by omega)
  have nq : opCmp .NotEq (.int (t1 * c.length)) (.int (t2 * r)) m = .ok (.bl false) m := by rw [w3]; simp
  have fC : atI [D.tup (dints a), D.tup (dints c), D.int r] 1 = some (.tup (dints c)) := rfl
  have fR : atI [D.tup (dints a), D.tup (dints c), D.int r] 2 = some (.int r) := rfl
  refine po_seq ?_
  simp [den, e0, e1, dints_len, fC, fR, w1, w2, q1, q2]
  rw [if_pos w3]
  refine po_seq ?_
  simp [den, e0, e1, dints_len, fC, fR]
  refine ⟨⟨small62I (by omega) (by omega), small62I (by omega) (by omega)⟩, ?_⟩
  refine (lcL_po (n := (rangeL 2 ((c.length : Int) + 1)).length) (fun i acc m' => m' = m ∧ ∀ x ∈ acc, x = .bl true) rfl (by rw [rangeL_len]; unfold LIM; omega) ⟨rfl, by simp⟩ ?_ (fun acc m h => h)).mono ?_
  · rintro i acc m1 d hi hd hl ⟨rfl, h⟩
    obtain ⟨k, hk, rfl⟩ := List.mem_map.mp (List.mem_of_getElem? hd)
    have w := w4 (2 + (k : Int)) (by omega)
    have kp : 0 < 2 + (k : Int) := by omega
    by_cases z1 : t1 % (2 + (k : Int)) = 0
    · have z2 : ¬ t2 % (2 + (k : Int)) = 0 := fun z => w ⟨z1, z⟩
      simp [lcTurn, ifT, wipeE, e0, e1, kp, z1, z2]
      intro x hx
      rcases hx with hx | rfl
      · exact h x hx
      · rfl
    · simp [lcTurn, ifT, wipeE, e0, e1, kp, z1]
      intro x hx
      rcases hx with hx | rfl
      · exact h x hx
      · rfl
  · rintro acc m1 ⟨rfl, h⟩
    simp [allTrue h]
/-! ### == -/
end
theorem isno [i : HasC G C] {d : D} {t : String} {m : Sto} (hd : tyOf m d = some t) (hr : ∀ j, d ≠ .ref j) : callB (phi G n) .isinst [d, .glb C] m = .ok (.bl false) m := by
  obtain ⟨c, h1⟩ := i.h
  have h1 : (phi G n).cl C = some c := h1
  show bOut (isInst1 _ m d (.glb C)) m = _
  unfold isInst1
  simp only [h1, Option.isSome_some, if_true]
  cases d with
  | ref j => exact absurd rfl (hr j)
  | _ => simp only [hd]; rfl
def sameB (h k : List Int) (s : Int) (h' k' : List Int) (s' : Int) : Bool := decide (h = h') && (decide (k = k') && decide (s = s'))
section
variable [HasD G (σ 76) (d_Row_eq σ)] [HasF G "Row" "head"] [HasF G "Row" "cycle"] [HasF G "Row" "step"] [HasC G "Row"] [HasG G "Row" (.glb "Row")]
theorem Row_eq_ok (h k h' k' : List Int) (s s' : Int) (p q : Nat) (m : Sto) (hp : m[p]? = some (rowOb h k s)) (hq : m[q]? = some (rowOb h' k' s')) : callD G (n + 1) (σ 76) [.ref p, .ref q] m = .ok (.bl (sameB h k s h' k' s')) m := by
  refine po_eq ?_; refine po_callD rfl ?_; simp only [d_Row_eq, f_Row_eq]; simp only [List.map_cons, List.map_nil, List.length_cons, List.length_nil, List.cons_append, List.nil_append, List.replicate]
  refine po_seq ?_; simp [den, is_own (G := G) (n := n) hq]
  refine po_seq ?_
  simp [den, gHead hp, gHead hq, gCycle hp, gCycle hq, gStep hp, gStep hq, eq_intsT]
  unfold sameB
  by_cases e1 : h = h' <;> by_cases e2 : k = k' <;> simp [e1, e2]
end
section
variable [HasD G (σ 76) (d_Row_eq σ)] [HasF G "Row" "head"] [HasF G "Row" "cycle"] [HasF G "Row" "step"] [HasC G "Row"] [HasG G "Row" (.glb "Row")]
theorem Row_eq_no (p : Nat) (d : D) (t : String) (m : Sto) (hd : tyOf m d = some t) (hr : ∀ j, d ≠ .ref j) : callD G (n + 1) (σ 76) [.ref p, d] m = .ok (.bl false) m := by
  refine po_eq ?_; refine po_callD rfl ?_; simp only [d_Row_eq, f_Row_eq]; simp only [List.map_cons, List.map_nil, List.length_cons, List.length_nil, List.cons_append, List.nil_append, List.replicate]
  refine po_seq ?_; simp [den, isno (G := G) (n := n) hd hr]
  refine po_seq ?_
  simp [den]
end
theorem eqOf_row [i : HasM G "Row" "__eq__" j] {p : Nat} {m : Sto} {h k : List Int} {s : Int} (hp : m[p]? = some (rowOb h k s)) : eqOf (phi G n) m (.ref p) = some (("Row" : Str), j) := by
  obtain ⟨c, h1, h2⟩ := i.h
  have h1 : (phi G n).cl "Row" = some c := h1
  unfold eqOf
  simp only [hp, rowOb, h1, h2, Option.map_some]
theorem own_rows [i : HasM G "Row" "__eq__" j] {ne b : Bool} {p q : Nat} {m : Sto} {h k h' k' : List Int} {s s' : Int} (hp : m[p]? = some (rowOb h k s)) (hq : m[q]? = some (rowOb h' k' s')) (hc : callD G n j [.ref p, .ref q] m = .ok (.bl b) m) :
    opOwn (phi G n) ne (.ref p) (.ref q) m = .ok (.bl (b != ne)) m := by
  unfold opOwn
  rw [eqOf_row (n := n) hp]
  have e : insOf m (.ref q) = some ("Row" : Str) := by unfold insOf; simp only [hq, rowOb]
  simp only [e, beq_self_eq_true, Bool.or_true, if_true]
  show bnd (callD G n j [.ref p, .ref q]) (notB ne) m = _
  unfold bnd
  rw [hc]
  rfl
theorem eqOf_no {m : Sto} {d : D} (hr : ∀ j, d ≠ .ref j) : eqOf (phi G n) m d = none := by
  cases d with
  | ref j => exact absurd rfl (hr j)
  | _ => rfl
theorem own_no [i : HasM G "Row" "__eq__" j] {ne : Bool} {p : Nat} {d : D} {t : String} {m : Sto} {h k : List Int} {s : Int} (hp : m[p]? = some (rowOb h k s)) (hd : tyOf m d = some t) (hc : callD G n j [.ref p, d] m = .ok (.bl false) m) :
    opOwn (phi G n) ne (.ref p) d m = .ok (.bl ne) m := by
  unfold opOwn
  rw [eqOf_row (n := n) hp]
  simp only [hd, Option.isSome_some, Bool.true_or, if_true]
  show bnd (callD G n j [.ref p, d]) (notB ne) m = _
  unfold bnd
  rw [hc]
  cases ne <;> rfl
theorem own_refl [i : HasM G "Row" "__eq__" j] {p : Nat} {d : D} {t : String} {m : Sto} {h k : List Int} {s : Int} (hp : m[p]? = some (rowOb h k s)) (hd : tyOf m d = some t) (hr : ∀ j, d ≠ .ref j) (hc : callD G n j [.ref p, d] m = .ok (.bl false) m) :
    opOwn (phi G n) false d (.ref p) m = .ok (.bl false) m := by
  unfold opOwn
  rw [eqOf_no hr, eqOf_row (n := n) hp]
  simp only [hd, Option.isSome_some, Bool.not_false, Bool.true_and, if_true]
  show bnd (callD G n j [.ref p, d]) (notB false) m = _
  unfold bnd
  rw [hc]
  rfl
theorem sameB_iff {h k h' k' : List Int} {s s' : Int} : sameB h k s h' k' s' = true ↔ h = h' ∧ k = k' ∧ s = s' := by simp [sameB]
section
variable [HasD G (σ 72) (d_Row_init σ)] [HasF G "Row" "head"] [HasF G "Row" "cycle"] [HasF G "Row" "step"] [HasD G (σ 70) (d_check_integers σ)] [HasD G (σ 71) (d_goes_on σ)]
  [HasD G (σ 3) (d_is_integer σ)] [HasI G "Row" (σ 72)]
include σ
theorem mkRow2_ok (hW : 2000 ≤ G.W) (a c : List Int) (r : Int) (m : Sto) (hc : 0 < c.length) (hz : c.length ≤ 1000) (ha : a.length ≤ 1000) :
    Po (opMk (phi G (n + 4)) "Row" [.tup (dints a), .tup (dints c), .int r] m) fun v m' => v = .ref m.length ∧ ∃ h k s, RowOk a c r h k s ∧ Rw.Least (Rw.tell a c r) h k s ∧ m' = m ++ [rowOb h k s] := by
  refine mk_new (k := (σ 72)) ?_
  refine (Row_init_ok (σ := σ) hW a c r m.length (m ++ [.ins "Row" []]) (by simp) hc hz ha).mono ?_
  rintro _ m5 ⟨rfl, h, k, s, R, rfl⟩
  refine ⟨rfl, rfl, h, k, s, R, Rw.least_of hc R.ne R.tell R.mp R.ml, by simp⟩
end
theorem repB (z : Bool) : ∃ T : Str, okS T ∧ ∀ (P : Phi) (m : Sto), callB P .repr [.lst [.bl z, .bl z, .bl !z, .bl true, .bl true]] m = .ok (.str T) m := by
  cases z
  · exact ⟨_, okS_shown (.list [.bool false, .bool false, .bool true, .bool true, .bool true]) (by decide +kernel), fun P m => repr_ok (by simp [top, D.pys, D.py]) (by decide +kernel) (by decide +kernel) (by decide +kernel)⟩
  · exact ⟨_, okS_shown (.list [.bool true, .bool true, .bool false, .bool true, .bool true]) (by decide +kernel), fun P m => repr_ok (by simp [top, D.pys, D.py]) (by decide +kernel) (by decide +kernel) (by decide +kernel)⟩
theorem rep_formL {h k : List Int} {s : Int} (bh : ∀ x ∈ h ++ k, big x) (bs : big s) (lh : h.length ≤ 20) (lk : k.length ≤ 20) :
    ∃ T : Str, okS T ∧ ∀ (P : Phi) (m : Sto), callB P .repr [.lst [.tup (dints h), .tup (dints k), .int s]] m = .ok (.str T) m := by
  refine ⟨_, okS_shown (.list [.tuple (h.map .int), .tuple (k.map .int), .int s]) (by simp [rs, rss, rss_ints]), fun P m => repr_ok ?_ ?_ ?_ ?_⟩
  · show D.py (.lst [.tup (dints h), .tup (dints k), .int s]) = _
    show (D.pys [.tup (dints h), .tup (dints k), .int s]).map PyData.list = _
    rw [pys_cons (by rw [py_tup, pys_ints]; rfl) (pys_cons (by rw [py_tup, pys_ints]; rfl) (pys_cons (py_int) pys_nil))]
    rfl
  · simp only [tel, tels, tels_ints fun x hx => bh x (List.mem_append_left _ hx), tels_ints fun x hx => bh x (List.mem_append_right _ hx)]
    have := tel_big bs
    simp only [tel] at this
    simp [this]
  · simp only [PyData.depth, PyData.depthAll]
    have h1 := depths_ints h
    have h2 := depths_ints k
    omega
  · simp only [wt, wts, wts_ints, LIM]
    omega
section
variable [HasD G (σ 31) (d_L_right_k18 σ)] [HasI G "Row" (σ 72)] [HasP G "Row" "early" (σ 73)] [HasP G "Row" "again" (σ 74)] [HasP G "Row" "rise" (σ 75)] [HasP G "Row" "pace" (σ 86)]
  [HasD G (σ 77) (d_Row_repr σ)] [HasF G "Row" "cycle"] [HasF G "Row" "step"] [HasD G (σ 72) (d_Row_init σ)] [HasF G "Row" "head"] [HasD G (σ 76) (d_Row_eq σ)]
  [HasC G "Row"] [HasG G "Row" (.glb "Row")] [HasD G (σ 87) (d_L_paced σ)] [HasD G (σ 82) (d_L_same_told σ)] [HasD G (σ 88) (d_L_two σ)] [HasD G (σ 73) (d_Row_early σ)]
  [HasD G (σ 74) (d_Row_again σ)] [HasD G (σ 75) (d_Row_rise σ)] [HasD G (σ 86) (d_Row_pace σ)] [HasD G (σ 70) (d_check_integers σ)] [HasD G (σ 71) (d_goes_on σ)] [HasD G (σ 3) (d_is_integer σ)]
  [HasD G (σ 80) (d_L_at σ)] [HasD G (σ 84) (d_L_bent_form σ)] [HasD G (σ 79) (d_L_form σ)] [HasD G (σ 22) (d_L_take σ)] [HasD G (σ 81) (d_L_unrolled σ)] [HasD G (σ 56) (d_fraction σ)]
  [HasD G (σ 78) (d_L_int σ)] [HasD G (σ 55) (d_common_divisor σ)] [HasM G "Row" "__repr__" (σ 77)] [HasM G "Row" "__eq__" (σ 76)] [HasI G "Row" (σ 72)] [HasC G "Row"]
include σ
theorem L_right_k18_ok (hW : 2000 ≤ G.W) (p : Nat) (m : Sto) (hp : Purse p m) : Po (callD G (n + 6) (σ 31) [.ref p] m) fun v m' => v = .bl true := by
  refine po_callD rfl ?_; simp only [d_L_right_k18, f_L_right_k18]; simp only [List.map_cons, List.map_nil, List.length_cons, List.length_nil, List.cons_append, List.nil_append, List.replicate]
  refine po_seq ?_
  simp [den]
  refine ⟨rfl, ?_⟩
  refine forL_po (n := (rangeL 0 10).length) (fun i env m' => Purse p m' ∧ ∃ x1 x2 x3 x4 x5 x6 x7 x8 x9, env = [some (.ref p), x1, x2, x3, x4, x5, x6, x7, x8, x9]) rfl ⟨hp, _, _, _, _, _, _, _, _, _, rfl⟩ ?_ ?_
  · rintro i env m1 d hi hd ⟨hp1, x1, x2, x3, x4, x5, x6, x7, x8, x9, rfl⟩
    simp
    refine po_seq ?_
    simp [den]
    refine (L_two_ok (G := G) (σ := σ) (n := n + 1) p m1 hp1).mono ?_
    rintro _ m2 ⟨a, c, r, b, e, q, rfl, F1, F2, hd2⟩
    have la := F1.la
    have lc := F1.lc
    have lc2 := F1.lc2
    have lb := F2.la
    have le := F2.lc
    have le2 := F2.lc2
    simp
    refine po_seq ?_
    simp [den, atI, ixN]
    refine (mkRow2_ok (G := G) (σ := σ) (n := n + 1) hW a c r m2 lc (by omega) (by omega)).mono ?_
    rintro _ m3 ⟨rfl, h1, k1, s1, R1, L1, rfl⟩
    refine (mkRow2_ok (G := G) (σ := σ) (n := n + 1) hW b e q (m2 ++ [rowOb h1 k1 s1]) le (by omega) (by omega)).mono ?_
    rintro _ m4 ⟨rfl, h2, k2, s2, R2, L2, rfl⟩
    have at1 : (m2 ++ [rowOb h1 k1 s1] ++ [rowOb h2 k2 s2])[m2.length]? = some (rowOb h1 k1 s1) := by rw [List.getElem?_append_left]; simp; simp
    have at2 : (m2 ++ [rowOb h1 k1 s1] ++ [rowOb h2 k2 s2])[(m2 ++ [rowOb h1 k1 s1]).length]? = some (rowOb h2 k2 s2) := by simp
    have pu4 : Purse p (m2 ++ [rowOb h1 k1 s1] ++ [rowOb h2 k2 s2]) := ((Drawn.new hd2.pu _).trans (Drawn.new (Drawn.new hd2.pu _).pu _)).pu
    generalize m2 ++ [rowOb h1 k1 s1] ++ [rowOb h2 k2 s2] = m5 at at1 at2 pu4 ⊢
    generalize (m2 ++ [rowOb h1 k1 s1]).length = p2 at at2 ⊢
    generalize m2.length = p1 at at1 ⊢
    obtain ⟨z, ez, iz⟩ := L_same_told_ok (G := G) (σ := σ) (n := n + 3) a c b e r q m5 (by omega) lc (by omega) (by omega) le (by omega)
    refine po_seq ?_
    simp [den, ez]
    -- what == says
    have sb : sameB h1 k1 s1 h2 k2 s2 = z := by
      rw [Bool.eq_iff_iff, sameB_iff, iz]
      constructor
      · rintro ⟨rfl, rfl, rfl⟩ i
        rw [← R1.tell i, R2.tell i]
      · intro hT
        have : Rw.tell a c r = Rw.tell b e q := funext hT
        rw [this] at L1
        exact L1.uniq L2
    have sb2 : sameB h2 k2 s2 h1 k1 s1 = z := by
      rw [← sb, Bool.eq_iff_iff, sameB_iff, sameB_iff]
      exact ⟨fun ⟨x, y, w⟩ => ⟨x.symm, y.symm, w.symm⟩, fun ⟨x, y, w⟩ => ⟨x.symm, y.symm, w.symm⟩⟩
    have ow12 : ∀ ne, opOwn (phi G (n + 5)) ne (.ref p1) (.ref p2) m5 = .ok (.bl (z != ne)) m5 := fun ne => own_rows at1 at2 (by rw [Row_eq_ok (G := G) (σ := σ) (n := n + 4) h1 k1 h2 k2 s1 s2 p1 p2 m5 at1 at2, sb])
    have ow21 : ∀ ne, opOwn (phi G (n + 5)) ne (.ref p2) (.ref p1) m5 = .ok (.bl (z != ne)) m5 := fun ne => own_rows at2 at1 (by rw [Row_eq_ok (G := G) (σ := σ) (n := n + 4) h2 k2 h1 k1 s2 s1 p2 p1 m5 at2 at1, sb2])
    refine po_seq ?_
    simp [den, ow12, ow21, atI, ixN]
    refine (mkRow2_ok (G := G) (σ := σ) (n := n + 1) hW a c r m5 lc (by omega) (by omega)).mono ?_
    rintro _ m6 ⟨rfl, h3, k3, s3, R3, L3, rfl⟩
    obtain ⟨rfl, rfl, rfl⟩ := L3.uniq L1
    have at1' : (m5 ++ [rowOb h3 k3 s3])[p1]? = some (rowOb h3 k3 s3) := by rw [List.getElem?_append_left (List.getElem?_eq_some_iff.mp at1).1]; exact at1
    have at2' : (m5 ++ [rowOb h3 k3 s3])[p2]? = some (rowOb h2 k2 s2) := by rw [List.getElem?_append_left (List.getElem?_eq_some_iff.mp at2).1]; exact at2
    have at3 : (m5 ++ [rowOb h3 k3 s3])[m5.length]? = some (rowOb h3 k3 s3) := by simp
    have pu6 : Purse p (m5 ++ [rowOb h3 k3 s3]) := (Drawn.new pu4 _).pu
    clear ow12 ow21 at1 at2 pu4 ez
    generalize m5 ++ [rowOb h3 k3 s3] = m6 at at1' at2' at3 pu6 ⊢
    generalize m5.length = p3 at at3 ⊢
    have self : sameB h3 k3 s3 h3 k3 s3 = true := sameB_iff.mpr ⟨rfl, rfl, rfl⟩
    have ow13 : opOwn (phi G (n + 5)) false (.ref p1) (.ref p3) m6 = .ok (.bl true) m6 := own_rows (b := true) at1' at3 (by rw [Row_eq_ok (G := G) (σ := σ) (n := n + 4) h3 k3 h3 k3 s3 s3 p1 p3 m6 at1' at3, self])
    have ow11 : opOwn (phi G (n + 5)) false (.ref p1) (.ref p1) m6 = .ok (.bl true) m6 := own_rows (b := true) at1' at1' (by rw [Row_eq_ok (G := G) (σ := σ) (n := n + 4) h3 k3 h3 k3 s3 s3 p1 p1 m6 at1' at1', self])
    simp [ow13, ow11]
    obtain ⟨T, oT, rT⟩ := repB z
    have neT : ∀ m, opCmp .NotEq (.str T) (.str T) m = .ok (.bl false) m := fun m => by rw [neS oT oT]; simp
    refine po_seq ?_
    simp [den, rT, neT]
    have pc1 : opAt (phi G (n + 5)) "pace" (.ref p1) m6 = _ := (at_prop at1').trans (Row_pace_ok (G := G) (σ := σ) (n := n + 2) hW h3 k3 s3 p1 m6 at1' R1.ne (by have := R1.kl; omega))
    have pc2 : opAt (phi G (n + 5)) "pace" (.ref p2) m6 = _ := (at_prop at2').trans (Row_pace_ok (G := G) (σ := σ) (n := n + 2) hW h2 k2 s2 p2 m6 at2' R2.ne (by have := R2.kl; omega))
    have pd1 := L_paced_ok (G := G) (σ := σ) (n := n + 4) s3 r k3.length a c (by omega) R1.ne R1.kl R1.step m6
    have pd2 := L_paced_ok (G := G) (σ := σ) (n := n + 4) s2 q k2.length b e (by omega) R2.ne R2.kl R2.step m6
    refine po_seq ?_
    simp [den, pc1, pc2, pd1, pd2]
    have a1 : opAt (phi G (n + 5)) "early" (.ref p1) m6 = .ok (.tup (dints h3)) m6 := (at_prop at1').trans (Row_early_ok h3 k3 s3 _ m6 at1')
    have a2 : opAt (phi G (n + 5)) "again" (.ref p1) m6 = .ok (.tup (dints k3)) m6 := (at_prop at1').trans (Row_again_ok h3 k3 s3 _ m6 at1')
    have a3 : opAt (phi G (n + 5)) "rise" (.ref p1) m6 = .ok (.int s3) m6 := (at_prop at1').trans (Row_rise_ok h3 k3 s3 _ m6 at1')
    have b1 : opAt (phi G (n + 5)) "early" (.ref p2) m6 = .ok (.tup (dints h2)) m6 := (at_prop at2').trans (Row_early_ok h2 k2 s2 _ m6 at2')
    have b2 : opAt (phi G (n + 5)) "again" (.ref p2) m6 = .ok (.tup (dints k2)) m6 := (at_prop at2').trans (Row_again_ok h2 k2 s2 _ m6 at2')
    have b3 : opAt (phi G (n + 5)) "rise" (.ref p2) m6 = .ok (.int s2) m6 := (at_prop at2').trans (Row_rise_ok h2 k2 s2 _ m6 at2')
    refine po_seq ?_
    simp [den, b1, b2, b3]
    obtain ⟨bh, bs⟩ := least_big F1 L1 R1.hl R1.kl
    obtain ⟨T2, oT2, rT2⟩ := rep_formL bh bs (by have := R1.hl; omega) (by have := R1.kl; omega)
    have neT2 : ∀ m, opCmp .NotEq (.str T2) (.str T2) m = .ok (.bl false) m := fun m => by rw [neS oT2 oT2]; simp
    have go6 : ∀ F : LC.Flow → Sto → Prop, Po ((den (phi G (n + 5)) (f_L_right_k18_5 σ)).s [some (.ref p), some d, some (frmD a c r), some (frmD b e q), some (.ref p1), some (.ref p2), some (.bl z), some (.lst [.bl z, .bl z, .bl !z, .bl true, .bl true]), some (.lst [.tup (dints h2), .tup (dints k2), .int s2]), x9] m6) F →
        Po ((den (phi G (n + 5)) (f_L_right_k18_6 σ)).s [some (.ref p), some d, some (frmD a c r), some (frmD b e q), some (.ref p1), some (.ref p2), some (.bl z), some (.lst [.bl z, .bl z, .bl !z, .bl true, .bl true]), some (.lst [.tup (dints h2), .tup (dints k2), .int s2]), x9] m6) F := fun F hF => by
      refine po_seq ?_
      cases z with
      | false =>
        simp [den]
        exact hF
      | true =>
        obtain ⟨rfl, rfl, rfl⟩ := sameB_iff.mp sb
        simp [den, a1, a2, a3, rT2, neT2]
        exact hF
    refine go6 _ ?_
    clear go6
    have rr := repr_row (n := n + 5) at1' (Row_repr_ok (G := G) (σ := σ) (n := n + 4) h3 k3 s3 p1 m6 at1' (by have := R1.kl; omega) bs)
    have fC : atI [D.tup (dints a), D.tup (dints c), D.int r] 1 = some (.tup (dints c)) := rfl
    refine po_seq ?_
    simp [den, rr, a1, a2, a3, fC]
    have all : ∀ d ∈ [D.non, D.int 0, frmD a c r, D.tup (dints c), D.str (rowT k3 s3), D.lst [D.ref p1], D.tup [D.tup (dints h3), D.tup (dints k3), D.int s3]], (∃ t, tyOf m6 d = some t) ∧ ∀ j, d ≠ .ref j := fun d hd => by
      simp only [List.mem_cons, List.not_mem_nil, or_false] at hd
      rcases hd with rfl | rfl | rfl | rfl | rfl | rfl | rfl <;> exact ⟨⟨_, rfl⟩, fun j h => nomatch h⟩
    refine forL_po (n := 7) (fun i env m' => m' = m6 ∧ ∃ x9, env = [some (.ref p), some d, some (frmD a c r), some (frmD b e q), some (.ref p1), some (.ref p2), some (.bl z), some (.lst [.bl z, .bl z, .bl !z, .bl true, .bl true]), some (.lst [.tup (dints h2), .tup (dints k2), .int s2]), x9]) rfl ⟨rfl, _, rfl⟩ ?_ ?_
    · rintro i env m' w hi hw ⟨rfl, x9, rfl⟩
      obtain ⟨⟨t, ht⟩, hr⟩ := all w (List.mem_of_getElem? hw)
      have no := Row_eq_no (G := G) (σ := σ) (n := n + 4) p1 w t m' ht hr
      have o1 : ∀ ne, opOwn (phi G (n + 5)) ne (.ref p1) w m' = .ok (.bl ne) m' := fun ne => own_no at1' ht no
      have o2 : opOwn (phi G (n + 5)) false w (.ref p1) m' = .ok (.bl false) m' := own_refl at1' ht hr no
      simp
      refine po_seq ?_
      simp [den, o1, o2]
    · rintro env m' ⟨rfl, x9, rfl⟩
      simp
      exact pu6
  · rintro env m1 ⟨hp1, x1, x2, x3, x4, x5, x6, x7, x8, x9, rfl⟩
    refine po_seq ?_
    simp [den]
end
section
variable [HasD G (σ 2) (d_L_law_k18 σ)] [HasD G (σ 31) (d_L_right_k18 σ)] [HasI G "Row" (σ 72)] [HasP G "Row" "early" (σ 73)] [HasP G "Row" "again" (σ 74)] [HasP G "Row" "rise" (σ 75)]
  [HasP G "Row" "pace" (σ 86)] [HasD G (σ 77) (d_Row_repr σ)] [HasF G "Row" "cycle"] [HasF G "Row" "step"] [HasD G (σ 72) (d_Row_init σ)] [HasF G "Row" "head"]
  [HasD G (σ 76) (d_Row_eq σ)] [HasC G "Row"] [HasG G "Row" (.glb "Row")] [HasD G (σ 0) (d_L_cell σ)] [HasD G (σ 1) (d_L_purse σ)] [HasD G (σ 87) (d_L_paced σ)]
  [HasD G (σ 82) (d_L_same_told σ)] [HasD G (σ 88) (d_L_two σ)] [HasD G (σ 73) (d_Row_early σ)] [HasD G (σ 74) (d_Row_again σ)] [HasD G (σ 75) (d_Row_rise σ)] [HasD G (σ 86) (d_Row_pace σ)]
  [HasD G (σ 70) (d_check_integers σ)] [HasD G (σ 71) (d_goes_on σ)] [HasD G (σ 3) (d_is_integer σ)] [HasD G (σ 80) (d_L_at σ)] [HasD G (σ 84) (d_L_bent_form σ)] [HasD G (σ 79) (d_L_form σ)]
  [HasD G (σ 22) (d_L_take σ)] [HasD G (σ 81) (d_L_unrolled σ)] [HasD G (σ 56) (d_fraction σ)] [HasD G (σ 78) (d_L_int σ)] [HasD G (σ 55) (d_common_divisor σ)] [HasM G "Row" "__repr__" (σ 77)]
  [HasM G "Row" "__eq__" (σ 76)] [HasI G "Row" (σ 72)] [HasC G "Row"]
include σ
theorem L_law_k18_ok (hW : 2000 ≤ G.W) (ns : List Int) (hl : ns.length ≤ 63) : Po (callD G (n + 7) (σ 2) [.scr ns] []) fun v m' => v = .bl true := by
  refine po_callD rfl ?_; simp only [d_L_law_k18, f_L_law_k18]; simp only [List.map_cons, List.map_nil, List.length_cons, List.length_nil, List.cons_append, List.nil_append, List.replicate]
  refine po_seq ?_
  simp [den]
  refine ⟨small62I (by split <;> omega) (by split <;> omega), ?_⟩
  refine (lcL_po (n := (rangeL 0 (if (if 6 < (ns.length : Int) then 6 else (ns.length : Int)) > 2 then (if 6 < (ns.length : Int) then 6 else (ns.length : Int)) else 2)).length) (fun i acc m' => ∀ x ∈ acc, x = .bl true) rfl (by rw [rangeL_len]; unfold LIM; split <;> omega) (by simp) ?_ (fun acc m h => h)).mono ?_
  · rintro i acc m1 d hi hd hl h
    obtain ⟨k, hk, rfl⟩ := List.mem_map.mp (List.mem_of_getElem? hd)
    have hk := List.mem_range.mp hk
    simp [lcTurn, ifT, wipeE]
    refine (L_cell_ok (σ := σ) ns k (by omega) (by split at hk <;> omega) m1).mono ?_
    rintro _ m1 ⟨z, rfl, rfl⟩
    refine (L_purse_ok (σ := σ) z m1).mono ?_
    rintro _ m2 ⟨rfl, hp, _⟩
    refine (L_right_k18_ok (σ := σ) hW _ m2 hp).mono ?_
    rintro _ m3 rfl
    intro x hx
    rcases hx with hx | rfl
    · exact h x hx
    · rfl
  · intro acc m1 h
    simp [allTrue h]
end
end Tx

/-! ## the defs of the text, tied -/
namespace Tx
open PySem LC
def tp (i : Nat) : Stmt := PySem.Challenge.pw_linecents_k18_whole_rows_alike.main.body.getD i (.Pass ⟨0, 0, 0, 0⟩)
def sg : Nat → Nat := fun k => ([3, 55, 56, 70, 71, 72, 73, 74, 75, 86, 76, 77, 0, 1, 22, 78, 79, 80, 81, 82, 84, 87, 88, 31, 2] : List Nat).idxOf k
def d0 : LC.DInfo := ⟨"is_integer", "is_integer", tp 4, ["value"],
  ["value"], f_is_integer sg⟩
def d1 : LC.DInfo := ⟨"common_divisor", "common_divisor", tp 7, ["one", "other"],
  ["one", "other"], f_common_divisor sg⟩
def d2 : LC.DInfo := ⟨"fraction", "fraction", tp 8, ["top", "bottom", "same"],
  ["top", "bottom"], f_fraction sg⟩
def d3 : LC.DInfo := ⟨"check_integers", "check_integers", tp 10, ["value", "least", "number"],
  ["value", "least"], f_check_integers sg⟩
def d4 : LC.DInfo := ⟨"goes_on", "goes_on", tp 11, ["again", "rise", "size", "many", "step", "longer", "number", "at"],
  ["again", "rise", "size"], f_goes_on sg⟩
def d5 : LC.DInfo := ⟨"__init__", "Row.__init__", L2.inClass (tp 12) 0, ["self", "early", "again", "rise", "many", "size", "cycle", "step", "last", "part"],
  ["self", "early", "again", "rise"], f_Row_init sg⟩
def d6 : LC.DInfo := ⟨"early", "Row.early", L2.inClass (tp 12) 1, ["self"],
  ["self"], f_Row_early sg⟩
def d7 : LC.DInfo := ⟨"again", "Row.again", L2.inClass (tp 12) 2, ["self"],
  ["self"], f_Row_again sg⟩
def d8 : LC.DInfo := ⟨"rise", "Row.rise", L2.inClass (tp 12) 3, ["self"],
  ["self"], f_Row_rise sg⟩
def d9 : LC.DInfo := ⟨"pace", "Row.pace", L2.inClass (tp 12) 4, ["self"],
  ["self"], f_Row_pace sg⟩
def d10 : LC.DInfo := ⟨"__eq__", "Row.__eq__", L2.inClass (tp 12) 7, ["self", "other"],
  ["self", "other"], f_Row_eq sg⟩
def d11 : LC.DInfo := ⟨"__repr__", "Row.__repr__", L2.inClass (tp 12) 8, ["self"],
  ["self"], f_Row_repr sg⟩
def d12 : LC.DInfo := ⟨"_law_cell", "_law_cell", tp 14, ["_law_script", "_law_k", "_law_seed", "_law_part"],
  ["_law_script", "_law_k"], f_L_cell sg⟩
def d13 : LC.DInfo := ⟨"_law_purse", "_law_purse", tp 15, ["_law_cell_here", "_law_seed"],
  ["_law_cell_here"], f_L_purse sg⟩
def d14 : LC.DInfo := ⟨"_law_take", "_law_take", tp 16, ["_law_purse_here", "_law_many", "_law_digit", "_law_seed", "_law_factor"],
  ["_law_purse_here", "_law_many"], f_L_take sg⟩
def d15 : LC.DInfo := ⟨"_law_int", "_law_int", tp 17, ["_law_purse_here", "_law_way"],
  ["_law_purse_here"], f_L_int sg⟩
def d16 : LC.DInfo := ⟨"_law_form", "_law_form", tp 18, ["_law_purse_here", "_law_calm", "_law_first", "_law_cycle", "_law_k"],
  ["_law_purse_here"], f_L_form sg⟩
def d17 : LC.DInfo := ⟨"_law_at", "_law_at", tp 19, ["_law_form_here", "_law_at_here", "_law_first", "_law_cycle", "_law_step"],
  ["_law_form_here", "_law_at_here"], f_L_at sg⟩
def d18 : LC.DInfo := ⟨"_law_unrolled", "_law_unrolled", tp 20, ["_law_purse_here", "_law_form_here", "_law_size", "_law_many", "_law_first", "_law_cycle", "_law_k"],
  ["_law_purse_here", "_law_form_here"], f_L_unrolled sg⟩
def d19 : LC.DInfo := ⟨"_law_same_told", "_law_same_told", tp 21, ["_law_one_form", "_law_two_here", "_law_many", "_law_k"],
  ["_law_one_form", "_law_two_here"], f_L_same_told sg⟩
def d20 : LC.DInfo := ⟨"_law_bent_form", "_law_bent_form", tp 22, ["_law_purse_here", "_law_form_here", "_law_first", "_law_cycle", "_law_step", "_law_at_here", "_law_more"],
  ["_law_purse_here", "_law_form_here"], f_L_bent_form sg⟩
def d21 : LC.DInfo := ⟨"_law_paced", "_law_paced", tp 23, ["_law_told", "_law_form_here", "_law_part", "_law_k"],
  ["_law_told", "_law_form_here"], f_L_paced sg⟩
def d22 : LC.DInfo := ⟨"_law_two", "_law_two", tp 24, ["_law_purse_here", "_law_form_here", "_law_way", "_law_mate"],
  ["_law_purse_here"], f_L_two sg⟩
def d23 : LC.DInfo := ⟨"_law_right", "_law_right", tp 25, ["_law_purse_here", "_law_turn", "_law_near", "_law_far", "_law_mine", "_law_mate", "_law_same", "_law_told", "_law_shown", "_law_thing"],
  ["_law_purse_here"], f_L_right_k18 sg⟩
def d24 : LC.DInfo := ⟨"law", "law", tp 26, ["_law_script", "_law_k"],
  ["_law_script"], f_L_law_k18 sg⟩
def dis : List LC.DInfo := [d0, d1, d2, d3, d4, d5, d6, d7, d8, d9, d10, d11, d12, d13, d14, d15, d16, d17, d18, d19, d20, d21, d22, d23, d24]
def c0 : LC.Cls := { name := "Row", init := some 5, meths := [("__eq__", 10), ("__repr__", 11)], props := [("early", 6), ("again", 7), ("rise", 8), ("pace", 9)], flds := ["head", "cycle", "step", "__bool__", "__len__"] }
def cls : List LC.Cls := [c0]
def gt : LC.GT := { n := 25, fns := [(("is_integer" : PySem.Str), (0 : Nat)), (("common_divisor" : PySem.Str), (1 : Nat)), (("fraction" : PySem.Str), (2 : Nat)), (("check_integers" : PySem.Str), (3 : Nat)), (("goes_on" : PySem.Str), (4 : Nat)), (("_law_cell" : PySem.Str), (12 : Nat)), (("_law_purse" : PySem.Str), (13 : Nat)), (("_law_take" : PySem.Str), (14 : Nat)), (("_law_int" : PySem.Str), (15 : Nat)), (("_law_form" : PySem.Str), (16 : Nat)), (("_law_at" : PySem.Str), (17 : Nat)), (("_law_unrolled" : PySem.Str), (18 : Nat)), (("_law_same_told" : PySem.Str), (19 : Nat)), (("_law_bent_form" : PySem.Str), (20 : Nat)), (("_law_paced" : PySem.Str), (21 : Nat)), (("_law_two" : PySem.Str), (22 : Nat)), (("_law_right" : PySem.Str), (23 : Nat)), (("law" : PySem.Str), (24 : Nat))], noG := ["abs", "all", "any", "bool", "divmod", "int", "isinstance", "len", "list", "max", "min", "range", "repr", "tuple"], kws := [], cls := cls }
def gl : List (Str × LC.D) := [("Row", .glb "Row")]
set_option maxRecDepth 100000 in
theorem ok : dis.all (LC.okD gt) = true := by decide +kernel
def Wn : Nat := 100000
abbrev Gp : LC.Prog := LC.progOf dis gt.cls gl Wn
instance : LC.HasD Gp (sg 3) (d_is_integer sg) := ⟨rfl⟩
instance : LC.HasD Gp (sg 55) (d_common_divisor sg) := ⟨rfl⟩
instance : LC.HasD Gp (sg 56) (d_fraction sg) := ⟨rfl⟩
instance : LC.HasD Gp (sg 70) (d_check_integers sg) := ⟨rfl⟩
instance : LC.HasD Gp (sg 71) (d_goes_on sg) := ⟨rfl⟩
instance : LC.HasD Gp (sg 72) (d_Row_init sg) := ⟨rfl⟩
instance : LC.HasD Gp (sg 73) (d_Row_early sg) := ⟨rfl⟩
instance : LC.HasD Gp (sg 74) (d_Row_again sg) := ⟨rfl⟩
instance : LC.HasD Gp (sg 75) (d_Row_rise sg) := ⟨rfl⟩
instance : LC.HasD Gp (sg 86) (d_Row_pace sg) := ⟨rfl⟩
instance : LC.HasD Gp (sg 76) (d_Row_eq sg) := ⟨rfl⟩
instance : LC.HasD Gp (sg 77) (d_Row_repr sg) := ⟨rfl⟩
instance : LC.HasD Gp (sg 0) (d_L_cell sg) := ⟨rfl⟩
instance : LC.HasD Gp (sg 1) (d_L_purse sg) := ⟨rfl⟩
instance : LC.HasD Gp (sg 22) (d_L_take sg) := ⟨rfl⟩
instance : LC.HasD Gp (sg 78) (d_L_int sg) := ⟨rfl⟩
instance : LC.HasD Gp (sg 79) (d_L_form sg) := ⟨rfl⟩
instance : LC.HasD Gp (sg 80) (d_L_at sg) := ⟨rfl⟩
instance : LC.HasD Gp (sg 81) (d_L_unrolled sg) := ⟨rfl⟩
instance : LC.HasD Gp (sg 82) (d_L_same_told sg) := ⟨rfl⟩
instance : LC.HasD Gp (sg 84) (d_L_bent_form sg) := ⟨rfl⟩
instance : LC.HasD Gp (sg 87) (d_L_paced sg) := ⟨rfl⟩
instance : LC.HasD Gp (sg 88) (d_L_two sg) := ⟨rfl⟩
instance : LC.HasD Gp (sg 31) (d_L_right_k18 sg) := ⟨rfl⟩
instance : LC.HasD Gp (sg 2) (d_L_law_k18 sg) := ⟨rfl⟩
instance : LC.HasC Gp "Row" := ⟨_, rfl⟩
instance : LC.HasI Gp "Row" (sg 72) := ⟨_, rfl, rfl⟩
instance : LC.HasM Gp "Row" "__eq__" (sg 76) := ⟨_, rfl, rfl⟩
instance : LC.HasM Gp "Row" "__repr__" (sg 77) := ⟨_, rfl, rfl⟩
instance : LC.HasP Gp "Row" "early" (sg 73) := ⟨_, rfl, by decide +kernel, rfl⟩
instance : LC.HasP Gp "Row" "again" (sg 74) := ⟨_, rfl, by decide +kernel, rfl⟩
instance : LC.HasP Gp "Row" "rise" (sg 75) := ⟨_, rfl, by decide +kernel, rfl⟩
instance : LC.HasP Gp "Row" "pace" (sg 86) := ⟨_, rfl, by decide +kernel, rfl⟩
instance : LC.HasF Gp "Row" "head" := ⟨_, rfl, by decide +kernel⟩
instance : LC.HasF Gp "Row" "cycle" := ⟨_, rfl, by decide +kernel⟩
instance : LC.HasF Gp "Row" "step" := ⟨_, rfl, by decide +kernel⟩
instance : LC.HasF Gp "Row" "__bool__" := ⟨_, rfl, by decide +kernel⟩
instance : LC.HasF Gp "Row" "__len__" := ⟨_, rfl, by decide +kernel⟩
instance : LC.HasG Gp "Row" (.glb "Row") := ⟨rfl⟩
section
open PySem PySem.Spec PyProof.Rows
set_option maxRecDepth 100000 in
set_option maxHeartbeats 4000000 in
theorem all_mk {K : PySem.W.Frag} {h : Heap} {mg : Str → Option Value} {fa C0 g0 g1 g2 g3 g4 g5 g6 g7 g8 g9 g10 g11 g12 g13 g14 g15 g16 g17 g18 g19 g20 g21 g22 g23 g24 q6 q7 q8 q9 : Addr} (X : K.In h) (G : h.Ns mainGlobals mg) (hfa : mg "law" = some (.ref fa))
    {od0 od1 od2 od3 od4 od5 od6 od7 od8 od9 od10 od11 od12 od13 od14 od15 od16 od17 od18 od19 od20 od21 od22 od23 od24 an0 an1 an2 an3 an4 an5 an6 an7 an8 an9 an10 an11 an12 an13 an14 an15 an16 an17 an18 an19 an20 an21 an22 an23 an24 : Option Addr} {sl0 sl1 sl2 sl3 sl4 sl5 sl6 sl7 sl8 sl9 sl10 sl11 sl12 sl13 sl14 sl15 sl16 sl17 sl18 sl19 sl20 sl21 sl22 sl23 sl24 : Array (Option Value)} {oc0 oc1 oc2 oc3 oc4 oc5 oc6 oc7 oc8 oc9 oc10 oc11 oc12 oc13 oc14 oc15 oc16 oc17 oc18 oc19 oc20 oc21 oc22 oc23 oc24 kV0 kV1 kV2 kV3 kV4 kV5 kV6 kV7 kV8 kV9 kV10 kV11 kV12 kV13 kV14 kV15 kV16 kV17 kV18 kV19 kV20 kV21 kV22 kV23 kV24 dc0 dc1 dc2 dc3 dc4 dc5 dc6 dc7 dc8 dc9 dc10 dc11 dc12 dc13 dc14 dc15 dc16 dc17 dc18 dc19 dc20 dc21 dc22 dc23 dc24 pm0 pm1 pm2 pm3 pm4 pm5 pm6 pm7 pm8 pm9 pm10 pm11 pm12 pm13 pm14 pm15 pm16 pm17 pm18 pm19 pm20 pm21 pm22 pm23 pm24 cd0 cd1 cd2 cd3 cd4 cd5 cd6 cd7 cd8 cd9 cd10 cd11 cd12 cd13 cd14 cd15 cd16 cd17 cd18 cd19 cd20 cd21 cd22 cd23 cd24 ct0 ct1 ct2 ct3 ct4 ct5 ct6 ct7 ct8 ct9 ct10 ct11 ct12 ct13 ct14 ct15 ct16 ct17 ct18 ct19 ct20 ct21 ct22 ct23 ct24 : Value} {rs6 rs7 rs8 rs9 : List Value}
    (aC0 : PySem.W.nsIn K mainGlobals "Row" = some (some (.ref C0))) (pg0 : PySem.W.plainGet K C0 Str.empty = true) (hd0 : PySem.W.hasDictIn K C0 = true) (po0 : PySem.W.plainOver K C0 = true)
    (sa0 : PySem.W.findIn K (.ref C0) "__setattr__" = some (some (.builtin "object.__setattr__"))) (cl0 : PySem.W.isClsIn K C0 = true) (ty0 : PySem.W.typeIn K (.ref C0) = some (.type "type")) (kc0 : PySem.W.findIn K (.ref C0) "__class__" = some (some (.builtin "object.__class__")))
    (ko0 : PySem.W.mroIn K C0 (.type "object") = some true) (nn0 : PySem.W.mroIn K C0 (.type "NoneType") = some false) (kn0 : PySem.W.findIn K (.ref C0) "__ne__" = some (some (.builtin "object.__ne__"))) (n0_0 : PySem.W.mroIn K C0 (.type "int") = some false)
    (n0_1 : PySem.W.mroIn K C0 (.type "bool") = some false) (n0_2 : PySem.W.mroIn K C0 (.type "str") = some false) (n0_3 : PySem.W.mroIn K C0 (.type "tuple") = some false) (n0_4 : PySem.W.mroIn K C0 (.type "list") = some false)
    (n0_5 : PySem.W.mroIn K C0 (.type "dict") = some false) (mk0 : PySem.W.makesIn K C0 = true) (kp0 : PySem.W.keepIn K (.ref C0) = true) (f0_0 : PySem.W.findIn K (.ref C0) "head" = some none)
    (f0_1 : PySem.W.findIn K (.ref C0) "cycle" = some none) (f0_2 : PySem.W.findIn K (.ref C0) "step" = some none) (f0_3 : PySem.W.findIn K (.ref C0) "__bool__" = some none) (f0_4 : PySem.W.findIn K (.ref C0) "__len__" = some none)
    (kg : PySem.W.specialIn K (.builtin "object.__class__") "__get__" = some (some (.builtin "getset_descriptor.__get__"))) (kt : PySem.W.takesIn K (.builtin "object.__class__") = some true) (a0 : PySem.W.nsIn K mainGlobals "is_integer" = some (some (.ref g0))) (l0 : K.lookup g0 = some ⟨oc0, od0, .func (PySem.W.fnOf "is_integer" "is_integer" (L2.defArgs (tp 4)) (L2.defBody (tp 4)) (L2.defScope (tp 4)) .none kV0 dc0 pm0 an0 cd0 ct0), sl0⟩)
    (c0 : PySem.W.codeIn K cd0 "is_integer" = true) (k0 : PySem.W.keepIn K (.ref g0) = true) (a1 : PySem.W.nsIn K mainGlobals "common_divisor" = some (some (.ref g1))) (l1 : K.lookup g1 = some ⟨oc1, od1, .func (PySem.W.fnOf "common_divisor" "common_divisor" (L2.defArgs (tp 7)) (L2.defBody (tp 7)) (L2.defScope (tp 7)) .none kV1 dc1 pm1 an1 cd1 ct1), sl1⟩)
    (c1 : PySem.W.codeIn K cd1 "common_divisor" = true) (k1 : PySem.W.keepIn K (.ref g1) = true) (a2 : PySem.W.nsIn K mainGlobals "fraction" = some (some (.ref g2))) (l2 : K.lookup g2 = some ⟨oc2, od2, .func (PySem.W.fnOf "fraction" "fraction" (L2.defArgs (tp 8)) (L2.defBody (tp 8)) (L2.defScope (tp 8)) .none kV2 dc2 pm2 an2 cd2 ct2), sl2⟩)
    (c2 : PySem.W.codeIn K cd2 "fraction" = true) (k2 : PySem.W.keepIn K (.ref g2) = true) (a3 : PySem.W.nsIn K mainGlobals "check_integers" = some (some (.ref g3))) (l3 : K.lookup g3 = some ⟨oc3, od3, .func (PySem.W.fnOf "check_integers" "check_integers" (L2.defArgs (tp 10)) (L2.defBody (tp 10)) (L2.defScope (tp 10)) .none kV3 dc3 pm3 an3 cd3 ct3), sl3⟩)
    (c3 : PySem.W.codeIn K cd3 "check_integers" = true) (k3 : PySem.W.keepIn K (.ref g3) = true) (a4 : PySem.W.nsIn K mainGlobals "goes_on" = some (some (.ref g4))) (l4 : K.lookup g4 = some ⟨oc4, od4, .func (PySem.W.fnOf "goes_on" "goes_on" (L2.defArgs (tp 11)) (L2.defBody (tp 11)) (L2.defScope (tp 11)) .none kV4 dc4 pm4 an4 cd4 ct4), sl4⟩)
    (c4 : PySem.W.codeIn K cd4 "goes_on" = true) (k4 : PySem.W.keepIn K (.ref g4) = true) (a5 : PySem.W.findIn K (.ref C0) "__init__" = some (some (.ref g5))) (i5 : PySem.W.isFn K (.ref g5) = true)
    (l5 : K.lookup g5 = some ⟨oc5, od5, .func (PySem.W.fnOf "__init__" "Row.__init__" (L2.defArgs (L2.inClass (tp 12) 0)) (L2.defBody (L2.inClass (tp 12) 0)) (L2.defScope (L2.inClass (tp 12) 0)) .none kV5 dc5 pm5 an5 cd5 ct5), sl5⟩) (c5 : PySem.W.codeIn K cd5 "Row.__init__" = true) (k5 : PySem.W.keepIn K (.ref g5) = true) (a6 : PySem.W.findIn K (.ref C0) "early" = some (some (.ref q6)))
    (b6 : PySem.W.specialIn K (.ref q6) "__get__" = some (some (.builtin "property.__get__"))) (t6 : PySem.W.takesIn K (.ref q6) = some true) (r6 : PySem.W.recIn K q6 "property" = some (.ref g6 :: rs6)) (l6 : K.lookup g6 = some ⟨oc6, od6, .func (PySem.W.fnOf "early" "Row.early" (L2.defArgs (L2.inClass (tp 12) 1)) (L2.defBody (L2.inClass (tp 12) 1)) (L2.defScope (L2.inClass (tp 12) 1)) .none kV6 dc6 pm6 an6 cd6 ct6), sl6⟩)
    (c6 : PySem.W.codeIn K cd6 "Row.early" = true) (k6 : PySem.W.keepIn K (.ref g6) = true) (a7 : PySem.W.findIn K (.ref C0) "again" = some (some (.ref q7))) (b7 : PySem.W.specialIn K (.ref q7) "__get__" = some (some (.builtin "property.__get__")))
    (t7 : PySem.W.takesIn K (.ref q7) = some true) (r7 : PySem.W.recIn K q7 "property" = some (.ref g7 :: rs7)) (l7 : K.lookup g7 = some ⟨oc7, od7, .func (PySem.W.fnOf "again" "Row.again" (L2.defArgs (L2.inClass (tp 12) 2)) (L2.defBody (L2.inClass (tp 12) 2)) (L2.defScope (L2.inClass (tp 12) 2)) .none kV7 dc7 pm7 an7 cd7 ct7), sl7⟩) (c7 : PySem.W.codeIn K cd7 "Row.again" = true)
    (k7 : PySem.W.keepIn K (.ref g7) = true) (a8 : PySem.W.findIn K (.ref C0) "rise" = some (some (.ref q8))) (b8 : PySem.W.specialIn K (.ref q8) "__get__" = some (some (.builtin "property.__get__"))) (t8 : PySem.W.takesIn K (.ref q8) = some true)
    (r8 : PySem.W.recIn K q8 "property" = some (.ref g8 :: rs8)) (l8 : K.lookup g8 = some ⟨oc8, od8, .func (PySem.W.fnOf "rise" "Row.rise" (L2.defArgs (L2.inClass (tp 12) 3)) (L2.defBody (L2.inClass (tp 12) 3)) (L2.defScope (L2.inClass (tp 12) 3)) .none kV8 dc8 pm8 an8 cd8 ct8), sl8⟩) (c8 : PySem.W.codeIn K cd8 "Row.rise" = true) (k8 : PySem.W.keepIn K (.ref g8) = true)
    (a9 : PySem.W.findIn K (.ref C0) "pace" = some (some (.ref q9))) (b9 : PySem.W.specialIn K (.ref q9) "__get__" = some (some (.builtin "property.__get__"))) (t9 : PySem.W.takesIn K (.ref q9) = some true) (r9 : PySem.W.recIn K q9 "property" = some (.ref g9 :: rs9))
    (l9 : K.lookup g9 = some ⟨oc9, od9, .func (PySem.W.fnOf "pace" "Row.pace" (L2.defArgs (L2.inClass (tp 12) 4)) (L2.defBody (L2.inClass (tp 12) 4)) (L2.defScope (L2.inClass (tp 12) 4)) .none kV9 dc9 pm9 an9 cd9 ct9), sl9⟩) (c9 : PySem.W.codeIn K cd9 "Row.pace" = true) (k9 : PySem.W.keepIn K (.ref g9) = true) (a10 : PySem.W.findIn K (.ref C0) "__eq__" = some (some (.ref g10)))
    (i10 : PySem.W.isFn K (.ref g10) = true) (l10 : K.lookup g10 = some ⟨oc10, od10, .func (PySem.W.fnOf "__eq__" "Row.__eq__" (L2.defArgs (L2.inClass (tp 12) 7)) (L2.defBody (L2.inClass (tp 12) 7)) (L2.defScope (L2.inClass (tp 12) 7)) .none kV10 dc10 pm10 an10 cd10 ct10), sl10⟩) (c10 : PySem.W.codeIn K cd10 "Row.__eq__" = true) (k10 : PySem.W.keepIn K (.ref g10) = true)
    (a11 : PySem.W.findIn K (.ref C0) "__repr__" = some (some (.ref g11))) (i11 : PySem.W.isFn K (.ref g11) = true) (l11 : K.lookup g11 = some ⟨oc11, od11, .func (PySem.W.fnOf "__repr__" "Row.__repr__" (L2.defArgs (L2.inClass (tp 12) 8)) (L2.defBody (L2.inClass (tp 12) 8)) (L2.defScope (L2.inClass (tp 12) 8)) .none kV11 dc11 pm11 an11 cd11 ct11), sl11⟩) (c11 : PySem.W.codeIn K cd11 "Row.__repr__" = true)
    (k11 : PySem.W.keepIn K (.ref g11) = true) (a12 : PySem.W.nsIn K mainGlobals "_law_cell" = some (some (.ref g12))) (l12 : K.lookup g12 = some ⟨oc12, od12, .func (PySem.W.fnOf "_law_cell" "_law_cell" (L2.defArgs (tp 14)) (L2.defBody (tp 14)) (L2.defScope (tp 14)) .none kV12 dc12 pm12 an12 cd12 ct12), sl12⟩) (c12 : PySem.W.codeIn K cd12 "_law_cell" = true)
    (k12 : PySem.W.keepIn K (.ref g12) = true) (a13 : PySem.W.nsIn K mainGlobals "_law_purse" = some (some (.ref g13))) (l13 : K.lookup g13 = some ⟨oc13, od13, .func (PySem.W.fnOf "_law_purse" "_law_purse" (L2.defArgs (tp 15)) (L2.defBody (tp 15)) (L2.defScope (tp 15)) .none kV13 dc13 pm13 an13 cd13 ct13), sl13⟩) (c13 : PySem.W.codeIn K cd13 "_law_purse" = true)
    (k13 : PySem.W.keepIn K (.ref g13) = true) (a14 : PySem.W.nsIn K mainGlobals "_law_take" = some (some (.ref g14))) (l14 : K.lookup g14 = some ⟨oc14, od14, .func (PySem.W.fnOf "_law_take" "_law_take" (L2.defArgs (tp 16)) (L2.defBody (tp 16)) (L2.defScope (tp 16)) .none kV14 dc14 pm14 an14 cd14 ct14), sl14⟩) (c14 : PySem.W.codeIn K cd14 "_law_take" = true)
    (k14 : PySem.W.keepIn K (.ref g14) = true) (a15 : PySem.W.nsIn K mainGlobals "_law_int" = some (some (.ref g15))) (l15 : K.lookup g15 = some ⟨oc15, od15, .func (PySem.W.fnOf "_law_int" "_law_int" (L2.defArgs (tp 17)) (L2.defBody (tp 17)) (L2.defScope (tp 17)) .none kV15 dc15 pm15 an15 cd15 ct15), sl15⟩) (c15 : PySem.W.codeIn K cd15 "_law_int" = true)
    (k15 : PySem.W.keepIn K (.ref g15) = true) (a16 : PySem.W.nsIn K mainGlobals "_law_form" = some (some (.ref g16))) (l16 : K.lookup g16 = some ⟨oc16, od16, .func (PySem.W.fnOf "_law_form" "_law_form" (L2.defArgs (tp 18)) (L2.defBody (tp 18)) (L2.defScope (tp 18)) .none kV16 dc16 pm16 an16 cd16 ct16), sl16⟩) (c16 : PySem.W.codeIn K cd16 "_law_form" = true)
    (k16 : PySem.W.keepIn K (.ref g16) = true) (a17 : PySem.W.nsIn K mainGlobals "_law_at" = some (some (.ref g17))) (l17 : K.lookup g17 = some ⟨oc17, od17, .func (PySem.W.fnOf "_law_at" "_law_at" (L2.defArgs (tp 19)) (L2.defBody (tp 19)) (L2.defScope (tp 19)) .none kV17 dc17 pm17 an17 cd17 ct17), sl17⟩) (c17 : PySem.W.codeIn K cd17 "_law_at" = true)
    (k17 : PySem.W.keepIn K (.ref g17) = true) (a18 : PySem.W.nsIn K mainGlobals "_law_unrolled" = some (some (.ref g18))) (l18 : K.lookup g18 = some ⟨oc18, od18, .func (PySem.W.fnOf "_law_unrolled" "_law_unrolled" (L2.defArgs (tp 20)) (L2.defBody (tp 20)) (L2.defScope (tp 20)) .none kV18 dc18 pm18 an18 cd18 ct18), sl18⟩) (c18 : PySem.W.codeIn K cd18 "_law_unrolled" = true)
    (k18 : PySem.W.keepIn K (.ref g18) = true) (a19 : PySem.W.nsIn K mainGlobals "_law_same_told" = some (some (.ref g19))) (l19 : K.lookup g19 = some ⟨oc19, od19, .func (PySem.W.fnOf "_law_same_told" "_law_same_told" (L2.defArgs (tp 21)) (L2.defBody (tp 21)) (L2.defScope (tp 21)) .none kV19 dc19 pm19 an19 cd19 ct19), sl19⟩) (c19 : PySem.W.codeIn K cd19 "_law_same_told" = true)
    (k19 : PySem.W.keepIn K (.ref g19) = true) (a20 : PySem.W.nsIn K mainGlobals "_law_bent_form" = some (some (.ref g20))) (l20 : K.lookup g20 = some ⟨oc20, od20, .func (PySem.W.fnOf "_law_bent_form" "_law_bent_form" (L2.defArgs (tp 22)) (L2.defBody (tp 22)) (L2.defScope (tp 22)) .none kV20 dc20 pm20 an20 cd20 ct20), sl20⟩) (c20 : PySem.W.codeIn K cd20 "_law_bent_form" = true)
    (k20 : PySem.W.keepIn K (.ref g20) = true) (a21 : PySem.W.nsIn K mainGlobals "_law_paced" = some (some (.ref g21))) (l21 : K.lookup g21 = some ⟨oc21, od21, .func (PySem.W.fnOf "_law_paced" "_law_paced" (L2.defArgs (tp 23)) (L2.defBody (tp 23)) (L2.defScope (tp 23)) .none kV21 dc21 pm21 an21 cd21 ct21), sl21⟩) (c21 : PySem.W.codeIn K cd21 "_law_paced" = true)
    (k21 : PySem.W.keepIn K (.ref g21) = true) (a22 : PySem.W.nsIn K mainGlobals "_law_two" = some (some (.ref g22))) (l22 : K.lookup g22 = some ⟨oc22, od22, .func (PySem.W.fnOf "_law_two" "_law_two" (L2.defArgs (tp 24)) (L2.defBody (tp 24)) (L2.defScope (tp 24)) .none kV22 dc22 pm22 an22 cd22 ct22), sl22⟩) (c22 : PySem.W.codeIn K cd22 "_law_two" = true)
    (k22 : PySem.W.keepIn K (.ref g22) = true) (a23 : PySem.W.nsIn K mainGlobals "_law_right" = some (some (.ref g23))) (l23 : K.lookup g23 = some ⟨oc23, od23, .func (PySem.W.fnOf "_law_right" "_law_right" (L2.defArgs (tp 25)) (L2.defBody (tp 25)) (L2.defScope (tp 25)) .none kV23 dc23 pm23 an23 cd23 ct23), sl23⟩) (c23 : PySem.W.codeIn K cd23 "_law_right" = true)
    (k23 : PySem.W.keepIn K (.ref g23) = true) (a24 : PySem.W.nsIn K mainGlobals "law" = some (some (.ref g24))) (l24 : K.lookup g24 = some ⟨oc24, od24, .func (PySem.W.fnOf "law" "law" (L2.defArgs (tp 26)) (L2.defBody (tp 26)) (L2.defScope (tp 26)) .none kV24 dc24 pm24 an24 cd24 ct24), sl24⟩) (c24 : PySem.W.codeIn K cd24 "law" = true)
    (k24 : PySem.W.keepIn K (.ref g24) = true) (z0 : PySem.W.nsIn K mainGlobals "abs" = some none) (z1 : PySem.W.nsIn K mainGlobals "all" = some none) (z2 : PySem.W.nsIn K mainGlobals "any" = some none)
    (z3 : PySem.W.nsIn K mainGlobals "bool" = some none) (z4 : PySem.W.nsIn K mainGlobals "divmod" = some none) (z5 : PySem.W.nsIn K mainGlobals "int" = some none) (z6 : PySem.W.nsIn K mainGlobals "isinstance" = some none)
    (z7 : PySem.W.nsIn K mainGlobals "len" = some none) (z8 : PySem.W.nsIn K mainGlobals "list" = some none) (z9 : PySem.W.nsIn K mainGlobals "max" = some none) (z10 : PySem.W.nsIn K mainGlobals "min" = some none)
    (z11 : PySem.W.nsIn K mainGlobals "range" = some none) (z12 : PySem.W.nsIn K mainGlobals "repr" = some none) (z13 : PySem.W.nsIn K mainGlobals "tuple" = some none)
    : ∃ (ts : List LC.DefAt) (ca : Str → Addr), LC.Pg K mg gt dis gl ts ca ∧ 24 < gt.n ∧ (LC.tbOf ts 24).ad = fa ∧ (LC.tbOf ts 24).ps = ([("_law_script" : Str)]) ∧ ∀ (s : Shared) (u : Value), BindsTo s (LC.tbOf ts 24).fd ⟨[u], []⟩ [("_law_script", u)] := by
  have e := hfa.symm.trans (PySem.W.mg_of X G a24)
  cases e
  have F0 := L2.fun_mk (st := tp 4) l0 c0 k0
  have B0 := F0.binds (ps := d0.ps) fun _ _ _ _ _ _ us hl => match us, hl with | [_], _ => rfl
  have F1 := L2.fun_mk (st := tp 7) l1 c1 k1
  have B1 := F1.binds (ps := d1.ps) fun _ _ _ _ _ _ us hl => match us, hl with | [_, _], _ => rfl
  have F2 := L2.fun_mk (st := tp 8) l2 c2 k2
  have B2 := F2.binds (ps := d2.ps) fun _ _ _ _ _ _ us hl => match us, hl with | [_, _], _ => rfl
  have F3 := L2.fun_mk (st := tp 10) l3 c3 k3
  have B3 := F3.binds (ps := d3.ps) fun _ _ _ _ _ _ us hl => match us, hl with | [_, _], _ => rfl
  have F4 := L2.fun_mk (st := tp 11) l4 c4 k4
  have B4 := F4.binds (ps := d4.ps) fun _ _ _ _ _ _ us hl => match us, hl with | [_, _, _], _ => rfl
  have F5 := L2.fun_mk (st := L2.inClass (tp 12) 0) l5 c5 k5
  have B5 := F5.binds (ps := d5.ps) fun _ _ _ _ _ _ us hl => match us, hl with | [_, _, _, _], _ => rfl
  have F6 := L2.fun_mk (st := L2.inClass (tp 12) 1) l6 c6 k6
  have B6 := F6.binds (ps := d6.ps) fun _ _ _ _ _ _ us hl => match us, hl with | [_], _ => rfl
  have F7 := L2.fun_mk (st := L2.inClass (tp 12) 2) l7 c7 k7
  have B7 := F7.binds (ps := d7.ps) fun _ _ _ _ _ _ us hl => match us, hl with | [_], _ => rfl
  have F8 := L2.fun_mk (st := L2.inClass (tp 12) 3) l8 c8 k8
  have B8 := F8.binds (ps := d8.ps) fun _ _ _ _ _ _ us hl => match us, hl with | [_], _ => rfl
  have F9 := L2.fun_mk (st := L2.inClass (tp 12) 4) l9 c9 k9
  have B9 := F9.binds (ps := d9.ps) fun _ _ _ _ _ _ us hl => match us, hl with | [_], _ => rfl
  have F10 := L2.fun_mk (st := L2.inClass (tp 12) 7) l10 c10 k10
  have B10 := F10.binds (ps := d10.ps) fun _ _ _ _ _ _ us hl => match us, hl with | [_, _], _ => rfl
  have F11 := L2.fun_mk (st := L2.inClass (tp 12) 8) l11 c11 k11
  have B11 := F11.binds (ps := d11.ps) fun _ _ _ _ _ _ us hl => match us, hl with | [_], _ => rfl
  have F12 := L2.fun_mk (st := tp 14) l12 c12 k12
  have B12 := F12.binds (ps := d12.ps) fun _ _ _ _ _ _ us hl => match us, hl with | [_, _], _ => rfl
  have F13 := L2.fun_mk (st := tp 15) l13 c13 k13
  have B13 := F13.binds (ps := d13.ps) fun _ _ _ _ _ _ us hl => match us, hl with | [_], _ => rfl
  have F14 := L2.fun_mk (st := tp 16) l14 c14 k14
  have B14 := F14.binds (ps := d14.ps) fun _ _ _ _ _ _ us hl => match us, hl with | [_, _], _ => rfl
  have F15 := L2.fun_mk (st := tp 17) l15 c15 k15
  have B15 := F15.binds (ps := d15.ps) fun _ _ _ _ _ _ us hl => match us, hl with | [_], _ => rfl
  have F16 := L2.fun_mk (st := tp 18) l16 c16 k16
  have B16 := F16.binds (ps := d16.ps) fun _ _ _ _ _ _ us hl => match us, hl with | [_], _ => rfl
  have F17 := L2.fun_mk (st := tp 19) l17 c17 k17
  have B17 := F17.binds (ps := d17.ps) fun _ _ _ _ _ _ us hl => match us, hl with | [_, _], _ => rfl
  have F18 := L2.fun_mk (st := tp 20) l18 c18 k18
  have B18 := F18.binds (ps := d18.ps) fun _ _ _ _ _ _ us hl => match us, hl with | [_, _], _ => rfl
  have F19 := L2.fun_mk (st := tp 21) l19 c19 k19
  have B19 := F19.binds (ps := d19.ps) fun _ _ _ _ _ _ us hl => match us, hl with | [_, _], _ => rfl
  have F20 := L2.fun_mk (st := tp 22) l20 c20 k20
  have B20 := F20.binds (ps := d20.ps) fun _ _ _ _ _ _ us hl => match us, hl with | [_, _], _ => rfl
  have F21 := L2.fun_mk (st := tp 23) l21 c21 k21
  have B21 := F21.binds (ps := d21.ps) fun _ _ _ _ _ _ us hl => match us, hl with | [_, _], _ => rfl
  have F22 := L2.fun_mk (st := tp 24) l22 c22 k22
  have B22 := F22.binds (ps := d22.ps) fun _ _ _ _ _ _ us hl => match us, hl with | [_], _ => rfl
  have F23 := L2.fun_mk (st := tp 25) l23 c23 k23
  have B23 := F23.binds (ps := d23.ps) fun _ _ _ _ _ _ us hl => match us, hl with | [_], _ => rfl
  have F24 := L2.fun_mk (st := tp 26) l24 c24 k24
  have B24 := F24.binds (ps := d24.ps) fun _ _ _ _ _ _ us hl => match us, hl with | [_], _ => rfl
  refine ⟨[⟨g0, PySem.W.fnOf "is_integer" "is_integer" (L2.defArgs (tp 4)) (L2.defBody (tp 4)) (L2.defScope (tp 4)) .none kV0 dc0 pm0 an0 cd0 ct0, d0.ps⟩, ⟨g1, PySem.W.fnOf "common_divisor" "common_divisor" (L2.defArgs (tp 7)) (L2.defBody (tp 7)) (L2.defScope (tp 7)) .none kV1 dc1 pm1 an1 cd1 ct1, d1.ps⟩, ⟨g2, PySem.W.fnOf "fraction" "fraction" (L2.defArgs (tp 8)) (L2.defBody (tp 8)) (L2.defScope (tp 8)) .none kV2 dc2 pm2 an2 cd2 ct2, d2.ps⟩, ⟨g3, PySem.W.fnOf "check_integers" "check_integers" (L2.defArgs (tp 10)) (L2.defBody (tp 10)) (L2.defScope (tp 10)) .none kV3 dc3 pm3 an3 cd3 ct3, d3.ps⟩, ⟨g4, PySem.W.fnOf "goes_on" "goes_on" (L2.defArgs (tp 11)) (L2.defBody (tp 11)) (L2.defScope (tp 11)) .none kV4 dc4 pm4 an4 cd4 ct4, d4.ps⟩, ⟨g5, PySem.W.fnOf "__init__" "Row.__init__" (L2.defArgs (L2.inClass (tp 12) 0)) (L2.defBody (L2.inClass (tp 12) 0)) (L2.defScope (L2.inClass (tp 12) 0)) .none kV5 dc5 pm5 an5 cd5 ct5, d5.ps⟩, ⟨g6, PySem.W.fnOf "early" "Row.early" (L2.defArgs (L2.inClass (tp 12) 1)) (L2.defBody (L2.inClass (tp 12) 1)) (L2.defScope (L2.inClass (tp 12) 1)) .none kV6 dc6 pm6 an6 cd6 ct6, d6.ps⟩, ⟨g7, PySem.W.fnOf "again" "Row.again" (L2.defArgs (L2.inClass (tp 12) 2)) (L2.defBody (L2.inClass (tp 12) 2)) (L2.defScope (L2.inClass (tp 12) 2)) .none kV7 dc7 pm7 an7 cd7 ct7, d7.ps⟩, ⟨g8, PySem.W.fnOf "rise" "Row.rise" (L2.defArgs (L2.inClass (tp 12) 3)) (L2.defBody (L2.inClass (tp 12) 3)) (L2.defScope (L2.inClass (tp 12) 3)) .none kV8 dc8 pm8 an8 cd8 ct8, d8.ps⟩, ⟨g9, PySem.W.fnOf "pace" "Row.pace" (L2.defArgs (L2.inClass (tp 12) 4)) (L2.defBody (L2.inClass (tp 12) 4)) (L2.defScope (L2.inClass (tp 12) 4)) .none kV9 dc9 pm9 an9 cd9 ct9, d9.ps⟩, ⟨g10, PySem.W.fnOf "__eq__" "Row.__eq__" (L2.defArgs (L2.inClass (tp 12) 7)) (L2.defBody (L2.inClass (tp 12) 7)) (L2.defScope (L2.inClass (tp 12) 7)) .none kV10 dc10 pm10 an10 cd10 ct10, d10.ps⟩, ⟨g11, PySem.W.fnOf "__repr__" "Row.__repr__" (L2.defArgs (L2.inClass (tp 12) 8)) (L2.defBody (L2.inClass (tp 12) 8)) (L2.defScope (L2.inClass (tp 12) 8)) .none kV11 dc11 pm11 an11 cd11 ct11, d11.ps⟩, ⟨g12, PySem.W.fnOf "_law_cell" "_law_cell" (L2.defArgs (tp 14)) (L2.defBody (tp 14)) (L2.defScope (tp 14)) .none kV12 dc12 pm12 an12 cd12 ct12, d12.ps⟩, ⟨g13, PySem.W.fnOf "_law_purse" "_law_purse" (L2.defArgs (tp 15)) (L2.defBody (tp 15)) (L2.defScope (tp 15)) .none kV13 dc13 pm13 an13 cd13 ct13, d13.ps⟩, ⟨g14, PySem.W.fnOf "_law_take" "_law_take" (L2.defArgs (tp 16)) (L2.defBody (tp 16)) (L2.defScope (tp 16)) .none kV14 dc14 pm14 an14 cd14 ct14, d14.ps⟩, ⟨g15, PySem.W.fnOf "_law_int" "_law_int" (L2.defArgs (tp 17)) (L2.defBody (tp 17)) (L2.defScope (tp 17)) .none kV15 dc15 pm15 an15 cd15 ct15, d15.ps⟩, ⟨g16, PySem.W.fnOf "_law_form" "_law_form" (L2.defArgs (tp 18)) (L2.defBody (tp 18)) (L2.defScope (tp 18)) .none kV16 dc16 pm16 an16 cd16 ct16, d16.ps⟩, ⟨g17, PySem.W.fnOf "_law_at" "_law_at" (L2.defArgs (tp 19)) (L2.defBody (tp 19)) (L2.defScope (tp 19)) .none kV17 dc17 pm17 an17 cd17 ct17, d17.ps⟩, ⟨g18, PySem.W.fnOf "_law_unrolled" "_law_unrolled" (L2.defArgs (tp 20)) (L2.defBody (tp 20)) (L2.defScope (tp 20)) .none kV18 dc18 pm18 an18 cd18 ct18, d18.ps⟩, ⟨g19, PySem.W.fnOf "_law_same_told" "_law_same_told" (L2.defArgs (tp 21)) (L2.defBody (tp 21)) (L2.defScope (tp 21)) .none kV19 dc19 pm19 an19 cd19 ct19, d19.ps⟩, ⟨g20, PySem.W.fnOf "_law_bent_form" "_law_bent_form" (L2.defArgs (tp 22)) (L2.defBody (tp 22)) (L2.defScope (tp 22)) .none kV20 dc20 pm20 an20 cd20 ct20, d20.ps⟩, ⟨g21, PySem.W.fnOf "_law_paced" "_law_paced" (L2.defArgs (tp 23)) (L2.defBody (tp 23)) (L2.defScope (tp 23)) .none kV21 dc21 pm21 an21 cd21 ct21, d21.ps⟩, ⟨g22, PySem.W.fnOf "_law_two" "_law_two" (L2.defArgs (tp 24)) (L2.defBody (tp 24)) (L2.defScope (tp 24)) .none kV22 dc22 pm22 an22 cd22 ct22, d22.ps⟩, ⟨g23, PySem.W.fnOf "_law_right" "_law_right" (L2.defArgs (tp 25)) (L2.defBody (tp 25)) (L2.defScope (tp 25)) .none kV23 dc23 pm23 an23 cd23 ct23, d23.ps⟩, ⟨_, PySem.W.fnOf "law" "law" (L2.defArgs (tp 26)) (L2.defBody (tp 26)) (L2.defScope (tp 26)) .none kV24 dc24 pm24 an24 cd24 ct24, d24.ps⟩], LC.caOf mg, LC.pg_mk rfl ok ?_ ?_ ?_ ?_ ?_ ?_, by decide, rfl, rfl, fun s u => .of_eq rfl⟩
  · exact .cons ⟨F0, rfl, B0⟩ (.cons ⟨F1, rfl, B1⟩ (.cons ⟨F2, rfl, B2⟩ (.cons ⟨F3, rfl, B3⟩ (.cons ⟨F4, rfl, B4⟩ (.cons ⟨F5, rfl, B5⟩ (.cons ⟨F6, rfl, B6⟩ (.cons ⟨F7, rfl, B7⟩ (.cons ⟨F8, rfl, B8⟩ (.cons ⟨F9, rfl, B9⟩ (.cons ⟨F10, rfl, B10⟩ (.cons ⟨F11, rfl, B11⟩ (.cons ⟨F12, rfl, B12⟩ (.cons ⟨F13, rfl, B13⟩ (.cons ⟨F14, rfl, B14⟩ (.cons ⟨F15, rfl, B15⟩ (.cons ⟨F16, rfl, B16⟩ (.cons ⟨F17, rfl, B17⟩ (.cons ⟨F18, rfl, B18⟩ (.cons ⟨F19, rfl, B19⟩ (.cons ⟨F20, rfl, B20⟩ (.cons ⟨F21, rfl, B21⟩ (.cons ⟨F22, rfl, B22⟩ (.cons ⟨F23, rfl, B23⟩ (.cons ⟨F24, rfl, B24⟩ (.nil)))))))))))))))))))))))))
  · refine LC.top_mk ?_ ?_
    · exact .cons ⟨C0, PySem.W.mg_of X G aC0, ⟨pg0, hd0, po0, sa0, cl0, ty0, kc0, kg, kt, ko0, n0_0, n0_1, n0_2, n0_3, n0_4, n0_5, nn0, kn0⟩, fun k e => by cases e; exact ⟨mk0, a5, i5, kp0⟩, .cons ⟨a10, i10, k10⟩ (.cons ⟨a11, i11, k11⟩ (.nil)), .cons ⟨q6, a6, b6, t6, rs6, r6⟩ (.cons ⟨q7, a7, b7, t7, rs7, r7⟩ (.cons ⟨q8, a8, b8, t8, rs8, r8⟩ (.cons ⟨q9, a9, b9, t9, rs9, r9⟩ (.nil)))), .cons f0_0 (.cons f0_1 (.cons f0_2 (.cons f0_3 (.cons f0_4 (.nil)))))⟩ (.nil)
    · intro c hc c' hc' ne
      rw [List.mem_singleton.mp hc, List.mem_singleton.mp hc'] at ne
      exact absurd rfl ne
  · exact .nil
  · exact .cons ⟨by decide, PySem.W.mg_of X G a0⟩ (.cons ⟨by decide, PySem.W.mg_of X G a1⟩ (.cons ⟨by decide, PySem.W.mg_of X G a2⟩ (.cons ⟨by decide, PySem.W.mg_of X G a3⟩ (.cons ⟨by decide, PySem.W.mg_of X G a4⟩ (.cons ⟨by decide, PySem.W.mg_of X G a12⟩ (.cons ⟨by decide, PySem.W.mg_of X G a13⟩ (.cons ⟨by decide, PySem.W.mg_of X G a14⟩ (.cons ⟨by decide, PySem.W.mg_of X G a15⟩ (.cons ⟨by decide, PySem.W.mg_of X G a16⟩ (.cons ⟨by decide, PySem.W.mg_of X G a17⟩ (.cons ⟨by decide, PySem.W.mg_of X G a18⟩ (.cons ⟨by decide, PySem.W.mg_of X G a19⟩ (.cons ⟨by decide, PySem.W.mg_of X G a20⟩ (.cons ⟨by decide, PySem.W.mg_of X G a21⟩ (.cons ⟨by decide, PySem.W.mg_of X G a22⟩ (.cons ⟨by decide, PySem.W.mg_of X G a23⟩ (.cons ⟨by decide, PySem.W.mg_of X G a24⟩ (.nil))))))))))))))))))
  · exact .cons (PySem.W.mg_none_of X G z0) (.cons (PySem.W.mg_none_of X G z1) (.cons (PySem.W.mg_none_of X G z2) (.cons (PySem.W.mg_none_of X G z3) (.cons (PySem.W.mg_none_of X G z4) (.cons (PySem.W.mg_none_of X G z5) (.cons (PySem.W.mg_none_of X G z6) (.cons (PySem.W.mg_none_of X G z7) (.cons (PySem.W.mg_none_of X G z8) (.cons (PySem.W.mg_none_of X G z9) (.cons (PySem.W.mg_none_of X G z10) (.cons (PySem.W.mg_none_of X G z11) (.cons (PySem.W.mg_none_of X G z12) (.cons (PySem.W.mg_none_of X G z13) (.nil))))))))))))))
  · exact .cons (LC.gl_glb (PySem.W.mg_of X G aC0)) (.nil)
end
end Tx

namespace Tx
open PySem LC
theorem law_true : ∀ ns : List Int, ns.length ≤ 63 → ∃ m, LC.callD Gp (53 + 7) 24 [.scr ns] [] = .ok (.bl true) m := by
  intro ns hl
  have h := LC.po_ok (L_law_k18_ok (G := Gp) (σ := sg) (n := 53) (by decide) ns hl)
  have e : sg 2 = 24 := by decide
  rw [e] at h
  exact h
end Tx

open PySem PySem.W PyProof.Rows
set_option maxRecDepth 100000 in
set_option maxHeartbeats 0 in
theorem PySem.Challenge.cw_linecents_k18_whole_rows_alike_holds : PySem.Challenge.rw_linecents_k18_whole_rows_alike.Holds := by
  w_on; o_law; k_head; (case hw => w_witness2)
  k_fill
  refine LC.walkG (l := PySem.Challenge.rw_linecents_k18_whole_rows_alike) (x := "_law_script") (G := Tx.gt) (dis := Tx.dis) (gl := Tx.gl) (Wn := Tx.Wn) (n := 53 + 7) (kl := 24) rfl rfl ⟨rfl, by decide, by decide⟩ (fun w h Y => PySem.W.kIn_of Y) ?F Tx.law_true
  case F =>
    intro w mg fa h KX G hmg
    refine' Tx.all_mk KX G hmg ?aC0 ?pg0 ?hd0 ?po0 ?sa0 ?cl0 ?ty0 ?kc0 ?ko0 ?nn0 ?kn0 ?n0_0 ?n0_1 ?n0_2 ?n0_3 ?n0_4 ?n0_5 ?mk0 ?kp0 ?f0_0 ?f0_1 ?f0_2 ?f0_3 ?f0_4 ?kg ?kt ?a0 ?l0 ?c0 ?k0 ?a1 ?l1 ?c1 ?k1 ?a2 ?l2 ?c2 ?k2 ?a3 ?l3 ?c3 ?k3 ?a4 ?l4 ?c4 ?k4 ?a5 ?i5 ?l5 ?c5 ?k5 ?a6 ?b6 ?t6 ?r6 ?l6 ?c6 ?k6 ?a7 ?b7 ?t7 ?r7 ?l7 ?c7 ?k7 ?a8 ?b8 ?t8 ?r8 ?l8 ?c8 ?k8 ?a9 ?b9 ?t9 ?r9 ?l9 ?c9 ?k9 ?a10 ?i10 ?l10 ?c10 ?k10 ?a11 ?i11 ?l11 ?c11 ?k11 ?a12 ?l12 ?c12 ?k12 ?a13 ?l13 ?c13 ?k13 ?a14 ?l14 ?c14 ?k14 ?a15 ?l15 ?c15 ?k15 ?a16 ?l16 ?c16 ?k16 ?a17 ?l17 ?c17 ?k17 ?a18 ?l18 ?c18 ?k18 ?a19 ?l19 ?c19 ?k19 ?a20 ?l20 ?c20 ?k20 ?a21 ?l21 ?c21 ?k21 ?a22 ?l22 ?c22 ?k22 ?a23 ?l23 ?c23 ?k23 ?a24 ?l24 ?c24 ?k24 ?z0 ?z1 ?z2 ?z3 ?z4 ?z5 ?z6 ?z7 ?z8 ?z9 ?z10 ?z11 ?z12 ?z13
    (case aC0 => k_is); (case pg0 => k_is); (case hd0 => k_is); (case po0 => k_is); (case sa0 => k_is)
    (case cl0 => k_is); (case ty0 => k_is); (case kc0 => k_is); (case ko0 => k_is); (case nn0 => k_is)
    (case kn0 => k_is); (case n0_0 => k_is); (case n0_1 => k_is); (case n0_2 => k_is); (case n0_3 => k_is)
    (case n0_4 => k_is); (case n0_5 => k_is); (case mk0 => k_is); (case kp0 => k_is); (case f0_0 => k_is)
    (case f0_1 => k_is); (case f0_2 => k_is); (case f0_3 => k_is); (case f0_4 => k_is); (case kg => k_is)
    (case kt => k_is); (case a0 => k_is); (case l0 => k_is); (case c0 => k_is); (case k0 => k_is)
    (case a1 => k_is); (case l1 => k_is); (case c1 => k_is); (case k1 => k_is); (case a2 => k_is)
    (case l2 => k_is); (case c2 => k_is); (case k2 => k_is); (case a3 => k_is); (case l3 => k_is)
    (case c3 => k_is); (case k3 => k_is); (case a4 => k_is); (case l4 => k_is); (case c4 => k_is)
    (case k4 => k_is); (case a5 => k_is); (case i5 => k_is); (case l5 => k_is); (case c5 => k_is)
    (case k5 => k_is); (case a6 => k_is); (case b6 => k_is); (case t6 => k_is); (case r6 => k_is)
    (case l6 => k_is); (case c6 => k_is); (case k6 => k_is); (case a7 => k_is); (case b7 => k_is)
    (case t7 => k_is); (case r7 => k_is); (case l7 => k_is); (case c7 => k_is); (case k7 => k_is)
    (case a8 => k_is); (case b8 => k_is); (case t8 => k_is); (case r8 => k_is); (case l8 => k_is)
    (case c8 => k_is); (case k8 => k_is); (case a9 => k_is); (case b9 => k_is); (case t9 => k_is)
    (case r9 => k_is); (case l9 => k_is); (case c9 => k_is); (case k9 => k_is); (case a10 => k_is)
    (case i10 => k_is); (case l10 => k_is); (case c10 => k_is); (case k10 => k_is); (case a11 => k_is)
    (case i11 => k_is); (case l11 => k_is); (case c11 => k_is); (case k11 => k_is); (case a12 => k_is)
    (case l12 => k_is); (case c12 => k_is); (case k12 => k_is); (case a13 => k_is); (case l13 => k_is)
    (case c13 => k_is); (case k13 => k_is); (case a14 => k_is); (case l14 => k_is); (case c14 => k_is)
    (case k14 => k_is); (case a15 => k_is); (case l15 => k_is); (case c15 => k_is); (case k15 => k_is)
    (case a16 => k_is); (case l16 => k_is); (case c16 => k_is); (case k16 => k_is); (case a17 => k_is)
    (case l17 => k_is); (case c17 => k_is); (case k17 => k_is); (case a18 => k_is); (case l18 => k_is)
    (case c18 => k_is); (case k18 => k_is); (case a19 => k_is); (case l19 => k_is); (case c19 => k_is)
    (case k19 => k_is); (case a20 => k_is); (case l20 => k_is); (case c20 => k_is); (case k20 => k_is)
    (case a21 => k_is); (case l21 => k_is); (case c21 => k_is); (case k21 => k_is); (case a22 => k_is)
    (case l22 => k_is); (case c22 => k_is); (case k22 => k_is); (case a23 => k_is); (case l23 => k_is)
    (case c23 => k_is); (case k23 => k_is); (case a24 => k_is); (case l24 => k_is); (case c24 => k_is)
    (case k24 => k_is); (case z0 => k_is); (case z1 => k_is); (case z2 => k_is); (case z3 => k_is)
    (case z4 => k_is); (case z5 => k_is); (case z6 => k_is); (case z7 => k_is); (case z8 => k_is)
    (case z9 => k_is); (case z10 => k_is); (case z11 => k_is); (case z12 => k_is); (case z13 => k_is)

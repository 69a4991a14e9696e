import PyProof.Rows.All
import HandS.ForMost
import HandS.Exc
import HandS.ExcInit
import HandS.ExcSuper
import HandS.ExcField
import HandS.TryOnly
import HandS.Defaults
import HandS.Lambda
import HandS.IsInst
import HandS.Wide
import HandS.Zip
import HandS.TupMul
import KE.DataEq
import HandS.TupAny
import HandS.Flow
import HandS.ExcOwn
import KE.KExcIs
import HandS.Style
import KE.KExcSuper
import HandS.ExcValue
import KE.KDflt
import HandS.Dict
import HandS.HeadHook2
import HandS.HeadEnd
import HandS.Head0
import HandS.Head1
import HandS.Head2
import HandS.HeadWalk
import HandS.Text
import PyProof.Rows.StrSplitAre
import KE.KStateDown
import HandS.More
import HandS.Words
import PySem.Challenge.RW_samecourse_k81_texts_of_courses
set_option Elab.async false
set_option linter.all false
set_option autoImplicit false
/-! A small evaluator for the Python of the claim, over plain data and a store of what changes. -/
namespace Ev
open PySem

theorem ff {P : Prop} (h : false = true) : P := nomatch h
/-- a value: plain data all the way in (a list of `lst` is never changed), or the number of an object that may change -/
inductive W where
  | non | bl (b : Bool) | int (i : Int) | str (s : Str)
  | tup (ws : List W) | lst (ws : List W) | frl (ws : List W)
  | ref (a : Nat) | fn (g : Nat) | cls (c : Nat) | ty (t : String)
  | exn (c : Nat) (fs : List (Nat × W))
  | lam
  | dct
  deriving Inhabited

/-- what may change -/
inductive Ob where
  | lst (ws : List W)
  | ins (c : Nat) (fs : List (Nat × W))
  deriving Inhabited

structure S where
  objs : List Ob

def S.get (s : S) (a : Nat) : Option Ob := s.objs[a]?
def S.set (s : S) (a : Nat) (o : Ob) : S := ⟨s.objs.set a o⟩
def S.size (s : S) : Nat := s.objs.length
def S.new (s : S) (o : Ob) : S := ⟨s.objs ++ [o]⟩

/-- a result: a value, an exception (its class and fields), or nothing known -/
inductive R (α : Type) where
  | ok (a : α) (s : S)
  | exc (c : Nat) (fs : List (Nat × W)) (s : S)
  | fail
def R.bind {α β : Type} (r : R α) (f : α → S → R β) : R β :=
  match r with
  | .ok a s => f a s
  | .exc c fs s => .exc c fs s
  | .fail => .fail

abbrev Env := List (Option W)
/-- how a statement ends -/
inductive Fl where
  | nx (e : Env) | rt (w : W) | bk (e : Env) | ct (e : Env)
inductive RS where
  | ok (f : Fl) (s : S)
  | exc (c : Nat) (fs : List (Nat × W)) (e : Env) (s : S)
  | fail

inductive BinO where
  | add | sub | mul | fdiv | mod | pow
  deriving DecidableEq
inductive CmpO where
  | eq | ne | lt | le | gt | ge | is_ | isnot | in_ | notin
  deriving DecidableEq
/-- built-in functions -/
inductive Bi where
  | len | int | bool | str | abs | tuple | list | all | any | repr | sum
  deriving DecidableEq
/-- methods of texts and lists -/
inductive Sm where
  | split | join | append | extend | startswith
  deriving DecidableEq
/-- what isinstance asks for: a built-in class, an own one -/
inductive Ty where
  | b (n : String) | c (x : Str) (n : Nat)

/-- where things are put: a name, a tuple of such -/
inductive Pt where
  | n (i : Nat) | t (ps : Pt) | nil | cons (a b : Pt)
def Pt.ix : Pt → List Nat
  | .n i => [i]
  | .t ps => ps.ix
  | .nil => []
  | .cons a b => a.ix ++ b.ix

inductive E where
  | k (w : W)
  | v (i : Nat)
  | gl (x : Str) (w : W)
  | bin (o : BinO) (a b : E)
  | not_ (a : E)
  | neg (a : E)
  | and_ (a b : E)
  | or_ (a b : E)
  | one (a : E)
  | ite (t a b : E)
  | cmp (o : CmpO) (a b : E)
  | cmp2 (o o' : CmpO) (a b c : E)
  | call (x : Str) (g : Nat) (args : E)
  | callk (x : Str) (g : Nat) (n : Nat) (args kws : E) (ks : List Str) (ix : List Nat) (ds : List W)
  | mk (x : Str) (c : Nat) (args : E)
  | mkk (x : Str) (c : Nat) (n : Nat) (args kws : E) (ks : List Str) (ix : List Nat) (ds : List W)
  | meth (o : E) (m : Str) (args : E)
  | methk (o : E) (m : Str) (n : Nat) (args kws : E) (ks : List Str) (ix : List Nat) (ds : List W)
  | attr (o : E) (f : Nat)
  | sub (o i : E)
  | slice (o lo hi : E)
  | tup (args : E)
  | lst (args : E)
  | mls (args : E)
  | odd (x : Str)
  | comp (p : Pt) (elt it cond : E)
  | bi (b : Bi) (args : E)
  | isin (x : E) (ts : List Ty) (many : Bool)
  | sm (m : Sm) (o : E) (args : E)
  | rng (args : E)
  | enum (a : E)
  | hear (x : Str) (g : Nat) (body : E) (dflt : Bool)
  | ask (i : Nat)
  | dct (k : Str) (i : Int)
  | nil
  | cons (a b : E)

inductive Tg where
  | pt (p : Pt)
  | tup (ts : Tg)
  | nil
  | cons (a b : Tg)
  | attr (o : E) (f : Nat)
  | sub (o i : E)

inductive T where
  | nil
  | cons (a b : T)
  | asg (tg : Tg) (e : E)
  | aug (i : Nat) (o : BinO) (e : E)
  | auga (x : E) (f : Nat) (o : BinO) (e : E)
  | ex (e : E)
  | ite (c : E) (a b : T)
  | whl (c : E) (b : T)
  | for_ (p : Pt) (it : E) (b : T)
  | ret (e : E)
  | raise (x : Str) (c : Nat) (args : E)
  | tryk (b : T) (x : Str) (c : Nat) (n : Nat) (s : T)
  | aska (i : Nat)
  | brk | cnt | pass | odd

/-! ### plain data -/
mutual
def dat : W → Option PyData
  | .non => some .none
  | .bl b => some (.bool b)
  | .int i => some (.int i)
  | .str s => some (.str s)
  | .tup ws => (datL ws).map .tuple
  | .lst ws => (datL ws).map .list
  | .frl ws => (datL ws).map .list
  | .ref _ => none
  | .fn _ => none
  | .cls _ => none
  | .ty _ => none
  | .exn _ _ => none
  | .lam => none
  | .dct => none
def datL : List W → Option (List PyData)
  | [] => some []
  | w :: ws => match dat w, datL ws with
    | some d, some ds => some (d :: ds)
    | _, _ => none
end
/-- data, a list that may change read as it stands -/
def datS (s : S) : W → Option PyData
  | .ref a => match s.get a with
    | some (.lst ws) => (datL ws).map .list
    | _ => none
  | w => dat w
def small (d : PyData) : Bool := decide (d.depth ≤ 64)
def eqW (s : S) (a b : W) : Option Bool := match datS s a, datS s b with
  | some d, some e => if small d || small e then some (PyData.eqv d e) else none
  | _, _ => none
/-- the items of a list or a tuple -/
def items (s : S) : W → Option (List W)
  | .tup ws => some ws
  | .lst ws => some ws
  | .frl ws => some ws
  | .ref a => match s.get a with
    | some (.lst ws) => some ws
    | _ => none
  | _ => none

/-- things put where they belong -/
def putP (s : S) : Pt → List W → Env → Option Env
  | .n i, [w], e => some (e.set i (some w))
  | .t ps, [w], e => (match items s w with
    | some ws => putP s ps ws e
    | none => none)
  | .nil, [], e => some e
  | .cons a b, w :: ws, e => (match putP s a [w] e with
    | some e1 => putP s b ws e1
    | none => none)
  | _, _, _ => none
def wipeE : Env → List Nat → Env
  | e, [] => e
  | e, i :: is => (wipeE e is).set i none

/-! ### operators -/
def lim : Nat := 16777216
def addW (s : S) : W → W → R W
  | .int i, .int j => .ok (.int (i + j)) s
  | .str x, .str y => if x.length + y.length ≤ lim then .ok (.str (x ++ y)) s else .fail
  | .lst xs, .lst ys => if xs.length + ys.length ≤ lim then .ok (.lst (xs ++ ys)) s else .fail
  | .tup xs, .tup ys => if xs.length + ys.length ≤ lim then .ok (.tup (xs ++ ys)) s else .fail
  | _, _ => .fail
def mulW (s : S) : W → W → R W
  | .int i, .int j => if (decide (-(2 ^ 64) < i) && decide (i < 2 ^ 64)) || (decide (-(2 ^ 64) < j) && decide (j < 2 ^ 64)) then .ok (.int (i * j)) s else .fail
  | .lst xs, .int j => if decide (0 ≤ j) && decide (j < 2 ^ 62) && decide (xs.length * j.toNat ≤ lim) then .ok (.lst (List.replicate j.toNat xs).flatten) s else .fail
  | .tup xs, .int j => if decide (1 ≤ j) && decide (j ≤ 1000) && decide (xs.length ≤ 1000) then .ok (.tup (List.replicate j.toNat xs).flatten) s else .fail
  | _, _ => .fail
def binW (s : S) : BinO → W → W → R W
  | .add, a, b => addW s a b
  | .sub, .int i, .int j => .ok (.int (i - j)) s
  | .mul, a, b => mulW s a b
  | .fdiv, .int i, .int j => if decide (0 < j) && decide (j < 2 ^ 1000) then .ok (.int (i / j)) s else .fail
  | .mod, .int i, .int j => if decide (0 < j) then .ok (.int (i % j)) s else .fail
  | .pow, .int i, .int j => if decide (0 ≤ j) && decide (j ≤ 1000000) && decide (i.natAbs < 2 ^ 64) then .ok (.int (i ^ j.toNat)) s else .fail
  | _, _, _ => .fail
def memW (s : S) (a b : W) : Option Bool := match dat a, datS s b with
  | some d, some (.list ds) => if small d then some (ds.any fun y => PyData.eqv y d) else none
  | some d, some (.tuple ds) => if small d then some (ds.any fun y => PyData.eqv y d) else none
  | _, _ => none
def cmpW (s : S) : CmpO → W → W → Option Bool
  | .eq, a, b => eqW s a b
  | .ne, a, b => (eqW s a b).map (!·)
  | .lt, .int i, .int j => some (decide (i < j))
  | .le, .int i, .int j => some (decide (i ≤ j))
  | .gt, .int i, .int j => some (decide (j < i))
  | .ge, .int i, .int j => some (decide (j ≤ i))
  | .is_, a, .non => some (match a with | .non => true | _ => false)
  | .isnot, a, .non => some (match a with | .non => false | _ => true)
  | .in_, .str x, .str y => some (!(Builtin.Str.occurrences y x 0 y.length 1).isEmpty)
  | .notin, .str x, .str y => some (!(!(Builtin.Str.occurrences y x 0 y.length 1).isEmpty))
  | .in_, a, b => memW s a b
  | .notin, a, b => (memW s a b).map (!·)
  | _, _, _ => none
/-- truth -/
def truW (s : S) : W → Option Bool
  | .non => some false
  | .bl b => some b
  | .int i => some (i != 0)
  | .str x => if x.length ≤ lim then some (x.length != 0) else none
  | .tup ws => some (!ws.isEmpty)
  | .lst ws => some (!ws.isEmpty)
  | .ref a => match s.get a with
    | some (.lst ws) => some (!ws.isEmpty)
    | _ => none
  | _ => none
def setAt (ws : List W) (i : Int) (w : W) : Option (List W) :=
  if decide (0 ≤ i) && decide (i < 2 ^ 62) && decide (i.toNat < ws.length) then some (ws.set i.toNat w) else none
def cut {α : Type} (xs : List α) (lo hi : Nat) : List α := (xs.take hi).drop lo
end Ev

set_option Elab.async false
set_option linter.all false
set_option autoImplicit false
namespace Ev
open PySem

/-- what stands outside a body: calls of defs, making of instances, methods by class and name, fields of an exception's class, `ask()` -/
structure C where
  call : Nat → List W → S → R W
  init : Nat → List W → S → R W
  meth : Nat → Str → Option Nat
  makes : Nat → Option Nat
  excf : Nat → Option (List Nat)
  sub : Nat → Nat → Option Bool
  insub : Nat → Nat → Option Bool
  own : Nat → Bool
  ask : S → R W
  wf : Nat
  hear : Nat → (S → R W) → S → R W
  lcall : Nat → List W → S → R W
  linit : Nat → List W → S → R W
/-- inside a lambda that is called by the def that got it -/
def C.lower (C : Ev.C) : Ev.C := { C with call := C.lcall, init := C.linit, hear := fun _ _ _ => .fail, ask := fun _ => .fail, lcall := fun _ _ _ => .fail, linit := fun _ _ _ => .fail }
def isLam : W → Bool
  | .lam => true
  | _ => false
/-- no lambda's place in it -/
def noLam (e : Env) : Bool := e.all fun o => match o with
  | some w => !isLam w
  | none => true

def optR {α : Type} (o : Option α) (s : S) : R α := match o with
  | some a => .ok a s
  | none => .fail

def cutW {α : Type} (xs : List α) (lo hi : Option Int) : List α := (xs.drop (HT.sIx xs.length 0 lo)).take (HT.sIx xs.length xs.length hi - HT.sIx xs.length 0 lo)
def partW (x : W) (s : S) : R (Option Int) := match x with
  | .int i => .ok (some i) s
  | _ => .fail
def sliceW (s : S) (o : W) (l h : Option Int) : R W := match o with
  | .lst ws => .ok (.lst (cutW ws l h)) s
  | .frl ws => .ok (.lst (cutW ws l h)) s
  | .tup ws => .ok (.tup (cutW ws l h)) s
  | _ => .fail
def subW (s : S) (o i : W) : R W := match i with
  | .int j => (match items s o with
    | some ws => if decide (-(2 ^ 62) < j) && decide (j < 2 ^ 62) then optR (L2.atI ws j) s else .fail
    | none => .fail)
  | _ => .fail
def attrW (C : C) (s : S) (o : W) (f : Nat) : R W := match o with
  | .ref a => (match s.get a with
    | some (.ins c fs) => if (C.makes c).isSome then optR (fs.lookup f) s else .fail
    | _ => .fail)
  | .exn c fs => if (C.excf c).isSome then optR (fs.lookup f) s else .fail
  | _ => .fail
def putW (f : Nat) (w : W) : List (Nat × W) → List (Nat × W)
  | [] => [(f, w)]
  | (g, u) :: r => if g = f then (g, w) :: r else (g, u) :: putW f w r
def setAttr (C : C) (s : S) (o : W) (f : Nat) (w : W) : Option S := match o with
  | .ref a => (match s.get a with
    | some (.ins c fs) => if (C.makes c).isSome && decide (fs.length < 900) then some (s.set a (.ins c (putW f w fs))) else none
    | _ => none)
  | _ => none
def setItem (s : S) (o i w : W) : Option S := match o, i with
  | .ref a, .int j => (match s.get a with
    | some (.lst ws) => (setAt ws j w).map fun ws' => s.set a (.lst ws')
    | _ => none)
  | _, _ => none
def strsW : List W → Option (List Str)
  | [] => some []
  | .str x :: r => (strsW r).map (x :: ·)
  | _ :: _ => none
def boolsW : List W → Option (List Bool)
  | [] => some []
  | .bl x :: r => (boolsW r).map (x :: ·)
  | _ :: _ => none
def intsW : List W → Option (List Int)
  | [] => some []
  | .int x :: r => (intsW r).map (x :: ·)
  | _ :: _ => none
def lenW (s : S) : W → R W
  | .str x => if x.length ≤ lim then .ok (.int x.length) s else .fail
  | w => match items s w with
    | some ws => .ok (.int ws.length) s
    | none => .fail
def bi1 (s : S) (b : Bi) (a : W) : R W := match b with
  | .len => lenW s a
  | .int => (match a with
    | .int i => .ok (.int i) s
    | .bl b => .ok (.int (if b then 1 else 0)) s
    | _ => .fail)
  | .bool => (match a with
    | .bl b => .ok (.bl b) s
    | _ => .fail)
  | .abs => (match a with
    | .int i => .ok (.int (if i < 0 then -i else i)) s
    | _ => .fail)
  | .tuple => (match items s a with
    | some ws => .ok (.tup ws) s
    | none => .fail)
  | .list => (match items s a with
    | some ws => .ok (.lst ws) s
    | none => .fail)
  | .all => (match a with
    | .lst ws => (match boolsW ws with
      | some bs => .ok (.bl (bs.all id)) s
      | none => .fail)
    | _ => .fail)
  | _ => .fail
def biW (s : S) (b : Bi) : List W → R W
  | [a] => bi1 s b a
  | _ => .fail
def smW (s : S) : Sm → W → List W → R W
  | .split, .str x, [.str y] => if y.length = 0 ∨ lim < x.length + 2 then .fail else .ok (.lst ((Txt.split x y).map .str)) s
  | .join, .str x, [a] => (match items s a with
    | some ws => (match strsW ws with
      | some ys => if (ys.map (·.length)).sum + ys.length * x.length ≤ lim then .ok (.str (Txt.join x ys)) s else .fail
      | none => .fail)
    | none => .fail)
  | .append, .ref a, [w] => (match s.get a with
    | some (.lst ws) => if ws.length < lim then .ok .non (s.set a (.lst (ws ++ [w]))) else .fail
    | _ => .fail)
  | _, _, _ => .fail
/-- whether a value has such a method -/
def smOk (s : S) (m : Sm) (x : W) : Bool := match m with
  | .append => (match x with
    | .ref a => (match s.get a with
      | some (.lst _) => true
      | _ => false)
    | _ => false)
  | .extend => (match x with
    | .ref a => (match s.get a with
      | some (.lst _) => true
      | _ => false)
    | _ => false)
  | _ => (match x with
    | .str _ => true
    | _ => false)
/-- a value's type: a built-in one, an own class, an own exception -/
inductive Tv where
  | b (n : String) | k (c : Nat) | x (c : Nat)
def tyW (s : S) : W → Option Tv
  | .non => some (.b "NoneType")
  | .bl _ => some (.b "bool")
  | .int _ => some (.b "int")
  | .str _ => some (.b "str")
  | .tup _ => some (.b "tuple")
  | .lst _ => some (.b "list")
  | .ref a => (match s.get a with
    | some (.lst _) => some (.b "list")
    | some (.ins c _) => some (.k c)
    | none => none)
  | .exn c _ => some (.x c)
  | .dct => some (.b "dict")
  | _ => none
def bTys : List String := ["int", "bool", "str", "list", "tuple", "dict"]
def subB (a n : String) : Bool := a == n || (a == "bool" && n == "int")
/-- isinstance for one class -/
def isOne (C : C) (s : S) (w : W) : Ty → Option Bool
  | .b n => if bTys.contains n then (match tyW s w with
    | some (.b a) => some (subB a n)
    | some (.k c) => if (C.makes c).isSome then some false else none
    | _ => none) else none
  | .c _ d => (match tyW s w with
    | some (.b _) => if C.own d then some false else none
    | some (.k c) => if (C.makes c).isSome then C.insub c d else none
    | some (.x c) => if (C.excf c).isSome then C.sub c d else none
    | none => none)
def isMany (C : C) (s : S) (w : W) : List Ty → Option Bool
  | [] => some false
  | t :: ts => match isOne C s w t with
    | some true => some true
    | some false => isMany C s w ts
    | none => none

/-! ### what a loop goes through -/
inductive Src where
  | its (ws : List W)
  | ref (a : Nat)
def Src.at (s : S) (i : Nat) : Src → Option (Option W)
  | .its ws => some ws[i]?
  | .ref a => match s.get a with
    | some (.lst ws) => some ws[i]?
    | _ => none
def srcW (s : S) : W → Option Src
  | .tup ws => some (.its ws)
  | .lst ws => some (.its ws)
  | .ref a => match s.get a with
    | some (.lst _) => some (.ref a)
    | _ => none
  | _ => none
/-- the loop of a comprehension: what is kept, in order -/
def R.calm {α : Type} : R α → R α
  | .ok a s => .ok a s
  | _ => .fail
def compL (pre : W → S → Option Env) (test : Env → S → R Bool) (elt : Env → S → R W) (src : Src) : Nat → Nat → List W → S → R W
  | 0, _, _, _ => .fail
  | n + 1, i, acc, s => match src.at s i with
    | none => .fail
    | some none => .ok (.lst acc) s
    | some (some w) => (match pre w s with
      | none => .fail
      | some e => (test e s).calm.bind fun b s1 => if b then (elt e s1).calm.bind fun y s2 => if acc.length < lim then compL pre test elt src n (i + 1) (acc ++ [y]) s2 else .fail
        else compL pre test elt src n (i + 1) acc s1)
def RS.thn (r : RS) (f : Env → S → RS) : RS := match r with
  | .ok (.nx e) s => f e s
  | .ok g s => .ok g s
  | .exc c fs e s => .exc c fs e s
  | .fail => .fail
/-- behind a loop's body -/
def RS.turn (r : RS) (again : Env → S → RS) : RS := match r with
  | .ok (.nx e) s => again e s
  | .ok (.ct e) s => again e s
  | .ok (.bk e) s => .ok (.nx e) s
  | .ok (.rt w) s => .ok (.rt w) s
  | .exc c fs e s => .exc c fs e s
  | .fail => .fail
def forL (pre : W → Env → S → Option Env) (body : Env → S → RS) (src : Src) : Nat → Nat → Env → S → RS
  | 0, _, _, _ => .fail
  | n + 1, i, e, s => match src.at s i with
    | none => .fail
    | some none => .ok (.nx e) s
    | some (some w) => (match pre w e s with
      | none => .fail
      | some e1 => (body e1 s).turn fun e2 s2 => forL pre body src n (i + 1) e2 s2)
def lift {α : Type} (r : R α) (e : Env) (f : α → S → RS) : RS := match r with
  | .ok a s => f a s
  | .exc c fs s => .exc c fs e s
  | .fail => .fail
def whlL (test : Env → S → R Bool) (body : Env → S → RS) : Nat → Env → S → RS
  | 0, _, _ => .fail
  | n + 1, e, s => lift (test e s) e fun b s1 => if b then (body e s1).turn fun e2 s2 => whlL test body n e2 s2 else .ok (.nx e) s1

/-! ### expressions: as a value, as arguments, as a test, a comprehension's test, what is gone through, a slice's part -/
structure M where
  e : Env → S → R W
  a : Env → S → R (List W)
  t : Env → S → R Bool
  n : Env → S → R Bool
  i : Env → S → R Src
  p : Env → S → R (Option Int)
def M.ofE (f : Env → S → R W) : M where
  e := f
  a := fun _ _ => .fail
  t := fun e s => (f e s).bind fun x s1 => optR (truW s1 x) s1
  n := fun e s => (f e s).bind fun x s1 => optR (truW s1 x) s1
  i := fun e s => (f e s).bind fun x s1 => optR (srcW s1 x) s1
  p := fun e s => (f e s).bind fun x s1 => partW x s1
/-- a value told by its test -/
def M.ofT (f : Env → S → R W) (t : Env → S → R Bool) : M where
  e := f
  a := fun _ _ => .fail
  t := t
  n := t
  i := fun _ _ => .fail
  p := fun _ _ => .fail
def M.ofI (f : Env → S → R Src) : M where
  e := fun _ _ => .fail
  a := fun _ _ => .fail
  t := fun _ _ => .fail
  n := fun _ _ => .fail
  i := f
  p := fun _ _ => .fail
def rngW (ws : List W) (s : S) : R Src := match ws with
  | [.int n] => if decide (-(2 ^ 62) ≤ n) && decide (n < 2 ^ 62) then .ok (.its ((List.range n.toNat).map fun (j : Nat) => W.int (0 + (j : Int)))) s else .fail
  | [.int a, .int b] => if decide (-(2 ^ 62) ≤ a) && decide (a < 2 ^ 62) && decide (-(2 ^ 62) ≤ b) && decide (b < 2 ^ 62) then .ok (.its ((List.range (b - a).toNat).map fun (j : Nat) => W.int (a + (j : Int)))) s else .fail
  | _ => .fail
def enumW (x : W) (s : S) : R Src := match x with
  | .lst ws => .ok (.its (ws.zipIdx.map fun p => W.tup [.int p.2, p.1])) s
  | _ => .fail
def negW (x : W) (s : S) : R W := match x with
  | .int i => .ok (.int (-i)) s
  | _ => .fail
def chainW (o : Option Bool) (s : S) (k : S → R W) : R W := match o with
  | some true => k s
  | some false => .ok (.bl false) s
  | none => .fail
def mkW (C : C) (c : Nat) (ws : List W) (s : S) : R W := match C.makes c with
  | some g => (C.init g (.ref s.size :: ws) (s.new (.ins c []))).bind fun r s2 => (match r with
    | .non => .ok (.ref s.size) s2
    | _ => .fail)
  | none => .fail
def methOf (C : C) (x : W) (m : Str) (s : S) : Option Nat := match x with
  | .ref p => (match s.get p with
    | some (.ins c _) => if (C.makes c).isSome then C.meth c m else none
    | _ => none)
  | _ => none
def pick1 {α : Type} (a : Option α) (as : Option (List α)) : Option (List α) := match a with
  | none => none
  | some a => as.map (a :: ·)
def pick {α : Type} (l : List α) : List Nat → Option (List α)
  | [] => some []
  | i :: is => pick1 l[i]? (pick l is)
def pickW {β : Type} (n : Nat) (ks : List Str) (ix : List Nat) (ds ws us : List W) (s : S) (f : List W → S → R β) : R β :=
  if decide (ws.length = n) && decide (us.length = ks.length) then (match pick (ws ++ (us ++ ds)) ix with
    | some vs => f vs s
    | none => .fail) else .fail
def sem (C : C) : E → M
  | .k w => .ofE fun _ s => .ok w s
  | .v i => .ofE fun e s => match e[i]? with
    | some (some w) => if isLam w then .fail else .ok w s
    | _ => .fail
  | .gl _ w => .ofE fun _ s => .ok w s
  | .bin o a b => .ofE fun e s => ((sem C a).e e s).bind fun x s1 => ((sem C b).e e s1).bind fun y s2 => binW s2 o x y
  | .not_ a => .ofT (fun e s => ((sem C a).e e s).bind fun x s1 => (optR (truW s1 x) s1).bind fun k s2 => .ok (.bl (!k)) s2) fun e s => ((sem C a).t e s).bind fun x s1 => .ok (!x) s1
  | .neg a => .ofE fun e s => ((sem C a).e e s).bind fun x s1 => negW x s1
  | .one a => .ofT (fun e s => (sem C a).e e s) fun e s => (sem C a).t e s
  | .and_ a b => .ofT (fun e s => ((sem C a).e e s).bind fun x s1 => (optR (truW s1 x) s1).bind fun k s2 => if k then (sem C b).e e s2 else .ok x s2) fun e s => ((sem C a).t e s).bind fun x s1 => if x then (sem C b).t e s1 else .ok false s1
  | .or_ a b => .ofT (fun e s => ((sem C a).e e s).bind fun x s1 => (optR (truW s1 x) s1).bind fun k s2 => if k then .ok x s2 else (sem C b).e e s2) fun e s => ((sem C a).t e s).bind fun x s1 => if x then .ok true s1 else (sem C b).t e s1
  | .ite t a b => .ofE fun e s => ((sem C t).t e s).bind fun x s1 => if x then (sem C a).e e s1 else (sem C b).e e s1
  | .cmp o a b => .ofE fun e s => ((sem C a).e e s).bind fun x s1 => ((sem C b).e e s1).bind fun y s2 => optR ((cmpW s2 o x y).map .bl) s2
  | .cmp2 o o' a b c => .ofE fun e s => ((sem C a).e e s).bind fun x s1 => ((sem C b).e e s1).bind fun y s2 => chainW (cmpW s2 o x y) s2 fun s2 => ((sem C c).e e s2).bind fun z s3 => optR ((cmpW s3 o' y z).map .bl) s3
  | .call _ g a => .ofE fun e s => ((sem C a).a e s).bind fun ws s1 => C.call g ws s1
  | .callk _ g n a b ks ix ds => .ofE fun e s => ((sem C a).a e s).bind fun ws s1 => ((sem C b).a e s1).bind fun us s2 => pickW n ks ix ds ws us s2 fun vs s => C.call g vs s
  | .mkk _ c n a b ks ix ds => .ofE fun e s => ((sem C a).a e s).bind fun ws s1 => ((sem C b).a e s1).bind fun us s2 => pickW n ks ix ds ws us s2 fun vs s => mkW C c vs s
  | .methk o m n a b ks ix ds => .ofE fun e s => ((sem C o).e e s).bind fun x s1 => match methOf C x m s1 with
    | some g => ((sem C a).a e s1).bind fun ws s2 => ((sem C b).a e s2).bind fun us s3 => pickW n ks ix ds ws us s3 fun vs s => C.call g (x :: vs) s
    | none => .fail
  | .mk _ c a => .ofE fun e s => ((sem C a).a e s).bind fun ws s1 => mkW C c ws s1
  | .meth o m a => .ofE fun e s => ((sem C o).e e s).bind fun x s1 => match methOf C x m s1 with
    | some g => ((sem C a).a e s1).bind fun ws s2 => C.call g (x :: ws) s2
    | none => .fail
  | .attr o f => .ofE fun e s => ((sem C o).e e s).bind fun x s1 => attrW C s1 x f
  | .sub o i => .ofE fun e s => ((sem C o).e e s).bind fun x s1 => ((sem C i).e e s1).bind fun y s2 => subW s2 x y
  | .slice o lo hi => .ofE fun e s => ((sem C o).e e s).bind fun x s1 => ((sem C lo).p e s1).bind fun l s2 => ((sem C hi).p e s2).bind fun h s3 => sliceW s3 x l h
  | .tup a => .ofE fun e s => ((sem C a).a e s).bind fun ws s1 => if ws.length ≤ lim then .ok (.tup ws) s1 else .fail
  | .lst a => .ofE fun e s => ((sem C a).a e s).bind fun ws s1 => if ws.length ≤ lim then .ok (.lst ws) s1 else .fail
  | .mls a => .ofE fun e s => ((sem C a).a e s).bind fun ws s1 => if ws.length ≤ lim then .ok (.ref s1.size) (s1.new (.lst ws)) else .fail
  | .odd _ => .ofE fun _ _ => .fail
  | .comp p elt it cond => .ofE fun e s => ((sem C it).i e s).bind fun src s1 =>
      compL (fun w s => putP s p [w] (wipeE e p.ix)) (fun e s => (sem C cond).n e s) (fun e s => (sem C elt).e e s) src C.wf 0 [] s1
  | .bi b a => .ofE fun e s => ((sem C a).a e s).bind fun ws s1 => biW s1 b ws
  | .isin x ts _ => .ofE fun e s => ((sem C x).e e s).bind fun w s1 => optR ((isMany C s1 w ts).map .bl) s1
  | .sm m o a => .ofE fun e s => ((sem C o).e e s).bind fun x s1 => if smOk s1 m x = true then ((sem C a).a e s1).bind fun ws s2 => smW s2 m x ws else .fail
  | .hear _ g b _ => .ofE fun e s => if noLam e then C.hear g (fun s => (sem C.lower b).e e s) s else .fail
  | .ask _ => .ofE fun _ _ => .fail
  | .dct _ _ => .ofE fun _ s => .ok .dct s
  | .rng a => .ofI fun e s => ((sem C a).a e s).bind fun ws s1 => rngW ws s1
  | .enum a => .ofI fun e s => ((sem C a).e e s).bind fun x s1 => enumW x s1
  | .nil => { e := fun _ _ => .fail, a := fun _ s => .ok [] s, t := fun _ _ => .fail, n := fun _ s => .ok true s, i := fun _ _ => .fail, p := fun _ s => .ok none s }
  | .cons a b => { e := fun _ _ => .fail, a := fun e s => ((sem C a).e e s).bind fun x s1 => ((sem C b).a e s1).bind fun xs s2 => .ok (x :: xs) s2, t := fun _ _ => .fail, n := fun _ _ => .fail, i := fun _ _ => .fail, p := fun _ _ => .fail }

/-! ### targets, statements -/
/-- behind an except suite: its name is gone; nothing may be raised in it -/
def RS.gone (r : RS) (n : Nat) : RS := match r with
  | .ok (.nx e) s => .ok (.nx (e.set n none)) s
  | .ok (.bk e) s => .ok (.bk (e.set n none)) s
  | .ok (.ct e) s => .ok (.ct (e.set n none)) s
  | .ok (.rt w) s => .ok (.rt w) s
  | .exc _ _ _ _ => .fail
  | .fail => .fail
def asgW (C : C) : Tg → List W → Env → S → R Env
  | .pt p, [w], e, s => optR (putP s p [w] e) s
  | .attr o f, [w], e, s => ((sem C o).e e s).calm.bind fun x s1 => optR ((setAttr C s1 x f w).map fun _ => e) ((setAttr C s1 x f w).getD s1)
  | .sub o i, [w], e, s => ((sem C o).e e s).calm.bind fun x s1 => ((sem C i).e e s1).calm.bind fun y s2 => optR ((setItem s2 x y w).map fun _ => e) ((setItem s2 x y w).getD s2)
  | .tup ts, [w], e, s => (match items s w with
    | some ws => asgW C ts ws e s
    | none => .fail)
  | .nil, [], e, s => .ok e s
  | .cons a b, w :: ws, e, s => (asgW C a [w] e s).bind fun e1 s1 => asgW C b ws e1 s1
  | _, _, _, _ => .fail
/-- an instance's class -/
def clsAt (s : S) : W → Option Nat
  | .ref a => (match s.get a with
    | some (.ins c _) => some c
    | _ => none)
  | _ => none
/-- in place: ints -/
def augW (s : S) : BinO → W → W → R W
  | .add, .int i, .int j => .ok (.int (i + j)) s
  | .sub, .int i, .int j => .ok (.int (i - j)) s
  | _, _, _ => .fail
def evB (C : C) : T → Env → S → RS
  | .nil, e, s => .ok (.nx e) s
  | .cons a b, e, s => (evB C a e s).thn fun e1 s1 => evB C b e1 s1
  | .asg tg a, e, s => lift ((sem C a).e e s) e fun w s1 => lift (asgW C tg [w] e s1) e fun e1 s2 => .ok (.nx e1) s2
  | .aug i o a, e, s => (match e[i]? with
    | some (some x) => if isLam x then .fail else lift ((sem C a).e e s) e fun y s1 => lift (augW s1 o x y) e fun z s2 => .ok (.nx (e.set i (some z))) s2
    | _ => .fail)
  | .aska i, e, s => (match e[0]? with
    | some (some W.lam) => lift (C.ask s) e fun w s1 => .ok (.nx (e.set i (some w))) s1
    | _ => .fail)
  | .auga x f o a, e, s => lift ((sem C x).e e s) e fun p s1 => (match clsAt s1 p with
    | none => .fail
    | some c => lift (attrW C s1 p f) e fun y s2 => lift ((sem C a).e e s2) e fun z s3 => lift (augW s3 o y z) e fun r s4 =>
        if clsAt s4 p = some c then (match setAttr C s4 p f r with
          | some s5 => .ok (.nx e) s5
          | none => .fail) else .fail)
  | .ex a, e, s => lift ((sem C a).e e s) e fun _ s1 => .ok (.nx e) s1
  | .ite c a b, e, s => lift ((sem C c).t e s) e fun x s1 => if x then evB C a e s1 else evB C b e s1
  | .whl c b, e, s => whlL (fun e s => (sem C c).t e s) (fun e s => evB C b e s) C.wf e s
  | .for_ p it b, e, s => lift ((sem C it).i e s) e fun src s1 => forL (fun w e s => putP s p [w] e) (fun e s => evB C b e s) src C.wf 0 e s1
  | .ret a, e, s => lift ((sem C a).e e s) e fun w s1 => .ok (.rt w) s1
  | .raise _ c a, e, s => lift ((sem C a).a e s) e fun ws s1 => (match C.excf c with
    | some fs => if fs.length = ws.length then .exc c (fs.zip ws) e s1 else .fail
    | none => .fail)
  | .tryk b _ c n t, e, s => (match evB C b e s with
    | .ok f s1 => .ok f s1
    | .exc d fs e1 s1 => if (C.excf d).isSome then (match C.sub d c with
      | some true => (evB C t (e1.set n (some (.exn d fs))) s1).gone n
      | some false => .exc d fs e1 s1
      | none => .fail) else .fail
    | .fail => .fail)
  | .brk, e, s => .ok (.bk e) s
  | .cnt, e, s => .ok (.ct e) s
  | .pass, e, s => .ok (.nx e) s
  | .odd, _, _ => .fail

/-! ### a program -/
structure Df where
  np : Nat
  nl : Nat
  body : T
  lam : Bool := false
structure Prog where
  defs : List Df
  meth : Nat → Str → Option Nat
  makes : Nat → Option Nat
  excf : Nat → Option (List Nat)
  sub : Nat → Nat → Option Bool
  insub : Nat → Nat → Option Bool
  own : Nat → Bool
  wf : Nat
def ctxOf (P : Prog) (call init lcall linit : Nat → List W → S → R W) (hear : Nat → (S → R W) → S → R W) (ask : S → R W) : C := ⟨call, init, P.meth, P.makes, P.excf, P.sub, P.insub, P.own, ask, P.wf, hear, lcall, linit⟩
def outR (r : RS) : R W := match r with
  | .ok (.nx _) s1 => .ok .non s1
  | .ok (.rt w) s1 => .ok w s1
  | .exc c fs _ s1 => .exc c fs s1
  | _ => .fail
def runB (C : C) (d : Df) (ws : List W) (s : S) : R W :=
  if ws.length = d.np then outR (evB C d.body (ws.map some ++ List.replicate d.nl none) s) else .fail
/-- a def that is handed a lambda -/
def runH (C : C) (d : Df) (s : S) : R W :=
  if d.np = 1 then outR (evB C d.body (some .lam :: List.replicate d.nl none) s) else .fail
/-- calls, at most so deep; of a def by values, or by a lambda -/
def callX (P : Prog) : Nat → Nat → Option (S → R W) → List W → S → R W
  | 0, _, _, _, _ => .fail
  | 1, _, _, _, _ => .fail
  | 2, _, _, _, _ => .fail
  | 3, _, _, _, _ => .fail
  | k + 4, g, o, ws, s => match P.defs[g]? with
    | some d => (match o with
      | none => runB (ctxOf P (fun g => callX P (k + 3) g none) (fun g => callX P (k + 2) g none) (fun g => callX P (k + 1) g none) (fun g => callX P k g none) (fun g th => callX P (k + 3) g (some th) []) fun _ => .fail) d ws s
      | some th => runH (ctxOf P (fun g => callX P (k + 3) g none) (fun g => callX P (k + 2) g none) (fun g => callX P (k + 1) g none) (fun g => callX P k g none) (fun g th => callX P (k + 3) g (some th) []) th) d s)
    | none => .fail
def callF (P : Prog) (k g : Nat) (ws : List W) (s : S) : R W := callX P k g none ws s
def hearF (P : Prog) (k g : Nat) (th : S → R W) (s : S) : R W := callX P k g (some th) [] s
/-- the context of a body at depth k + 4 -/
def ctxK (P : Prog) (k : Nat) (ask : S → R W) : C := ctxOf P (callF P (k + 3)) (callF P (k + 2)) (callF P (k + 1)) (callF P k) (hearF P (k + 3)) ask
theorem callF_eq {P : Prog} {k g : Nat} {d : Df} (h : P.defs[g]? = some d) (ws : List W) (s : S) : callF P (k + 4) g ws s = runB (ctxK P k fun _ => .fail) d ws s := by
  show (match P.defs[g]? with
    | some d => _
    | none => _) = _
  rw [h]
  rfl
theorem hearF_eq {P : Prog} {k g : Nat} {d : Df} (h : P.defs[g]? = some d) (th : S → R W) (s : S) : hearF P (k + 4) g th s = runH (ctxK P k th) d s := by
  show (match P.defs[g]? with
    | some d => _
    | none => _) = _
  rw [h]
  rfl
/-! ### lists as functions -/
def at3 (l : List (Nat × Nat × Bool)) (a b : Nat) : Option Bool := match l.find? fun q => q.1 == a && q.2.1 == b with
  | some q => some q.2.2
  | none => none
def atM (l : List (Nat × Str × Nat)) (c : Nat) (m : Str) : Option Nat := match l.find? fun q => q.1 == c && decide (q.2.1 = m) with
  | some q => some q.2.2
  | none => none
def optAt {α : Type} (l : List (Option α)) (c : Nat) : Option α := match l[c]? with
  | some o => o
  | none => none
end Ev

set_option Elab.async false
set_option linter.all false
set_option autoImplicit false
set_option maxRecDepth 100000
namespace Ev
open PySem PySem.Spec L2

/-- a lambda that was handed to the def that runs: its object, its code, its name; the maker's names -/
structure Lm where
  f : Addr
  c : Addr
  q : Str
  e : Env
  σ : St
/-- where the program's things stand: the written part, defs, classes, the names of fields -/
structure Tb where
  K : PySem.W.Frag
  fa : Nat → Addr
  ca : Nat → Addr
  fn : List Str
  T : List (Addr × Str)
  lm : Option Lm

/-- where the store's objects stand; what is in no one's reach -/
structure Pl where
  f : Nat → Addr
  U : Addr → Prop
instance : CoeFun Pl (fun _ => Nat → Addr) := ⟨Pl.f⟩
/-- an object that never changes -/
def NT (o : HO) : Prop := ∀ ps, o ≠ .tbl ps
def Fz (ρ : Pl) (n : Nat) (H : Hp) (a : Addr) (o : HO) : Prop := H a = some o ∧ (∀ i, i < n → ρ i ≠ a) ∧ ¬ ρ.U a ∧ NT o
def SqK (K : PySem.W.Frag) (a : Addr) (xs : List V) : Prop :=
  ∃ (o : Obj) (its : Array Value) (n : Nat), K.lookup a = some o ∧ o.cls = .type "tuple" ∧ o.data = .seq its n ∧ its.size ≤ sizeLine ∧ Vals xs its.toList
/-- a list of the module -/
def LqK (K : PySem.W.Frag) (a : Addr) (xs : List V) : Prop :=
  ∃ (o : Obj) (its : Array Value) (n : Nat), K.lookup a = some o ∧ o.cls = .type "list" ∧ o.dict = none ∧ o.data = .seq its n ∧ its.size ≤ sizeLine ∧ Vals xs its.toList
theorem frl_sq {K : PySem.W.Frag} {ρ : Pl} {n : Nat} {H : Hp} {a : Addr} {vs : List V} (h : (∃ o, Fz ρ n H a o ∧ (o = .lst vs ∨ ∃ u, o = .frz u (.lst vs))) ∨ LqK K a vs) : SqL K H a vs := h.elim (fun ⟨o, z, e⟩ => .inl (by rcases e with rfl | ⟨u, rfl⟩ <;> first | exact .inl z.1 | exact .inr ⟨u, z.1⟩)) .inr
/-- the object of an exception that was caught -/
def exk (a C : Addr) (d : Addr) : HO := .ext fun h => ∃ (oe : Obj) (vs : Array Value), h.get? a = some oe ∧ oe.cls = .ref C ∧ oe.dict = some d ∧ oe.data = .fields vs

mutual
inductive Den (B : Tb) (ρ : Pl) (n : Nat) (H : Hp) : W → V → Prop
  | non : Den B ρ n H .non .non
  | bl {b} : Den B ρ n H (.bl b) (.bl b)
  | int {i} : Den B ρ n H (.int i) (.int i)
  | str {x} : Den B ρ n H (.str x) (.str x)
  | tup {ws vs a} : Fz ρ n H a (.tup vs) ∨ SqK B.K a vs → DenL B ρ n H ws vs → Den B ρ n H (.tup ws) (.ref a)
  | lst {ws vs a} : Fz ρ n H a (.lst vs) → DenL B ρ n H ws vs → Den B ρ n H (.lst ws) (.ref a)
  | frl {ws vs a} : (∃ o, Fz ρ n H a o ∧ (o = .lst vs ∨ ∃ u, o = .frz u (.lst vs))) ∨ LqK B.K a vs → DenL B ρ n H ws vs → Den B ρ n H (.frl ws) (.ref a)
  | ref {i} : i < n → Den B ρ n H (.ref i) (.ref (ρ i))
  | fn {g} : Den B ρ n H (.fn g) (.ref (B.fa g))
  | cls {c} : Den B ρ n H (.cls c) (.ref (B.ca c))
  | ty {t} : Den B ρ n H (.ty t) (.ty t)
  | dct {a kvs} : Fz ρ n H a (.dK kvs) → Den B ρ n H .dct (.ref a)
  | exn {c fs a d vfs} (val : Nat → V) : Fz ρ n H a (exk a (B.ca c) d) → Fz ρ n H d (.xd vfs) →
      (∀ f w, fs.lookup f = some w → ∃ x, B.fn[f]? = some x ∧ vfs.lookup x = some (val f)) → (∀ f w, fs.lookup f = some w → Den B ρ n H w (val f)) → Den B ρ n H (.exn c fs) (.ref a)
inductive DenL (B : Tb) (ρ : Pl) (n : Nat) (H : Hp) : List W → List V → Prop
  | nil : DenL B ρ n H [] []
  | cons {w v ws vs} : Den B ρ n H w v → DenL B ρ n H ws vs → DenL B ρ n H (w :: ws) (v :: vs)
end

theorem dom_upd {H : Hp} {p a : Addr} {o : HO} (hp : H p = none) (h : upd H p o a = none) : H a = none := by
  by_cases c : a = p
  · rw [c]; exact hp
  · rw [upd_ne c] at h; exact h
theorem dom_keep {H H1 : Hp} (k : ∀ a o, H a = some o → H1 a = some o) {a : Addr} (h : H1 a = none) : H a = none := by
  cases q : H a with
  | none => rfl
  | some o => rw [k a o q] at h; cases h
theorem dom_write {H : Hp} {p a : Addr} {o : HO} (h : upd H p o a = none) : H a = none := by
  by_cases c : a = p
  · rw [c, upd_same] at h; cases h
  · rw [upd_ne c] at h; exact h
/-- what may have happened meanwhile -/
structure Ext (ρ : Pl) (n : Nat) (H : Hp) (ρ' : Pl) (n' : Nat) (H' : Hp) : Prop where
  le : n ≤ n'
  eq : ∀ i, i < n → ρ' i = ρ i
  keep : ∀ a o, H a = some o → NT o → (∀ i, i < n → ρ i ≠ a) → ¬ ρ.U a → H' a = some o
  un : ∀ a, ρ.U a → ρ'.U a
  fr : ∀ a, ρ'.U a → ρ.U a ∨ H a = none
  new : ∀ i, n ≤ i → i < n' → H (ρ' i) = none
  dom : ∀ a, H' a = none → H a = none
  kp : ∀ a o, ρ.U a → H a = some o → NT o → H' a = some o
/-- .. but for what is kept from all -/
structure Ext0 (ρ : Pl) (n : Nat) (H : Hp) (ρ' : Pl) (n' : Nat) (H' : Hp) : Prop where
  le : n ≤ n'
  eq : ∀ i, i < n → ρ' i = ρ i
  keep : ∀ a o, H a = some o → NT o → (∀ i, i < n → ρ i ≠ a) → ¬ ρ.U a → H' a = some o
  fr : ∀ a, ρ'.U a → ρ.U a ∨ H a = none
  new : ∀ i, n ≤ i → i < n' → H (ρ' i) = none

section
variable {B : Tb} {ρ ρ1 ρ2 : Pl} {n n1 n2 : Nat} {H H1 H2 : Hp}
theorem Ext.refl : Ext ρ n H ρ n H := ⟨Nat.le_refl _, fun _ _ => rfl, fun _ _ h _ _ _ => h, fun _ h => h, fun _ h => .inl h, fun i h1 h2 => absurd h2 (Nat.not_lt.mpr h1), fun _ h => h, fun _ _ _ h _ => h⟩
theorem Ext.to0 (e : Ext ρ n H ρ1 n1 H1) : Ext0 ρ n H ρ1 n1 H1 := ⟨e.le, e.eq, e.keep, e.fr, e.new⟩
theorem Ext0.apart (e : Ext0 ρ n H ρ1 n1 H1) {a : Addr} {o : HO} (h : H a = some o) (ha : ∀ i, i < n → ρ i ≠ a) : ∀ i, i < n1 → ρ1 i ≠ a := fun i hi z => by
  by_cases c : i < n
  · rw [e.eq i c] at z; exact ha i c z
  · have q := e.new i (Nat.not_lt.mp c) hi
    rw [z, h] at q; cases q
theorem Ext.apart (e : Ext ρ n H ρ1 n1 H1) {a : Addr} {o : HO} (h : H a = some o) (ha : ∀ i, i < n → ρ i ≠ a) : ∀ i, i < n1 → ρ1 i ≠ a := e.to0.apart h ha
theorem Ext.trans (e : Ext ρ n H ρ1 n1 H1) (f : Ext ρ1 n1 H1 ρ2 n2 H2) : Ext ρ n H ρ2 n2 H2 where
  le := Nat.le_trans e.le f.le
  eq := fun i h => (f.eq i (Nat.lt_of_lt_of_le h e.le)).trans (e.eq i h)
  keep := fun a o h nt ha hu => f.keep a o (e.keep a o h nt ha hu) nt (e.apart h ha) fun q => (e.fr a q).elim hu fun z => by rw [h] at z; cases z
  un := fun a h => f.un a (e.un a h)
  fr := fun a h => (f.fr a h).elim (e.fr a) fun z => .inr (e.dom a z)
  new := fun i h1 h2 => by
    by_cases c : i < n1
    · rw [f.eq i c]; exact e.new i h1 c
    · exact e.dom _ (f.new i (Nat.not_lt.mp c) h2)
  dom := fun a h => e.dom a (f.dom a h)
  kp := fun a o h q nt => f.kp a o (e.un a h) (e.kp a o h q nt) nt
theorem Fz.ext0 (e : Ext0 ρ n H ρ1 n1 H1) {a : Addr} {o : HO} (h : Fz ρ n H a o) : Fz ρ1 n1 H1 a o := ⟨e.keep a o h.1 h.2.2.2 h.2.1 h.2.2.1, e.apart h.1 h.2.1, fun q => (e.fr a q).elim h.2.2.1 fun z => (by rw [h.1] at z; cases z), h.2.2.2⟩
mutual
theorem Den.ext0 (e : Ext0 ρ n H ρ1 n1 H1) : ∀ {w : W} {v : V}, Den B ρ n H w v → Den B ρ1 n1 H1 w v
  | _, _, .non => .non
  | _, _, .bl => .bl
  | _, _, .int => .int
  | _, _, .str => .str
  | _, _, .tup h l => .tup (h.imp (fun z => z.ext0 e) id) (DenL.ext0 e l)
  | _, _, .lst h l => .lst (h.ext0 e) (DenL.ext0 e l)
  | _, _, .frl h l => .frl (h.imp (fun ⟨o, z, k⟩ => ⟨o, z.ext0 e, k⟩) id) (DenL.ext0 e l)
  | _, _, .ref (i := i) h => by
    have q : Den B ρ1 n1 H1 (.ref i) (.ref (ρ1 i)) := .ref (Nat.lt_of_lt_of_le h e.le)
    rw [e.eq i h] at q
    exact q
  | _, _, .fn => .fn
  | _, _, .cls => .cls
  | _, _, .ty => .ty
  | _, _, .dct h => .dct (h.ext0 e)
  | _, _, .exn val h1 h2 h3 h4 => .exn val (h1.ext0 e) (h2.ext0 e) h3 fun f w q => Den.ext0 e (h4 f w q)
theorem DenL.ext0 (e : Ext0 ρ n H ρ1 n1 H1) : ∀ {ws : List W} {vs : List V}, DenL B ρ n H ws vs → DenL B ρ1 n1 H1 ws vs
  | _, _, .nil => .nil
  | _, _, .cons h t => .cons (Den.ext0 e h) (DenL.ext0 e t)
end
theorem Fz.ext (e : Ext ρ n H ρ1 n1 H1) {a : Addr} {o : HO} (h : Fz ρ n H a o) : Fz ρ1 n1 H1 a o := h.ext0 e.to0
theorem Den.ext (e : Ext ρ n H ρ1 n1 H1) {w : W} {v : V} (h : Den B ρ n H w v) : Den B ρ1 n1 H1 w v := h.ext0 e.to0
theorem DenL.ext (e : Ext ρ n H ρ1 n1 H1) {w : List W} {v : List V} (h : DenL B ρ n H w v) : DenL B ρ1 n1 H1 w v := h.ext0 e.to0
theorem DenL.length : ∀ {ws : List W} {vs : List V}, DenL B ρ n H ws vs → ws.length = vs.length
  | _, _, .nil => rfl
  | _, _, .cons _ t => congrArg (· + 1) (DenL.length t)
theorem DenL.get : ∀ {ws : List W} {vs : List V} {i : Nat} {w : W}, DenL B ρ n H ws vs → ws[i]? = some w → ∃ v, vs[i]? = some v ∧ Den B ρ n H w v
  | _, _, i, w, .nil, h => by simp at h
  | _, _, 0, w, .cons (v := v) h t, e => by
    have e' : _ = w := Option.some.inj e
    subst e'
    exact ⟨v, rfl, h⟩
  | _, _, i + 1, w, .cons h t, e => DenL.get (i := i) t e
theorem DenL.append : ∀ {ws us : List W} {vs zs : List V}, DenL B ρ n H ws vs → DenL B ρ n H us zs → DenL B ρ n H (ws ++ us) (vs ++ zs)
  | _, _, _, _, .nil, k => k
  | _, _, _, _, .cons h t, k => .cons h (DenL.append t k)
theorem DenL.take : ∀ {ws : List W} {vs : List V} (m : Nat), DenL B ρ n H ws vs → DenL B ρ n H (ws.take m) (vs.take m)
  | _, _, 0, _ => .nil
  | _, _, _ + 1, .nil => .nil
  | _, _, m + 1, .cons h t => .cons h (DenL.take m t)
theorem DenL.drop : ∀ {ws : List W} {vs : List V} (m : Nat), DenL B ρ n H ws vs → DenL B ρ n H (ws.drop m) (vs.drop m)
  | _, _, 0, h => h
  | _, _, _ + 1, .nil => .nil
  | _, _, m + 1, .cons _ t => DenL.drop m t
theorem DenL.set {w : W} {v : V} (h : Den B ρ n H w v) : ∀ {ws : List W} {vs : List V} (i : Nat), DenL B ρ n H ws vs → DenL B ρ n H (ws.set i w) (vs.set i v)
  | _, _, _, .nil => .nil
  | _, _, 0, .cons _ t => .cons h t
  | _, _, i + 1, .cons k t => .cons k (DenL.set h i t)
theorem DenL.snoc {w : W} {v : V} {ws : List W} {vs : List V} (t : DenL B ρ n H ws vs) (h : Den B ρ n H w v) : DenL B ρ n H (ws ++ [w]) (vs ++ [v]) := t.append (.cons h .nil)
theorem DenL.strs : ∀ {ys : List Str}, DenL B ρ n H (ys.map .str) (ys.map V.str)
  | [] => .nil
  | _ :: _ => .cons .str DenL.strs
theorem DenL.atI {ws : List W} {vs : List V} {j : Int} {w : W} (h : DenL B ρ n H ws vs) (e : L2.atI ws j = some w) : ∃ v, L2.atI vs j = some v ∧ Den B ρ n H w v := by
  unfold L2.atI at e ⊢
  rw [← h.length]
  cases q : L2.ixN ws.length j with
  | none => rw [q] at e; cases e
  | some k =>
    rw [q] at e
    exact h.get e
end

/-- what an object of the store is -/
def FsD (B : Tb) (ρ : Pl) (n : Nat) (H : Hp) (fs : List (Nat × W)) (vfs : List (Str × V)) : Prop := Paired (fun (p : Nat × W) (q : Str × V) => B.fn[p.1]? = some q.1 ∧ Den B ρ n H p.2 q.2) fs vfs
def ObD (B : Tb) (ρ : Pl) (n : Nat) (H : Hp) (a : Addr) : Ob → Prop
  | .lst ws => ∃ vs, H a = some (.lst vs) ∧ DenL B ρ n H ws vs
  | .ins c fs => ∃ dx vfs, H a = some (.ins (B.ca c) dx vfs) ∧ FsD B ρ n H fs vfs
structure Rel (B : Tb) (ρ : Pl) (s : S) (H : Hp) : Prop where
  nd : B.fn.Nodup
  inj : ∀ i j, i < s.size → j < s.size → ρ i = ρ j → i = j
  ob : ∀ i o, s.get i = some o → ObD B ρ s.size H (ρ i) o
  res : ∀ a, ρ.U a → (∃ o, H a = some o) ∧ ∀ i, i < s.size → ρ i ≠ a
  tb : LamX.Tabs B.T H
def EnvX (B : Tb) (ρ : Pl) (n : Nat) (H : Hp) (e : Env) (σ : St) : Prop := e.length = σ.length ∧ ∀ (i : Nat) (w : W), e[i]? = some (some w) → ∃ v, σ[i]? = some (some v) ∧ Den B ρ n H w v
def LamD (B : Tb) (ρ : Pl) (n : Nat) (H : Hp) (v : V) : Prop := ∃ L, B.lm = some L ∧ v = .ref L.f ∧ (H L.c = some (LamX.CodeO L.c L.q) ∧ ∀ i, i < n → ρ i ≠ L.c) ∧ EnvX B ρ n H L.e L.σ
/-- a value of a name: what is denoted, or the lambda -/
def DenV (B : Tb) (ρ : Pl) (n : Nat) (H : Hp) (w : W) (v : V) : Prop := Den B ρ n H w v ∨ (w = .lam ∧ LamD B ρ n H v)
def EnvD (B : Tb) (ρ : Pl) (n : Nat) (H : Hp) (e : Env) (σ : St) : Prop := e.length = σ.length ∧ ∀ (i : Nat) (w : W), e[i]? = some (some w) → ∃ v, σ[i]? = some (some v) ∧ DenV B ρ n H w v

section
variable {B : Tb} {ρ ρ1 ρ2 : Pl} {n n1 n2 : Nat} {H H1 H2 : Hp} {s s1 : S}
theorem FsD.ext0 (e : Ext0 ρ n H ρ1 n1 H1) {fs : List (Nat × W)} {vfs : List (Str × V)} (h : FsD B ρ n H fs vfs) : FsD B ρ1 n1 H1 fs vfs := Paired.mapP h fun _ _ z => ⟨z.1, z.2.ext0 e⟩
theorem FsD.ext (e : Ext ρ n H ρ1 n1 H1) {fs : List (Nat × W)} {vfs : List (Str × V)} (h : FsD B ρ n H fs vfs) : FsD B ρ1 n1 H1 fs vfs := h.ext0 e.to0
theorem EnvX.ext0 (e : Ext0 ρ n H ρ1 n1 H1) {env : Env} {σ : St} (h : EnvX B ρ n H env σ) : EnvX B ρ1 n1 H1 env σ := ⟨h.1, fun i w q => let ⟨v, a, b⟩ := h.2 i w q; ⟨v, a, b.ext0 e⟩⟩
theorem DenV.ext (e : Ext ρ n H ρ1 n1 H1) {w : W} {v : V} (h : DenV B ρ n H w v) : DenV B ρ1 n1 H1 w v := h.imp (fun d => d.ext e) fun ⟨z, L, h1, h2, h3, h4⟩ => ⟨z, L, h1, h2, ⟨(Classical.em (ρ.U L.c)).elim (fun u => e.kp _ _ u h3.1 fun _ q => nomatch q) fun u => e.keep _ _ h3.1 (fun _ q => nomatch q) h3.2 u, e.apart h3.1 h3.2⟩, h4.ext0 e.to0⟩
theorem DenV.den {w : W} {v : V} (h : DenV B ρ n H w v) (k : isLam w = false) : Den B ρ n H w v := h.elim id fun ⟨z, _⟩ => by subst z; cases k
theorem EnvD.ext (e : Ext ρ n H ρ1 n1 H1) {env : Env} {σ : St} (h : EnvD B ρ n H env σ) : EnvD B ρ1 n1 H1 env σ := ⟨h.1, fun i w q => let ⟨v, a, b⟩ := h.2 i w q; ⟨v, a, b.ext e⟩⟩
theorem EnvX.envD {env : Env} {σ : St} (h : EnvX B ρ n H env σ) : EnvD B ρ n H env σ := ⟨h.1, fun i w q => let ⟨v, a, b⟩ := h.2 i w q; ⟨v, a, .inl b⟩⟩
theorem EnvD.envX {env : Env} {σ : St} (h : EnvD B ρ n H env σ) (k : noLam env = true) : EnvX B ρ n H env σ := ⟨h.1, fun i w q => by
  obtain ⟨v, a, b⟩ := h.2 i w q
  have z := List.all_eq_true.mp k (some w) (List.mem_of_getElem? q)
  exact ⟨v, a, b.den (by simpa using z)⟩⟩
theorem tabs_write {T : List (Addr × Str)} {H : Hp} {p : Addr} {o o' : HO} (h : LamX.Tabs T H) (e : H p = some o) (nt : NT o) (nc : ∀ q, o ≠ LamX.CodeO p q) : LamX.Tabs T (upd H p o') := fun x hx => by
  obtain ⟨ps, h1, h2, h3⟩ := h x hx
  refine ⟨ps, by rw [upd_ne (fun z => by rw [z, e] at h1; exact nt ps (Option.some.inj h1))]; exact h1, h2, fun pos cv hc => ?_⟩
  obtain ⟨c, e1, e2⟩ := h3 pos cv hc
  refine ⟨c, e1, by rw [upd_ne (fun z => by subst z; rw [e] at e2; exact nc _ (Option.some.inj e2))]; exact e2⟩
theorem tabs_keep {T : List (Addr × Str)} {H H1 : Hp} (h : LamX.Tabs T H) (k : ∀ a o, H a = some o → H1 a = some o) : LamX.Tabs T H1 := h.ext k
theorem EnvD.set {env : Env} {σ : St} {i : Nat} {w : W} {v : V} (h : EnvD B ρ n H env σ) (d : Den B ρ n H w v) : EnvD B ρ n H (env.set i (some w)) (σ.set i (some v)) := by
  refine ⟨by simpa using h.1, fun j u q => ?_⟩
  by_cases c : i = j
  · subst c
    by_cases l : i < env.length
    · rw [List.getElem?_set_self l] at q
      cases q
      exact ⟨v, List.getElem?_set_self (h.1 ▸ l), .inl d⟩
    · rw [List.getElem?_eq_none (by simpa using l)] at q; cases q
  · rw [List.getElem?_set_ne c] at q ⊢
    exact h.2 j u q
theorem EnvD.unset {env : Env} {σ : St} {i : Nat} (h : EnvD B ρ n H env σ) : EnvD B ρ n H (env.set i none) (σ.set i none) := by
  refine ⟨by simpa using h.1, fun j u q => ?_⟩
  by_cases c : i = j
  · subst c
    by_cases l : i < env.length
    · rw [List.getElem?_set_self l] at q; cases q
    · rw [List.getElem?_eq_none (by simpa using l)] at q; cases q
  · rw [List.getElem?_set_ne c] at q ⊢
    exact h.2 j u q
theorem Rel.lt {i : Nat} {o : Ob} (h : s.get i = some o) : i < s.size := (List.getElem?_eq_some_iff.mp h).1
theorem Rel.there (r : Rel B ρ s H) {i : Nat} (h : i < s.size) : ∃ o, H (ρ i) = some o := by
  obtain ⟨o, e⟩ : ∃ o, s.get i = some o := ⟨_, List.getElem?_eq_getElem h⟩
  have q := r.ob i o e
  cases o with
  | lst ws => obtain ⟨vs, e, _⟩ := q; exact ⟨_, e⟩
  | ins c fs => obtain ⟨_, _, e, _⟩ := q; exact ⟨_, e⟩
theorem Rel.fresh (r : Rel B ρ s H) {p : Addr} (hp : H p = none) : ∀ i, i < s.size → ρ i ≠ p := fun i h z => by
  obtain ⟨o, e⟩ := r.there h
  rw [z, hp] at e; cases e
theorem ObD.ext0 (e : Ext0 ρ n H ρ1 n1 H1) {a : Addr} {o : Ob} (h : ObD B ρ n H a o) (k : H1 a = H a) : ObD B ρ1 n1 H1 a o := by
  cases o with
  | lst ws => obtain ⟨vs, q, d⟩ := h; exact ⟨vs, k.trans q, d.ext0 e⟩
  | ins c fs => obtain ⟨dx, vfs, q, d⟩ := h; exact ⟨dx, vfs, k.trans q, d.ext0 e⟩
theorem ObD.ext (e : Ext ρ n H ρ1 n1 H1) {a : Addr} {o : Ob} (h : ObD B ρ n H a o) (k : H1 a = H a) : ObD B ρ1 n1 H1 a o := h.ext0 e.to0 k
/-- a new object beside the store -/
theorem Ext.laid {p : Addr} {o : HO} (hp : H p = none) : Ext ρ n H ρ n (upd H p o) :=
  ⟨Nat.le_refl _, fun _ _ => rfl, fun a u h _ _ _ => by rw [upd_ne (ne_of_none h hp)]; exact h, fun _ h => h, fun _ h => .inl h, fun i h1 h2 => absurd h2 (Nat.not_lt.mpr h1), fun a h => dom_upd hp h, fun a u _ q _ => by rw [upd_ne (ne_of_none q hp)]; exact q⟩
theorem Rel.laid {p : Addr} {o : HO} (r : Rel B ρ s H) (hp : H p = none) : Rel B ρ s (upd H p o) :=
  ⟨r.nd, r.inj, fun i ob e => (r.ob i ob e).ext (Ext.laid hp) (upd_ne (r.fresh hp i (Rel.lt e))), fun a h => ⟨let ⟨u, e⟩ := (r.res a h).1; ⟨u, by rw [upd_ne (ne_of_none e hp)]; exact e⟩, (r.res a h).2⟩, tabs_keep r.tb fun b u e => by rw [upd_ne (ne_of_none e hp)]; exact e⟩
theorem Rel.free {p : Addr} (r : Rel B ρ s H) (hp : H p = none) : ¬ ρ.U p := fun h => by
  obtain ⟨o, e⟩ := (r.res p h).1
  rw [hp] at e; cases e
theorem Fz.laid {p : Addr} {o : HO} (r : Rel B ρ s H) (hp : H p = none) (nt : NT o := by intro _ z; cases z) : Fz ρ s.size (upd H p o) p o := ⟨upd_same, r.fresh hp, r.free hp, nt⟩
/-- a new object of the store, at p; what else is tracked with it at q -/
def bump (ρ : Pl) (n : Nat) (p : Addr) : Pl := ⟨fun i => if i = n then p else ρ i, ρ.U⟩
theorem bump_new {p : Addr} : bump ρ n p n = p := if_pos rfl
theorem bump_old {p : Addr} {i : Nat} (h : i < n) : bump ρ n p i = ρ i := if_neg (Nat.ne_of_lt h)
theorem Ext.bump {p : Addr} {H1 : Hp} (hp : H p = none) (k : ∀ a o, H a = some o → H1 a = some o) : Ext ρ n H (bump ρ n p) (n + 1) H1 :=
  ⟨Nat.le_succ _, fun i h => bump_old h, fun a o h _ _ _ => k a o h, fun _ h => h, fun _ h => .inl h, fun i h1 h2 => by
    have e : i = n := Nat.le_antisymm (Nat.le_of_lt_succ h2) h1
    rw [e, bump_new]; exact hp, fun a h => dom_keep k h, fun a o _ q _ => k a o q⟩
theorem S.size_new {o : Ob} : (s.new o).size = s.size + 1 := by simp [S.new, S.size]
theorem S.size_set {a : Nat} {o : Ob} : (s.set a o).size = s.size := by simp [S.set, S.size]
theorem S.get_new {o : Ob} : (s.new o).get s.size = some o := by simp [S.new, S.size, S.get]
theorem S.get_old {o u : Ob} {i : Nat} (h : s.get i = some u) : (s.new o).get i = some u := by
  have l := Rel.lt h
  simp only [S.new, S.get, S.size] at *
  rw [List.getElem?_append_left l]; exact h
theorem S.get_set_same {a : Nat} {o : Ob} (h : a < s.size) : (s.set a o).get a = some o := by simp only [S.set, S.get, S.size] at *; exact List.getElem?_set_self h
theorem S.get_set_ne {a b : Nat} {o : Ob} (h : a ≠ b) : (s.set a o).get b = s.get b := by simp only [S.set, S.get]; exact List.getElem?_set_ne h
theorem Rel.bump {p : Addr} {o : Ob} {H1 : Hp} (r : Rel B ρ s H) (hp : H p = none) (k : ∀ a o, H a = some o → H1 a = some o) (ho : ObD B (bump ρ s.size p) (s.size + 1) H1 p o) : Rel B (bump ρ s.size p) (s.new o) H1 := by
  refine ⟨r.nd, fun i j hi hj e => ?_, fun i u e => ?_, fun a h => ⟨let ⟨u, e⟩ := (r.res a h).1; ⟨u, k a u e⟩, fun i hi z => ?_⟩, tabs_keep r.tb k⟩
  · rw [S.size_new] at hi hj
    by_cases ci : i = s.size
    · by_cases cj : j = s.size
      · rw [ci, cj]
      · have hj' : j < s.size := by omega
        rw [ci, bump_new, bump_old hj'] at e
        exact absurd e.symm (r.fresh hp j hj')
    · have hi' : i < s.size := by omega
      by_cases cj : j = s.size
      · rw [cj, bump_new, bump_old hi'] at e
        exact absurd e (r.fresh hp i hi')
      · have hj' : j < s.size := by omega
        rw [bump_old hi', bump_old hj'] at e
        exact r.inj i j hi' hj' e
  · rw [S.size_new]
    by_cases ci : i = s.size
    · subst ci
      rw [S.get_new] at e; cases e
      rw [bump_new]; exact ho
    · have hi : i < (s.new o).size := Rel.lt e
      rw [S.size_new] at hi
      have hi' : i < s.size := by omega
      have e' : s.get i = some u := by
        simp only [S.new, S.get] at *
        rwa [List.getElem?_append_left hi'] at e
      rw [bump_old hi']
      obtain ⟨z, hz⟩ := r.there hi'
      exact (r.ob i u e').ext (Ext.bump hp k) (by rw [hz]; exact k _ _ hz)
  · rw [S.size_new] at hi
    by_cases ci : i = s.size
    · rw [ci, bump_new] at z
      exact r.free hp (z ▸ h)
    · rw [bump_old (by omega)] at z
      exact (r.res a h).2 i (by omega) z
/-- an object of the store is changed -/
theorem Ext.write {a : Nat} {o : HO} (r : Rel B ρ s H) (ha : a < s.size) : Ext ρ s.size H ρ s.size (upd H (ρ a) o) :=
  ⟨Nat.le_refl _, fun _ _ => rfl, fun b u h _ hb _ => by rw [upd_ne (Ne.symm (hb a ha))]; exact h, fun _ h => h, fun _ h => .inl h, fun i h1 h2 => absurd h2 (Nat.not_lt.mpr h1), fun b h => dom_write h, fun b u hb q _ => by rw [upd_ne (Ne.symm ((r.res b hb).2 a ha))]; exact q⟩
theorem Rel.kind (r : Rel B ρ s H) {i : Nat} (h : i < s.size) : ∃ o, H (ρ i) = some o ∧ NT o ∧ ∀ q, o ≠ LamX.CodeO (ρ i) q := by
  obtain ⟨o, e⟩ : ∃ o, s.get i = some o := ⟨_, List.getElem?_eq_getElem h⟩
  have q := r.ob i o e
  cases o with
  | lst ws => obtain ⟨vs, e, _⟩ := q; exact ⟨_, e, (fun _ z => nomatch z), (fun _ z => nomatch z)⟩
  | ins c fs => obtain ⟨_, _, e, _⟩ := q; exact ⟨_, e, (fun _ z => nomatch z), (fun _ z => nomatch z)⟩
theorem Rel.write {a : Nat} {o : HO} {ob : Ob} (r : Rel B ρ s H) (ha : a < s.size) (ho : ObD B ρ s.size (upd H (ρ a) o) (ρ a) ob) : Rel B ρ (s.set a ob) (upd H (ρ a) o) := by
  refine ⟨r.nd, fun i j hi hj => by rw [S.size_set] at hi hj; exact r.inj i j hi hj, fun i u e => ?_, fun b h => ⟨let ⟨u, e⟩ := (r.res b h).1; ⟨u, by rw [upd_ne (Ne.symm ((r.res b h).2 a ha))]; exact e⟩, fun i hi => by rw [S.size_set] at hi; exact (r.res b h).2 i hi⟩, let ⟨o, e, nt, nc⟩ := r.kind ha; tabs_write r.tb e nt nc⟩
  rw [S.size_set]
  by_cases c : a = i
  · subst c
    rw [S.get_set_same ha] at e; cases e
    exact ho
  · rw [S.get_set_ne c] at e
    exact (r.ob i u e).ext (Ext.write r ha) (upd_ne fun z => c (r.inj i a (Rel.lt e) ha z).symm)
theorem SqT.of_den {ws : List W} {a : Addr} (h : Den B ρ n H (.tup ws) (.ref a)) : ∃ vs, SqT B.K H a vs ∧ DenL B ρ n H ws vs := by
  cases h with
  | tup h l =>
    rcases h with h | h
    · exact ⟨_, SqT.of h.1, l⟩
    · exact ⟨_, .inr h, l⟩
theorem SqL.of_den {ws : List W} {a : Addr} (h : Den B ρ n H (.lst ws) (.ref a)) : ∃ vs, H a = some (.lst vs) ∧ DenL B ρ n H ws vs := by
  cases h with
  | lst h l => exact ⟨_, h.1, l⟩
/-- what can be gone through: a tuple, a list -/
theorem items_den {w : W} {v : V} {ws : List W} (r : Rel B ρ s H) (d : Den B ρ s.size H w v) (e : items s w = some ws) : ∃ a vs, v = .ref a ∧ (SqL B.K H a vs ∨ SqT B.K H a vs) ∧ DenL B ρ s.size H ws vs := by
  cases d with
  | tup h l =>
    have e' := Option.some.inj (show some _ = some ws from e)
    subst e'
    rcases h with h | h
    · exact ⟨_, _, rfl, .inr (SqT.of h.1), l⟩
    · exact ⟨_, _, rfl, .inr (.inr h), l⟩
  | lst h l =>
    have e' := Option.some.inj (show some _ = some ws from e)
    subst e'
    exact ⟨_, _, rfl, .inl (SqL.of h.1), l⟩
  | frl h l =>
    have e' := Option.some.inj (show some _ = some ws from e)
    subst e'
    exact ⟨_, _, rfl, .inl (frl_sq h), l⟩
  | ref hi =>
    rename_i i
    have e1 : (match s.get i with
      | some (.lst ws) => some ws
      | _ => none) = some ws := e
    cases q : s.get i with
    | none => rw [q] at e1; cases e1
    | some o =>
      rw [q] at e1
      cases o with
      | lst us =>
        have e' := Option.some.inj e1
        subst e'
        obtain ⟨vs, h, l⟩ := r.ob i _ q
        exact ⟨_, vs, rfl, .inl (SqL.of h), l⟩
      | ins c fs => cases e1
  | _ => cases e
theorem itemsL_den {w : W} {v : V} {ws : List W} (r : Rel B ρ s H) (d : Den B ρ s.size H w v) (e : items s w = some ws) (ht : ¬ ∃ us, w = .tup us) : ∃ a vs, v = .ref a ∧ SqL B.K H a vs ∧ DenL B ρ s.size H ws vs := by
  cases d with
  | tup h l => exact absurd ⟨_, rfl⟩ ht
  | lst h l =>
    have e' := Option.some.inj (show some _ = some ws from e)
    subst e'
    exact ⟨_, _, rfl, SqL.of h.1, l⟩
  | frl h l =>
    have e' := Option.some.inj (show some _ = some ws from e)
    subst e'
    exact ⟨_, _, rfl, frl_sq h, l⟩
  | ref hi =>
    rename_i i
    have e1 : (match s.get i with
      | some (.lst ws) => some ws
      | _ => none) = some ws := e
    cases q : s.get i with
    | none => rw [q] at e1; cases e1
    | some o =>
      rw [q] at e1
      cases o with
      | lst us =>
        have e' := Option.some.inj e1
        subst e'
        obtain ⟨vs, h, l⟩ := r.ob i _ q
        exact ⟨_, vs, rfl, SqL.of h, l⟩
      | ins c fs => cases e1
  | _ => cases e
end

/-! ### results -/
/-- what is wanted of a result: of a value Q, of an exception Z -/
def Res {α β : Type} (B : Tb) (D : Pl → Nat → Hp → α → β → Prop) (ρ : Pl) (n : Nat) (H : Hp) (r : R α) (Q : β → Hp → Prop) (Z : XK) : Prop :=
  match r with
  | .ok a s => ∀ (ρ' : Pl) (H' : Hp) (v : β), Ext ρ n H ρ' s.size H' → Rel B ρ' s H' → D ρ' s.size H' a v → Q v H'
  | .exc c fs s => ∀ (ρ' : Pl) (H' : Hp) (d : Addr) (vfs : List (Str × V)), Ext ρ n H ρ' s.size H' → Rel B ρ' s H' → Fz ρ' s.size H' d (.xd vfs) → FsD B ρ' s.size H' fs vfs → Z (.ref (B.ca c)) (some d) H'
  | .fail => False
section
variable {α β γ δ : Type} {B : Tb} {D : Pl → Nat → Hp → α → β → Prop} {D' : Pl → Nat → Hp → γ → δ → Prop} {ρ ρ1 : Pl} {n n1 : Nat} {H H1 : Hp} {r : R α} {Q Q' : β → Hp → Prop} {Z : XK}
theorem Res.mono (h : Res B D ρ n H r Q Z) (k : ∀ v H', Q v H' → Q' v H') : Res B D ρ n H r Q' Z := by
  cases r with
  | ok a s => exact fun ρ' H' v e q d => k _ _ (h ρ' H' v e q d)
  | exc c fs s => exact h
  | fail => exact h
theorem Res.from (e : Ext ρ n H ρ1 n1 H1) (h : Res B D ρ n H r Q Z) : Res B D ρ1 n1 H1 r Q Z := by
  cases r with
  | ok a s => exact fun ρ' H' v e' q d => h ρ' H' v (e.trans e') q d
  | exc c fs s => exact fun ρ' H' d vfs e' q z f => h ρ' H' d vfs (e.trans e') q z f
  | fail => exact h
/-- one thing behind another -/
theorem Res.bind {f : α → S → R γ} {Q : δ → Hp → Prop} (h : Res B D' ρ n H (r.bind f) Q Z) :
    Res B D ρ n H r (fun v H1 => ∃ (ρ1 : Pl) (s1 : S) (a : α), Ext ρ n H ρ1 s1.size H1 ∧ Rel B ρ1 s1 H1 ∧ D ρ1 s1.size H1 a v ∧ Res B D' ρ1 s1.size H1 (f a s1) Q Z) Z := by
  cases r with
  | ok a s => exact fun ρ' H' v e q d => ⟨ρ', s, a, e, q, d, Res.from e h⟩
  | exc c fs s => exact h
  | fail => exact h
end
abbrev DW (B : Tb) : Pl → Nat → Hp → W → V → Prop := fun ρ n H w v => Den B ρ n H w v
abbrev DL (B : Tb) : Pl → Nat → Hp → List W → List V → Prop := fun ρ n H w v => DenL B ρ n H w v
abbrev DB : Pl → Nat → Hp → Bool → Bool → Prop := fun _ _ _ a b => a = b
/-- the readings -/
def rdE (B : Tb) (Z : St → XK) (f : Env → S → R W) : TE := fun σ H Q => ∃ (ρ : Pl) (s : S) (e : Env), Rel B ρ s H ∧ EnvD B ρ s.size H e σ ∧ Res B (DW B) ρ s.size H (f e s) Q (Z σ)
def rdT (B : Tb) (Z : St → XK) (f : Env → S → R Bool) : TT := fun σ H Q => ∃ (ρ : Pl) (s : S) (e : Env), Rel B ρ s H ∧ EnvD B ρ s.size H e σ ∧ Res B DB ρ s.size H (f e s) Q (Z σ)
def rdA (B : Tb) (Z : St → XK) (f : Env → S → R (List W)) : TA := fun σ H Q => ∃ (ρ : Pl) (s : S) (e : Env), Rel B ρ s H ∧ EnvD B ρ s.size H e σ ∧ Res B (DL B) ρ s.size H (f e s) Q (Z σ)
/-- a statement's result -/
def ResS (B : Tb) (ρ : Pl) (n : Nat) (H : Hp) (r : RS) (D : Ends) (Z : St → XK) : Prop :=
  match r with
  | .ok (.nx e) s => ∀ (ρ' : Pl) (H' : Hp) (σ : St), Ext ρ n H ρ' s.size H' → Rel B ρ' s H' → EnvD B ρ' s.size H' e σ → D.nx σ H'
  | .ok (.bk e) s => ∀ (ρ' : Pl) (H' : Hp) (σ : St), Ext ρ n H ρ' s.size H' → Rel B ρ' s H' → EnvD B ρ' s.size H' e σ → D.bk σ H'
  | .ok (.ct e) s => ∀ (ρ' : Pl) (H' : Hp) (σ : St), Ext ρ n H ρ' s.size H' → Rel B ρ' s H' → EnvD B ρ' s.size H' e σ → D.ct σ H'
  | .ok (.rt w) s => ∀ (ρ' : Pl) (H' : Hp) (v : V), Ext ρ n H ρ' s.size H' → Rel B ρ' s H' → Den B ρ' s.size H' w v → D.rt v H'
  | .exc c fs e s => ∀ (ρ' : Pl) (H' : Hp) (σ : St) (d : Addr) (vfs : List (Str × V)), Ext ρ n H ρ' s.size H' → Rel B ρ' s H' → EnvD B ρ' s.size H' e σ → Fz ρ' s.size H' d (.xd vfs) → FsD B ρ' s.size H' fs vfs → Z σ (.ref (B.ca c)) (some d) H'
  | .fail => False
def rdB (B : Tb) (Z : St → XK) (f : Env → S → RS) : TS := fun D σ H => ∃ (ρ : Pl) (s : S) (e : Env), Rel B ρ s H ∧ EnvD B ρ s.size H e σ ∧ ResS B ρ s.size H (f e s) D Z
end Ev

set_option Elab.async false
set_option linter.all false
set_option autoImplicit false
set_option maxRecDepth 100000
namespace Ev
open PySem PySem.Spec L2

section
variable {B : Tb} {ρ : Pl} {n : Nat} {H : Hp} {s : S}
mutual
theorem Den.dp : ∀ {w : W} {v : V} {d : PyData}, Den B ρ n H w v → dat w = some d → Dp B.K H v d ∧ d.plain = true
  | _, _, _, .non, e => by cases (Option.some.inj e); exact ⟨.non, rfl⟩
  | _, _, _, .bl, e => by cases (Option.some.inj e); exact ⟨.bl _, rfl⟩
  | _, _, _, .int, e => by cases (Option.some.inj e); exact ⟨.int _, rfl⟩
  | _, _, _, .str, e => by cases (Option.some.inj e); exact ⟨.str _, rfl⟩
  | .tup ws, _, d, .tup h l, e => by
    have e1 : (datL ws).map PyData.tuple = some d := by rw [← e, dat]
    cases q : datL ws with
    | none => rw [q] at e1; cases e1
    | some ds =>
      rw [q] at e1
      cases Option.some.inj e1
      obtain ⟨a, b⟩ := DenL.dp l q
      refine ⟨?_, b⟩
      rcases h with h | h
      · exact .tup (SqT.of h.1) a
      · exact .tup (.inr h) a
  | .lst ws, _, d, .lst h l, e => by
    have e1 : (datL ws).map PyData.list = some d := by rw [← e, dat]
    cases q : datL ws with
    | none => rw [q] at e1; cases e1
    | some ds =>
      rw [q] at e1
      cases Option.some.inj e1
      obtain ⟨a, b⟩ := DenL.dp l q
      exact ⟨.lst (SqL.of h.1) a, b⟩
  | .frl ws, _, d, .frl h l, e => by
    have e1 : (datL ws).map PyData.list = some d := by rw [← e, dat]
    cases q : datL ws with
    | none => rw [q] at e1; cases e1
    | some ds =>
      rw [q] at e1
      cases Option.some.inj e1
      obtain ⟨a, b⟩ := DenL.dp l q
      exact ⟨.lst (frl_sq h) a, b⟩
  | _, _, _, .ref _, e => by simp [dat] at e
  | _, _, _, .fn, e => by simp [dat] at e
  | _, _, _, .cls, e => by simp [dat] at e
  | _, _, _, .ty, e => by simp [dat] at e
  | _, _, _, .exn _ _ _ _ _, e => by simp [dat] at e
  | _, _, _, .dct _, e => by simp [dat] at e
theorem DenL.dp : ∀ {ws : List W} {vs : List V} {ds : List PyData}, DenL B ρ n H ws vs → datL ws = some ds → DpAll B.K H vs ds ∧ PyData.plainAll ds = true
  | _, _, _, .nil, e => by
    rw [datL] at e
    cases Option.some.inj e
    exact ⟨.nil, rfl⟩
  | w :: ws, _, ds, .cons h t, e => by
    rw [datL] at e
    cases q1 : dat w with
    | none => rw [q1] at e; cases e
    | some d =>
      cases q2 : datL ws with
      | none => rw [q1, q2] at e; cases e
      | some r =>
        rw [q1, q2] at e
        cases Option.some.inj e
        obtain ⟨a1, b1⟩ := Den.dp h q1
        obtain ⟨a2, b2⟩ := DenL.dp t q2
        exact ⟨.cons a1 a2, by show (d.plain && PyData.plainAll r) = true; rw [b1, b2]; rfl⟩
end
theorem Den.dpS (r : Rel B ρ s H) {w : W} {v : V} {d : PyData} (h : Den B ρ s.size H w v) (e : datS s w = some d) : Dp B.K H v d ∧ d.plain = true := by
  cases h with
  | ref hi =>
    rename_i i
    have e1 : (match s.get i with
      | some (.lst ws) => (datL ws).map .list
      | _ => none) = some d := e
    cases q : s.get i with
    | none => rw [q] at e1; cases e1
    | some o =>
      rw [q] at e1
      cases o with
      | ins c fs => cases e1
      | lst us =>
        replace e1 : (datL us).map PyData.list = some d := e1
        cases q2 : datL us with
        | none => rw [q2] at e1; cases e1
        | some ds =>
          rw [q2] at e1
          cases Option.some.inj e1
          obtain ⟨vs, hv, l⟩ := r.ob i _ q
          obtain ⟨a, b⟩ := DenL.dp l q2
          exact ⟨.lst (SqL.of hv) a, b⟩
  | _ => exact Den.dp (ρ := ρ) (n := s.size) (by first | exact .non | exact .bl | exact .int | exact .str | exact .fn | exact .cls | exact .ty | (constructor <;> assumption)) e
end

section
variable {X : Cx} {B : Tb} {ρ : Pl} {s : S} {H : Hp}
theorem reads_of {pins : List (Addr × Obj)} {σ : St} {st : Shared} {v : V} {u : Value} {d : PyData} (I : Inv X pins σ H st) (hK : B.K = X.K) (h : Dp B.K H v d) (r : RelV v u) : ∃ as, Reads st.heap u d as := Dp.reads I d v u (hK ▸ h) r
theorem room_min {A : Around} {d e : PyData} (hu : A.units + 65 < cLine) (h : (small d || small e) = true) : A.units + min d.depth e.depth < cLine := by
  rcases Bool.or_eq_true_iff.mp h with h | h
  · have z : d.depth ≤ 64 := of_decide_eq_true h
    have := Nat.min_le_left d.depth e.depth
    omega
  · have z : e.depth ≤ 64 := of_decide_eq_true h
    have := Nat.min_le_right d.depth e.depth
    omega
theorem eqW_some {a b : W} {c : Bool} (h : eqW s a b = some c) : ∃ d e, datS s a = some d ∧ datS s b = some e ∧ (small d || small e) = true ∧ c = PyData.eqv d e := by
  unfold eqW at h
  split at h
  · rename_i d e hd he
    split at h
    · rename_i hs
      exact ⟨d, e, hd, he, hs, (Option.some.inj h).symm⟩
    · cases h
  · cases h
theorem memW_some {a b : W} {c : Bool} (h : memW s a b = some c) : ∃ d ds, dat a = some d ∧ (datS s b = some (.list ds) ∨ datS s b = some (.tuple ds)) ∧ small d = true ∧ c = ds.any fun y => PyData.eqv y d := by
  unfold memW at h
  split at h
  · rename_i d ds hd he
    split at h
    · rename_i hs
      exact ⟨d, ds, hd, .inl he, hs, (Option.some.inj h).symm⟩
    · cases h
  · rename_i d ds hd he
    split at h
    · rename_i hs
      exact ⟨d, ds, hd, .inr he, hs, (Option.some.inj h).symm⟩
    · cases h
  · cases h
theorem plainAll_of_l {ds : List PyData} (h : (PyData.list ds).plain = true) : PyData.plainAll ds = true := h
theorem plainAll_of_t {ds : List PyData} (h : (PyData.tuple ds).plain = true) : PyData.plainAll ds = true := h
def CmpO.py : CmpO → CmpOp
  | .eq => .Eq | .ne => .NotEq | .lt => .Lt | .le => .LtE | .gt => .Gt | .ge => .GtE | .is_ => .Is | .isnot => .IsNot | .in_ => .In | .notin => .NotIn
/-- a comparison -/
def rCmp (B : Tb) (o : CmpO) : R2 := fun x y H Q => ∃ (ρ : Pl) (s : S) (w u : W) (c : Bool), Rel B ρ s H ∧ Den B ρ s.size H w x ∧ Den B ρ s.size H u y ∧ cmpW s o w u = some c ∧ Q (.bl c) H
theorem op_cmpW (hK : B.K = X.K) (hu : X.A.units + 65 < cLine) (o : CmpO) : OpR X (compareOp o.py) (rCmp B o) := by
  intro pins st σ H x y v u Q I rx ry h
  obtain ⟨ρ, s, w, w', c, r, dx, dy, hc, q⟩ := h
  have fin : EP X pins σ Q (.bool c) st := ⟨.bl c, H, I, rfl, q⟩
  have mem : ∀ {c' : Bool}, memW s w w' = some c' → ∃ d ds as, Reads st.heap v d as ∧ d.plain = true ∧ PyData.plainAll ds = true ∧ X.A.units + 1 + min (PyData.depthAll ds) d.depth < cLine ∧ (c' = ds.any fun y => PyData.eqv y d) ∧
      ((∃ bs, Reads st.heap u (.list ds) bs) ∨ ∃ bs, Reads st.heap u (.tuple ds) bs) := fun {c'} hm => by
    obtain ⟨d, ds, h1, h2, h3, h4⟩ := memW_some hm
    obtain ⟨p1, p2⟩ := dx.dp h1
    obtain ⟨as, r1⟩ := reads_of I hK p1 rx
    have hz : X.A.units + 1 + min (PyData.depthAll ds) d.depth < cLine := by
      have z : d.depth ≤ 64 := of_decide_eq_true h3
      have := Nat.min_le_right (PyData.depthAll ds) d.depth
      omega
    rcases h2 with h2 | h2
    · obtain ⟨q1, q2⟩ := Den.dpS r dy h2
      obtain ⟨bs, r2⟩ := reads_of I hK q1 ry
      exact ⟨d, ds, as, r1, p2, q2, hz, h4, .inl ⟨bs, r2⟩⟩
    · obtain ⟨q1, q2⟩ := Den.dpS r dy h2
      obtain ⟨bs, r2⟩ := reads_of I hK q1 ry
      exact ⟨d, ds, as, r1, p2, q2, hz, h4, .inr ⟨bs, r2⟩⟩
  cases o with
  | eq =>
    obtain ⟨d, e, h1, h2, h3, rfl⟩ := eqW_some hc
    obtain ⟨p1, p2⟩ := Den.dpS r dx h1
    obtain ⟨q1, q2⟩ := Den.dpS r dy h2
    obtain ⟨as, r1⟩ := reads_of I hK p1 rx
    obtain ⟨bs, r2⟩ := reads_of I hK q1 ry
    exact SeqAt.eq_plain r1 r2 p2 q2 (room_min hu h3) fin
  | ne =>
    have hc' : (eqW s w w').map (!·) = some c := hc
    cases e1 : eqW s w w' with
    | none => rw [e1] at hc'; cases hc'
    | some c' =>
      rw [e1] at hc'
      cases Option.some.inj hc'
      obtain ⟨d, e, h1, h2, h3, rfl⟩ := eqW_some e1
      obtain ⟨p1, p2⟩ := Den.dpS r dx h1
      obtain ⟨q1, q2⟩ := Den.dpS r dy h2
      obtain ⟨as, r1⟩ := reads_of I hK p1 rx
      obtain ⟨bs, r2⟩ := reads_of I hK q1 ry
      exact SeqAt.ne_plain r1 r2 p2 q2 (room_min hu h3) fin
  | lt =>
    have z : ∃ i j, w = .int i ∧ w' = .int j := by
      cases w <;> first | (exact nomatch (show none = some c from hc)) | skip
      cases w' <;> first | (exact nomatch (show none = some c from hc)) | exact ⟨_, _, rfl, rfl⟩
    obtain ⟨i, j, rfl, rfl⟩ := z
    cases dx
    cases dy
    cases Option.some.inj (show some _ = some c from hc)
    exact op_lt pins st σ H _ _ v u Q I rx ry ⟨i, j, rfl, rfl, q⟩
  | le =>
    have z : ∃ i j, w = .int i ∧ w' = .int j := by
      cases w <;> first | (exact nomatch (show none = some c from hc)) | skip
      cases w' <;> first | (exact nomatch (show none = some c from hc)) | exact ⟨_, _, rfl, rfl⟩
    obtain ⟨i, j, rfl, rfl⟩ := z
    cases dx
    cases dy
    cases Option.some.inj (show some _ = some c from hc)
    exact op_le pins st σ H _ _ v u Q I rx ry ⟨i, j, rfl, rfl, q⟩
  | gt =>
    have z : ∃ i j, w = .int i ∧ w' = .int j := by
      cases w <;> first | (exact nomatch (show none = some c from hc)) | skip
      cases w' <;> first | (exact nomatch (show none = some c from hc)) | exact ⟨_, _, rfl, rfl⟩
    obtain ⟨i, j, rfl, rfl⟩ := z
    cases dx
    cases dy
    cases Option.some.inj (show some _ = some c from hc)
    exact op_gt pins st σ H _ _ v u Q I rx ry ⟨i, j, rfl, rfl, q⟩
  | ge =>
    have z : ∃ i j, w = .int i ∧ w' = .int j := by
      cases w <;> first | (exact nomatch (show none = some c from hc)) | skip
      cases w' <;> first | (exact nomatch (show none = some c from hc)) | exact ⟨_, _, rfl, rfl⟩
    obtain ⟨i, j, rfl, rfl⟩ := z
    cases dx
    cases dy
    cases Option.some.inj (show some _ = some c from hc)
    exact op_ge pins st σ H _ _ v u Q I rx ry ⟨i, j, rfl, rfl, q⟩
  | is_ =>
    have z : w' = .non := by
      cases w' <;> first | (exact nomatch (show none = some c from hc)) | rfl
    subst z
    cases dy
    refine op_isN pins st σ H x _ v u Q I rx ry ⟨rfl, ?_⟩
    have e : decide (x = .non) = c := by
      rw [← Option.some.inj hc]
      cases dx <;> simp
    rw [e]; exact q
  | isnot =>
    have z : w' = .non := by
      cases w' <;> first | (exact nomatch (show none = some c from hc)) | rfl
    subst z
    cases dy
    refine op_notN pins st σ H x _ v u Q I rx ry ⟨rfl, ?_⟩
    have e : (!decide (x = .non)) = c := by
      rw [← Option.some.inj hc]
      cases dx <;> simp
    rw [e]; exact q
  | in_ =>
    by_cases hs : (∃ a b, w = .str a ∧ w' = .str b)
    · obtain ⟨a, b, rfl, rfl⟩ := hs
      cases dx
      cases dy
      refine op_in_str pins st σ H _ _ v u Q I rx ry ⟨_, _, rfl, rfl, ?_⟩
      have e := Option.some.inj (show some _ = some c from hc)
      rw [e]; exact q
    · have hm : memW s w w' = some c := by
        cases w <;> cases w' <;> first | exact hc | exact absurd ⟨_, _, rfl, rfl⟩ hs
      obtain ⟨d, ds, as, r1, p1, p2, hz, e, h⟩ := mem hm
      subst e
      rcases h with ⟨bs, r2⟩ | ⟨bs, r2⟩
      · exact SeqAt.in_list_data r2 r1 p2 p1 hz fin
      · exact SeqAt.in_tuple_data r2 r1 p2 p1 hz fin
  | notin =>
    by_cases hs : (∃ a b, w = .str a ∧ w' = .str b)
    · obtain ⟨a, b, rfl, rfl⟩ := hs
      cases dx
      cases dy
      refine op_notIn_str pins st σ H _ _ v u Q I rx ry ⟨_, _, rfl, rfl, ?_⟩
      have e := Option.some.inj (show some _ = some c from hc)
      rw [e]; exact q
    · have hm : (memW s w w').map (!·) = some c := by
        cases w <;> cases w' <;> first | exact hc | exact absurd ⟨_, _, rfl, rfl⟩ hs
      cases e1 : memW s w w' with
      | none => rw [e1] at hm; cases hm
      | some c' =>
        rw [e1] at hm
        cases Option.some.inj hm
        obtain ⟨d, ds, as, r1, p1, p2, hz, e, h⟩ := mem e1
        subst e
        rcases h with ⟨bs, r2⟩ | ⟨bs, r2⟩
        · exact SeqAt.notIn_list_data r2 r1 p2 p1 hz fin
        · exact SeqAt.notIn_tuple_data r2 r1 p2 p1 hz fin
end
end Ev

set_option Elab.async false
set_option linter.all false
set_option autoImplicit false
set_option maxRecDepth 100000
namespace Ev
open PySem PySem.Spec L2

theorem PE.weak {X : Cx} {e : Expr} {t t' : TE} (h : PE X e t) (k : ∀ σ H Q, t' σ H Q → t σ H Q) : PE X e t' := ⟨fun pins s σ H Q I w => h.run pins s σ H Q I (k σ H Q w)⟩
theorem PT.weak {X : Cx} {e : Expr} {t t' : TT} (h : PT X e t) (k : ∀ σ H Q, t' σ H Q → t σ H Q) : PT X e t' := ⟨fun pins s σ H Q I w => h.run pins s σ H Q I (k σ H Q w)⟩
theorem PA.weak {X : Cx} {e : List Expr} {t t' : TA} (h : PA X e t) (k : ∀ σ H Q, t' σ H Q → t σ H Q) : PA X e t' := ⟨fun pos pins s σ H Q I w => h.run pos pins s σ H Q I (k σ H Q w)⟩
theorem PS.weak {X : Cx} {e : Stmt} {t t' : TS} (h : PS X e t) (k : ∀ D σ H, t' D σ H → t D σ H) : PS X e t' := ⟨fun pins s σ H D I w => h.run pins s σ H D I (k D σ H w)⟩
theorem PSs.weak {X : Cx} {e : List Stmt} {t t' : TS} (h : PSs X e t) (k : ∀ D σ H, t' D σ H → t D σ H) : PSs X e t' := ⟨fun pins s σ H D I w => h.run pins s σ H D I (k D σ H w)⟩
theorem lim_eq : lim = sizeLine := by rw [sizeLine_eq]; rfl

/-! ### the empty and the single product of a tuple -/
section
open PyProof.Rows
theorem tuple_once (l : Addr) (items : Array Value) (n : Nat) (dd : Option Addr) (sl : Array (Option Value)) (x : Int) (u : Tok) (c0 : (decide (x < -(2 ^ 63)) || decide (x ≥ 2 ^ 63)) = false) (c1 : (items.isEmpty || x == 1) = true) :
    Meets (Builtin.«tuple.__mul__» ⟨[.ref l, .int x u], []⟩) (fun _ R s => s.heap.get? l = some { cls := .type "tuple", dict := dd, data := .seq items n, slots := sl } ∧ R (.ok (.ret (Value.ref l))) s) := by
  refine .of_wp fun prog w A R s hh => ?_
  obtain ⟨hp, g, d, tk, os⟩ := s
  obtain ⟨hl, hq⟩ := hh
  have f1 := AutoSeq1.idx_int
  wp_walk using wpAny_loadPart' hl
  repeat (first
    | (refine wpAny_ite_false (decide_eq_false (by rw [c0]; exact Bool.false_ne_true)) ?_
       wp_walk using wpAny_loadPart' hl)
    | (refine wpAny_ite_true (decide_eq_true c1) ?_
       wp_walk using wpAny_loadPart' hl))
  all_goals exact ⟨_, rfl, hq⟩
end
section
variable {X : Cx}
/-- a tuple once, or the empty one at all -/
theorem op_repT1 : OpR X (binaryOp .Mult) (fun x y H Q => ∃ l k xs, x = .ref l ∧ y = .int k ∧ SqT X.K H l xs ∧ (xs = [] ∨ k = 1) ∧ 1 ≤ k ∧ k ≤ 1000 ∧ Q (.ref l) H) := by
  intro pins st σ H x y v u Q I rx ry h
  obtain ⟨l, k, xs, rfl, rfl, hT, hor, k1, k2, q⟩ := h
  cases rx
  obtain ⟨t, rfl⟩ := ry
  obtain ⟨its, r, ⟨⟨cls, dd, data, sl⟩, ho, hcl, m, hd⟩, _⟩ := I.tuple hT
  dsimp only at hcl hd
  subst hcl hd
  have b0 : (decide (k < -(2 ^ 63)) || decide (k ≥ 2 ^ 63)) = false := by rw [decide_eq_false (by omega), decide_eq_false (by omega), Bool.or_self]
  have b1 : (its.toArray.isEmpty || k == 1) = true := by
    rcases hor with e | e
    · subst e
      cases r
      rfl
    · subst e
      cases its.toArray.isEmpty <;> rfl
  have hty : st.TypeIs (.ref l) "tuple" := ⟨_, ho, rfl⟩
  refine wpAny_binaryOp_repeat_ref (T := "tuple") (U := "int") (by decide) hty (fun s' => typeIs_int s' k t) noFill_tuple_mul F.fills_int_mul F.slot_int_rmul repeat_tuple F.slot_int_index.lookup ?_
  refine call_meets F.slot_int_rmul (typeIs_int st k t) F.entry_int_rmul (F.args_int_rmul_2 _ _) (int_rmul_tuple k t l its.toArray m dd sl) ⟨ho, rfl, hty, ?_⟩
  exact call_meets F.slot_tuple_mul hty F.entry_tuple_mul (F.args_tuple_mul_2 _ _) (tuple_once l its.toArray m dd sl k t b0 b1) ⟨ho, ⟨.ref l, H, I, rfl, q⟩⟩
end

section
variable {B : Tb} {ρ : Pl} {n : Nat} {H : Hp} {s : S}
theorem DenL.rep {ws : List W} {vs : List V} (h : DenL B ρ n H ws vs) : ∀ k : Nat, DenL B ρ n H (List.replicate k ws).flatten (List.replicate k vs).flatten
  | 0 => .nil
  | k + 1 => by
    rw [List.replicate_succ, List.replicate_succ, List.flatten_cons, List.flatten_cons]
    exact h.append (DenL.rep h k)
theorem rep_len {α : Type} (ws : List α) : ∀ k : Nat, (List.replicate k ws).flatten.length = k * ws.length := fun k => PyProof.Rows.lm_len_rep_flat ws k
/-- a value handed on as it is -/
theorem Res.here {w : W} {v : V} {Q : VK} {Z : XK} (r : Rel B ρ s H) (h : Res B (DW B) ρ s.size H (.ok w s) Q Z) (d : Den B ρ s.size H w v) : Q v H := h ρ H v Ext.refl r d
/-- a new object of a list -/
theorem Res.newL {ws : List W} {vs : List V} {Q : VK} {Z : XK} (r : Rel B ρ s H) (h : Res B (DW B) ρ s.size H (.ok (.lst ws) s) Q Z) (d : DenL B ρ s.size H ws vs) : ∀ p, H p = none → Q (.ref p) (upd H p (.lst vs)) := fun p hp =>
  h ρ _ _ (Ext.laid hp) (r.laid hp) (.lst (Fz.laid r hp) (d.ext (Ext.laid hp)))
theorem Res.newT {ws : List W} {vs : List V} {Q : VK} {Z : XK} (r : Rel B ρ s H) (h : Res B (DW B) ρ s.size H (.ok (.tup ws) s) Q Z) (d : DenL B ρ s.size H ws vs) : ∀ p, H p = none → Q (.ref p) (upd H p (.tup vs)) := fun p hp =>
  h ρ _ _ (Ext.laid hp) (r.laid hp) (.tup (.inl (Fz.laid r hp)) (d.ext (Ext.laid hp)))
end

def BinO.py : BinO → Operator
  | .add => .Add | .sub => .Sub | .mul => .Mult | .fdiv => .FloorDiv | .mod => .Mod | .pow => .Pow
def rBin (B : Tb) (Z : XK) (o : BinO) : R2 := fun x y H Q => ∃ (ρ : Pl) (s : S) (w u : W), Rel B ρ s H ∧ Den B ρ s.size H w x ∧ Den B ρ s.size H u y ∧ Res B (DW B) ρ s.size H (binW s o w u) Q Z
section
variable {X : Cx} {B : Tb} {Z : XK}
theorem ite_res {α β : Type} {B : Tb} {D : Pl → Nat → Hp → α → β → Prop} {ρ : Pl} {n : Nat} {H : Hp} {c : Prop} [Decidable c] {r : R α} {Q : β → Hp → Prop} {Z : XK} (h : Res B D ρ n H (if c then r else .fail) Q Z) : c ∧ Res B D ρ n H r Q Z := by
  by_cases hc : c
  · rw [if_pos hc] at h; exact ⟨hc, h⟩
  · rw [if_neg hc] at h; exact h.elim
theorem op_binW (hK : B.K = X.K) (o : BinO) : OpR X (binaryOp o.py) (rBin B Z o) := by
  intro pins st σ H x y v u Q I rx ry h
  obtain ⟨ρ, s, w, w', r, dx, dy, h⟩ := h
  cases o with
  | sub =>
    cases w <;> first | exact h.elim | skip
    cases w' <;> first | exact h.elim | skip
    cases dx
    cases dy
    exact op_sub pins st σ H _ _ v u Q I rx ry ⟨_, _, rfl, rfl, Res.here r h .int⟩
  | mod =>
    cases w <;> first | exact h.elim | skip
    cases w' <;> first | exact h.elim | skip
    cases dx
    cases dy
    obtain ⟨hc, h⟩ := ite_res h
    exact op_mod pins st σ H _ _ v u Q I rx ry ⟨_, _, rfl, rfl, of_decide_eq_true hc, Res.here r h .int⟩
  | fdiv =>
    cases w <;> first | exact h.elim | skip
    cases w' <;> first | exact h.elim | skip
    rename_i i j
    cases dx
    cases dy
    obtain ⟨hc, h⟩ := ite_res h
    obtain ⟨h1, h2⟩ := Bool.and_eq_true_iff.mp hc
    have h1 : 0 < j := of_decide_eq_true h1
    have h2 : j < 2 ^ 1000 := of_decide_eq_true h2
    exact op_fdivW pins st σ H _ _ v u Q I rx ry ⟨i, j, rfl, rfl, wide_div h1 (by omega : j.natAbs < 2 ^ 1000) (by decide) (by decide), Res.here r h .int⟩
  | pow =>
    cases w <;> first | exact h.elim | skip
    cases w' <;> first | exact h.elim | skip
    cases dx
    cases dy
    obtain ⟨hc, h⟩ := ite_res h
    obtain ⟨h12, h3⟩ := Bool.and_eq_true_iff.mp hc
    obtain ⟨h1, h2⟩ := Bool.and_eq_true_iff.mp h12
    exact op_pow pins st σ H _ _ v u Q I rx ry ⟨_, _, rfl, rfl, ⟨of_decide_eq_true h1, of_decide_eq_true h2, of_decide_eq_true h3⟩, Res.here r h .int⟩
  | mul =>
    have h : Res B (DW B) ρ s.size H (mulW s w w') Q Z := h
    cases w <;> first | exact h.elim | skip
    · cases w' <;> first | exact h.elim | skip
      cases dx
      cases dy
      obtain ⟨hc, h⟩ := ite_res h
      refine op_mul pins st σ H _ _ v u Q I rx ry ⟨_, _, rfl, rfl, ?_, Res.here r h .int⟩
      rcases Bool.or_eq_true_iff.mp hc with hc | hc
      · exact .inl ⟨of_decide_eq_true (Bool.and_eq_true_iff.mp hc).1, of_decide_eq_true (Bool.and_eq_true_iff.mp hc).2⟩
      · exact .inr ⟨of_decide_eq_true (Bool.and_eq_true_iff.mp hc).1, of_decide_eq_true (Bool.and_eq_true_iff.mp hc).2⟩
    · cases w' <;> first | exact h.elim | skip
      rename_i ws k hOld
      cases dy
      obtain ⟨hc, h⟩ := ite_res h
      obtain ⟨h12, h3⟩ := Bool.and_eq_true_iff.mp hc
      have h1 : 1 ≤ k := of_decide_eq_true (Bool.and_eq_true_iff.mp h12).1
      have h2 : k ≤ 1000 := of_decide_eq_true (Bool.and_eq_true_iff.mp h12).2
      have h3 : ws.length ≤ 1000 := of_decide_eq_true h3
      cases dx with
      | tup hh l =>
        rename_i vs a
        have hT : SqT X.K H a vs := hK ▸ (show SqT B.K H a vs from hh.elim (fun z => SqT.of z.1) (fun z => .inr z))
        by_cases c : vs = [] ∨ k = 1
        · refine op_repT1 pins st σ H _ _ v u Q I rx ry ⟨a, k, vs, rfl, rfl, hT, c, h1, h2, ?_⟩
          refine Res.here r h ?_
          have e : (List.replicate k.toNat ws).flatten = ws := by
            rcases c with c | c
            · subst c
              cases l
              have z : (List.replicate k.toNat ([] : List W)).flatten.length = 0 := by rw [rep_len]; simp
              exact List.eq_nil_of_length_eq_zero z
            · subst c
              simp
          rw [e]
          exact .tup hh l
        · have c1 : vs ≠ [] := fun z => c (.inl z)
          have c2 : k ≠ 1 := fun z => c (.inr z)
          have hl := l.length
          exact op_repT pins st σ H _ _ v u Q I rx ry ⟨a, k, vs, rfl, rfl, hT, c1, by omega, h2, by omega, Res.newT r h (l.rep k.toNat)⟩
    · cases w' <;> first | exact h.elim | skip
      rename_i ws k hOld
      cases dy
      obtain ⟨hc, h⟩ := ite_res h
      obtain ⟨h12, h3⟩ := Bool.and_eq_true_iff.mp hc
      have h1 : 0 ≤ k := of_decide_eq_true (Bool.and_eq_true_iff.mp h12).1
      have h2 : k < 2 ^ 62 := of_decide_eq_true (Bool.and_eq_true_iff.mp h12).2
      have h3 : ws.length * k.toNat ≤ lim := of_decide_eq_true h3
      cases dx with
      | lst hh l =>
        have hl := l.length
        rw [lim_eq] at h3
        exact op_rep pins st σ H _ _ v u Q I rx ry ⟨_, k, _, rfl, rfl, hh.1, by omega, by omega, by rw [← hl]; exact h3, Res.newL r h (l.rep k.toNat)⟩
  | add =>
    have h : Res B (DW B) ρ s.size H (addW s w w') Q Z := h
    cases w <;> first | exact h.elim | skip
    · cases w' <;> first | exact h.elim | skip
      cases dx
      cases dy
      exact op_add pins st σ H _ _ v u Q I rx ry ⟨_, _, rfl, rfl, Res.here r h .int⟩
    · cases w' <;> first | exact h.elim | skip
      cases dx
      cases dy
      obtain ⟨hc, h⟩ := ite_res h
      exact op_add_str pins st σ H _ _ v u Q I rx ry ⟨_, _, rfl, rfl, lim_eq ▸ hc, Res.here r h .str⟩
    · cases w' <;> first | exact h.elim | skip
      obtain ⟨hc, h⟩ := ite_res h
      rw [lim_eq] at hc
      cases dx with
      | tup ha la =>
        cases dy with
        | tup hb lb =>
          rename_i vs a us b
          have hA : SqT X.K H a vs := hK ▸ (show SqT B.K H a vs from ha.elim (fun z => SqT.of z.1) (fun z => .inr z))
          have hB : SqT X.K H b us := hK ▸ (show SqT B.K H b us from hb.elim (fun z => SqT.of z.1) (fun z => .inr z))
          have l1 := la.length
          have l2 := lb.length
          refine op_catA pins st σ H _ _ v u Q I rx ry ⟨a, b, vs, us, rfl, rfl, hA, hB, by rw [← l1, ← l2]; exact hc, fun e => ?_, fun _ e => ?_, fun _ _ => Res.newT r h (la.append lb)⟩
          · subst e
            cases la
            exact Res.here r h (.tup hb lb)
          · subst e
            cases lb
            rw [List.append_nil] at h
            exact Res.here r h (.tup ha la)
    · cases w' <;> first | exact h.elim | skip
      obtain ⟨hc, h⟩ := ite_res h
      rw [lim_eq] at hc
      cases dx with
      | lst ha la =>
        cases dy with
        | lst hb lb =>
          have l1 := la.length
          have l2 := lb.length
          exact op_cat pins st σ H _ _ v u Q I rx ry ⟨_, _, _, _, rfl, rfl, ha.1, hb.1, by rw [← l1, ← l2]; exact hc, Res.newL r h (la.append lb)⟩
end
end Ev

set_option Elab.async false
set_option linter.all false
set_option autoImplicit false
set_option maxRecDepth 100000
namespace Ev
open PySem PySem.Spec L2

section
variable {X : Cx} {B : Tb} {Z : St → XK} {C : C} {a b c : E} {x y z : Expr} {pos : Pos}
/-- an expression does what its term says: as a value, a test, arguments, what is gone through -/
abbrev PEv (X : Cx) (B : Tb) (Z : St → XK) (C : Ev.C) (x : Expr) (a : E) : Prop := PE X x (rdE B Z (sem C a).e)
abbrev PTv (X : Cx) (B : Tb) (Z : St → XK) (C : Ev.C) (x : Expr) (a : E) : Prop := PT X x (rdT B Z (sem C a).t)
abbrev PAv (X : Cx) (B : Tb) (Z : St → XK) (C : Ev.C) (xs : List Expr) (a : E) : Prop := PA X xs (rdA B Z (sem C a).a)
def SrcOk (B : Tb) (ρ0 : Pl) (n0 : Nat) (H0 : Hp) (src : Src) (J : It) : Prop :=
  ∀ (ρ : Pl) (s : S) (H : Hp) (i : Nat), Ext ρ0 n0 H0 ρ s.size H → Rel B ρ s H → match src.at s i with
    | none => True
    | some none => J.stop i H
    | some (some w) => J.go i H ∧ ∀ x H', J.yld i H x H' → Ext ρ s.size H ρ s.size H' ∧ Rel B ρ s H' ∧ Den B ρ s.size H' w x
abbrev DS (B : Tb) : Pl → Nat → Hp → Src → It → Prop := fun ρ n H src J => SrcOk B ρ n H src J
def rdI (B : Tb) (Z : St → XK) (f : Env → S → R Src) : TI := fun σ H Q => ∃ (ρ : Pl) (s : S) (e : Env), Rel B ρ s H ∧ EnvD B ρ s.size H e σ ∧ Res B (DS B) ρ s.size H (f e s) Q (Z σ)
abbrev PIv (X : Cx) (B : Tb) (Z : St → XK) (C : Ev.C) (tg x : Expr) (a : E) : Prop := PI X tg x (rdI B Z (sem C a).i)

theorem rx_int {i j} : PEv X B Z C (.Constant (.int i) j pos) (.k (.int i)) := PE.weak pe_int fun σ H Q ⟨ρ, s, e, r, ed, h⟩ => Res.here r h .int
theorem rx_bl {i j} : PEv X B Z C (.Constant (.bool i) j pos) (.k (.bl i)) := PE.weak pe_bl fun σ H Q ⟨ρ, s, e, r, ed, h⟩ => Res.here r h .bl
theorem rx_non {j} : PEv X B Z C (.Constant .none j pos) (.k .non) := PE.weak pe_non fun σ H Q ⟨ρ, s, e, r, ed, h⟩ => Res.here r h .non
theorem rx_str {i j} : PEv X B Z C (.Constant (.str i) j pos) (.k (.str i)) := PE.weak pe_str fun σ H Q ⟨ρ, s, e, r, ed, h⟩ => Res.here r h .str
theorem rx_var {i : Nat} {nm : Str} (hN : X.N[i]? = some nm) (hv : Vis X.env.scope nm) (hd : (nm == ("__debug__" : Str)) = false) (hcd : (nm == ("__classdict__" : Str)) = false) : PEv X B Z C (.Name nm pos) (.v i) :=
  PE.weak (pe_var hN hv hd hcd) fun σ H Q ⟨ρ, s, e, r, ed, h⟩ => by
    have h' : Res B (DW B) ρ s.size H (match e[i]? with
      | some (some w) => if isLam w then R.fail else R.ok w s
      | _ => .fail) Q (Z σ) := h
    split at h'
    · rename_i w hw
      obtain ⟨v, hv, d⟩ := ed.2 i w hw
      by_cases c : isLam w = true
      · rw [if_pos c] at h'
        exact (show False from h').elim
      · rw [if_neg c] at h'
        exact ⟨v, hv, Res.here r h' (d.den (Bool.not_eq_true _ ▸ c))⟩
    · exact h'.elim
/-- a global name whose value is known -/
structure Glob (X : Cx) (B : Tb) (nm : Str) (w : W) : Prop where
  gl : Gl X nm
  nd : (nm == ("__debug__" : Str)) = false
  ex : ∃ v u, X.mg nm = some u ∧ RelV v u ∧ ∀ (ρ : Pl) (n : Nat) (H : Hp), Den B ρ n H w v
theorem rx_gl {nm : Str} {w : W} (g : Glob X B nm w) : PEv X B Z C (.Name nm pos) (.gl nm w) := by
  obtain ⟨v, u, h1, h2, h3⟩ := g.ex
  exact PE.weak (pe_glob g.gl h1 h2 g.nd) fun σ H Q ⟨ρ, s, e, r, ed, h⟩ => Res.here r h (h3 _ _ _)
theorem rx_bin {o : BinO} (hK : B.K = X.K) (ha : PEv X B Z C x a) (hb : PEv X B Z C y b) : PEv X B Z C (.BinOp x o.py y pos) (.bin o a b) := by
  refine ⟨fun pins st σ H Q I hh => ?_⟩
  refine (PE.weak (pe_op (op_binW (Z := Z σ) hK o) ha hb) (t' := fun σ' H' Q' => σ' = σ ∧ rdE B Z (sem C (.bin o a b)).e σ' H' Q') ?_).run pins st σ H Q I ⟨rfl, hh⟩
  rintro σ' H' Q' ⟨rfl, ρ, s, e, r, ed, h⟩
  refine ⟨ρ, s, e, r, ed, (Res.bind h).mono ?_⟩
  rintro v1 H1 ⟨ρ1, s1, w1, x1, r1, d1, h1⟩
  refine ⟨ρ1, s1, e, r1, ed.ext x1, (Res.bind h1).mono ?_⟩
  rintro v2 H2 ⟨ρ2, s2, w2, x2, r2, d2, h2⟩
  exact ⟨ρ2, s2, w1, w2, r2, d1.ext x2, d2, h2⟩
theorem rx_cmp {o : CmpO} (hK : B.K = X.K) (hu : X.A.units + 65 < cLine) (hm : behindInMarks o.py y = false) (ha : PEv X B Z C x a) (hb : PEv X B Z C y b) : PEv X B Z C (.Compare x [o.py] [y] pos) (.cmp o a b) :=
  PE.weak (pe_cmpR (op_cmpW hK hu o) ha hb hm) fun σ H Q ⟨ρ, s, e, r, ed, h⟩ => by
    refine ⟨ρ, s, e, r, ed, (Res.bind h).mono ?_⟩
    rintro v1 H1 ⟨ρ1, s1, w1, x1, r1, d1, h1⟩
    refine ⟨ρ1, s1, e, r1, ed.ext x1, (Res.bind h1).mono ?_⟩
    rintro v2 H2 ⟨ρ2, s2, w2, x2, r2, d2, h2⟩
    cases q : cmpW s2 o w1 w2 with
    | none => rw [q] at h2; exact h2.elim
    | some k =>
      rw [q] at h2
      exact ⟨ρ2, s2, w1, w2, k, r2, d1.ext x2, d2, q, Res.here r2 h2 .bl⟩
theorem tx_cmp {o : CmpO} (hK : B.K = X.K) (hu : X.A.units + 65 < cLine) (hm : behindInMarks o.py y = false) (ha : PEv X B Z C x a) (hb : PEv X B Z C y b) : PTv X B Z C (.Compare x [o.py] [y] pos) (.cmp o a b) :=
  PT.weak (pt_cmpR (op_cmpW hK hu o) ha hb hm) fun σ H Q ⟨ρ, s, e, r, ed, h⟩ => by
    have h0 := Res.bind (f := fun x s1 => optR (truW s1 x) s1) (D := DW B) h
    refine ⟨ρ, s, e, r, ed, (Res.bind h0).mono ?_⟩
    rintro v1 H1 ⟨ρ1, s1, w1, x1, r1, d1, h1⟩
    refine ⟨ρ1, s1, e, r1, ed.ext x1, (Res.bind h1).mono ?_⟩
    rintro v2 H2 ⟨ρ2, s2, w2, x2, r2, d2, h2⟩
    cases q : cmpW s2 o w1 w2 with
    | none => rw [q] at h2; exact h2.elim
    | some k =>
      rw [q] at h2
      obtain ⟨ρ3, s3, w3, x3, r3, d3, h3⟩ := Res.here r2 h2 (v := .bl k) .bl
      cases d3
      exact ⟨ρ2, s2, w1, w2, k, r2, d1.ext x2, d2, q, k, rfl, h3 ρ3 _ _ Ext.refl r3 rfl⟩
theorem truV_of {ρ : Pl} {s : S} {H : Hp} {w : W} {v : V} {k : Bool} (hK : B.K = X.K) (r : Rel B ρ s H) (d : Den B ρ s.size H w v) (e : truW s w = some k) : TruV X.K v H k := by
  cases d with
  | non => exact (Option.some.inj e).symm
  | bl => exact (Option.some.inj e).symm
  | int => exact (Option.some.inj e).symm
  | str =>
    rename_i z
    have e' : (if z.length ≤ lim then some (z.length != 0) else none) = some k := e
    by_cases hz : z.length ≤ lim
    · rw [if_pos hz] at e'
      refine ⟨lim_eq ▸ hz, ?_⟩
      rw [← Option.some.inj e']
      cases z.length <;> rfl
    · rw [if_neg hz] at e'; cases e'
  | tup h l =>
    rename_i ws vs p
    have hT : SqT X.K H p vs := hK ▸ (show SqT B.K H p vs from h.elim (fun z => SqT.of z.1) (fun z => .inr z))
    refine .inr (.inl ⟨vs, hT, ?_⟩)
    rw [← Option.some.inj e]
    cases l <;> rfl
  | lst h l =>
    refine .inl ⟨_, SqL.of h.1, ?_⟩
    rw [← Option.some.inj e]
    cases l <;> rfl
  | ref hi =>
    rename_i i
    have e1 : (match s.get i with
      | some (.lst ws) => some (!ws.isEmpty)
      | _ => none) = some k := e
    cases q : s.get i with
    | none => rw [q] at e1; cases e1
    | some o =>
      rw [q] at e1
      cases o with
      | ins c fs => cases e1
      | lst us =>
        obtain ⟨vs, hv, l⟩ := r.ob i _ q
        refine .inl ⟨_, SqL.of hv, ?_⟩
        rw [← Option.some.inj (show some _ = some k from e1)]
        cases l <;> rfl
  | _ => cases e
/-- an expression of any kind as a test, by its truth -/
theorem tx_of (hK : B.K = X.K) (ha : PEv X B Z C x a) (he : ∀ whole, isTrue x X.env whole = (do let v ← whole; standAt x.pos; holding [v] (truthy v))) (ht : ∀ e s, (sem C a).t e s = ((sem C a).e e s).bind fun w s1 => optR (truW s1 w) s1) : PTv X B Z C x a :=
  PT.weak (pt_truth ha he) fun σ H Q ⟨ρ, s, e, r, ed, h⟩ => by
    rw [ht] at h
    refine ⟨ρ, s, e, r, ed, (Res.bind h).mono ?_⟩
    rintro v1 H1 ⟨ρ1, s1, w1, x1, r1, d1, h1⟩
    cases q : truW s1 w1 with
    | none => rw [q] at h1; exact h1.elim
    | some k =>
      rw [q] at h1
      exact ⟨k, truV_of hK r1 d1 q, h1 ρ1 _ _ Ext.refl r1 rfl⟩
theorem rx_not (hK : B.K = X.K) (ha : PEv X B Z C x a) : PEv X B Z C (.UnaryOp .Not x pos) (.not_ a) :=
  PE.weak (pe_notT ha) fun σ H Q ⟨ρ, s, e, r, ed, h⟩ => by
    refine ⟨ρ, s, e, r, ed, (Res.bind h).mono ?_⟩
    rintro v1 H1 ⟨ρ1, s1, w1, x1, r1, d1, h1⟩
    cases q : truW s1 w1 with
    | none => rw [q] at h1; exact h1.elim
    | some k =>
      rw [q] at h1
      exact ⟨k, truV_of hK r1 d1 q, Res.here r1 h1 .bl⟩
theorem tx_not (ha : PTv X B Z C x a) : PTv X B Z C (.UnaryOp .Not x pos) (.not_ a) :=
  PT.weak (pt_not ha) fun σ H Q ⟨ρ, s, e, r, ed, h⟩ => by
    refine ⟨ρ, s, e, r, ed, (Res.bind h).mono ?_⟩
    rintro v1 H1 ⟨ρ1, s1, w1, x1, r1, d1, h1⟩
    subst d1
    exact h1 ρ1 _ _ Ext.refl r1 rfl
theorem rx_one {o : BoolOp} (ha : PEv X B Z C x a) : PEv X B Z C (.BoolOp o [x] pos) (.one a) := pe_one ha
theorem rx_and {rest : List Expr} (hK : B.K = X.K) (ha : PEv X B Z C x a) (hb : PEv X B Z C (.BoolOp .And (y :: rest) pos) b) : PEv X B Z C (.BoolOp .And (x :: y :: rest) pos) (.and_ a b) :=
  PE.weak (pe_andT ha hb) fun σ H Q ⟨ρ, s, e, r, ed, h⟩ => by
    refine ⟨ρ, s, e, r, ed, (Res.bind h).mono ?_⟩
    rintro v1 H1 ⟨ρ1, s1, w1, x1, r1, d1, h1⟩
    cases q : truW s1 w1 with
    | none => rw [q] at h1; exact h1.elim
    | some k =>
      rw [q] at h1
      refine ⟨k, truV_of hK r1 d1 q, ?_⟩
      cases k with
      | true => exact iteT ⟨ρ1, s1, e, r1, ed.ext x1, h1⟩
      | false => exact iteF (Res.here r1 h1 d1)
theorem rx_or {rest : List Expr} (hK : B.K = X.K) (ha : PEv X B Z C x a) (hb : PEv X B Z C (.BoolOp .Or (y :: rest) pos) b) : PEv X B Z C (.BoolOp .Or (x :: y :: rest) pos) (.or_ a b) :=
  PE.weak (pe_orT ha hb) fun σ H Q ⟨ρ, s, e, r, ed, h⟩ => by
    refine ⟨ρ, s, e, r, ed, (Res.bind h).mono ?_⟩
    rintro v1 H1 ⟨ρ1, s1, w1, x1, r1, d1, h1⟩
    cases q : truW s1 w1 with
    | none => rw [q] at h1; exact h1.elim
    | some k =>
      rw [q] at h1
      refine ⟨k, truV_of hK r1 d1 q, ?_⟩
      cases k with
      | false => exact iteF ⟨ρ1, s1, e, r1, ed.ext x1, h1⟩
      | true => exact iteT (Res.here r1 h1 d1)
theorem wx_one {o : BoolOp} (ha : PTv X B Z C x a) : PW X (.BoolOp o [x] pos) (rdT B Z (sem C (.one a)).t) := by
  cases o with
  | And => exact pw_and1 ha
  | Or => exact pw_or1 ha
theorem PW.weak {t t' : TT} (h : PW X x t) (k : ∀ σ H Q, t' σ H Q → t σ H Q) : PW X x t' := ⟨fun whole pins s σ H Q I w => h.run whole pins s σ H Q I (k σ H Q w)⟩
theorem wx_and {rest : List Expr} (ha : PTv X B Z C x a) (hb : PW X (.BoolOp .And (y :: rest) pos) (rdT B Z (sem C b).t)) : PW X (.BoolOp .And (x :: y :: rest) pos) (rdT B Z (sem C (.and_ a b)).t) :=
  PW.weak (pw_and ha hb) fun σ H Q ⟨ρ, s, e, r, ed, h⟩ => by
    refine ⟨ρ, s, e, r, ed, (Res.bind h).mono ?_⟩
    rintro v1 H1 ⟨ρ1, s1, w1, x1, r1, d1, h1⟩
    subst d1
    cases w1 with
    | true => exact iteT ⟨ρ1, s1, e, r1, ed.ext x1, h1⟩
    | false => exact iteF (h1 ρ1 _ _ Ext.refl r1 rfl)
theorem wx_or {rest : List Expr} (ha : PTv X B Z C x a) (hb : PW X (.BoolOp .Or (y :: rest) pos) (rdT B Z (sem C b).t)) : PW X (.BoolOp .Or (x :: y :: rest) pos) (rdT B Z (sem C (.or_ a b)).t) :=
  PW.weak (pw_or ha hb) fun σ H Q ⟨ρ, s, e, r, ed, h⟩ => by
    refine ⟨ρ, s, e, r, ed, (Res.bind h).mono ?_⟩
    rintro v1 H1 ⟨ρ1, s1, w1, x1, r1, d1, h1⟩
    subst d1
    cases w1 with
    | false => exact iteF ⟨ρ1, s1, e, r1, ed.ext x1, h1⟩
    | true => exact iteT (h1 ρ1 _ _ Ext.refl r1 rfl)
theorem rx_ite (ht : PTv X B Z C x a) (hb : PEv X B Z C y b) (hc : PEv X B Z C z c) : PEv X B Z C (.IfExp x y z pos) (.ite a b c) :=
  PE.weak (pe_ifExp ht hb hc) fun σ H Q ⟨ρ, s, e, r, ed, h⟩ => by
    refine ⟨ρ, s, e, r, ed, (Res.bind h).mono ?_⟩
    rintro v1 H1 ⟨ρ1, s1, w1, x1, r1, d1, h1⟩
    subst d1
    cases w1 with
    | true => exact iteT ⟨ρ1, s1, e, r1, ed.ext x1, h1⟩
    | false => exact iteF ⟨ρ1, s1, e, r1, ed.ext x1, h1⟩
theorem rx_neg (ha : PEv X B Z C x a) : PEv X B Z C (.UnaryOp .USub x pos) (.neg a) :=
  PE.weak (pe_un un_neg ha) fun σ H Q ⟨ρ, s, e, r, ed, h⟩ => by
    refine ⟨ρ, s, e, r, ed, (Res.bind h).mono ?_⟩
    rintro v1 H1 ⟨ρ1, s1, w1, x1, r1, d1, h1⟩
    cases d1 <;> first | exact h1.elim | skip
    exact ⟨_, rfl, Res.here r1 h1 .int⟩
theorem ax_nil : PAv X B Z C [] .nil := PA.weak pa_nil fun σ H Q ⟨ρ, s, e, r, ed, h⟩ => h ρ _ _ Ext.refl r .nil
theorem ax_cons {xs : List Expr} (ha : PEv X B Z C x a) (hb : PAv X B Z C xs b) (hs : starEach (x :: xs) X.env = (false, eval x X.env) :: starEach xs X.env) : PAv X B Z C (x :: xs) (.cons a b) :=
  PA.weak (pa_cons ha hb hs) fun σ H Q ⟨ρ, s, e, r, ed, h⟩ => by
    refine ⟨ρ, s, e, r, ed, (Res.bind h).mono ?_⟩
    rintro v1 H1 ⟨ρ1, s1, w1, x1, r1, d1, h1⟩
    refine ⟨ρ1, s1, e, r1, ed.ext x1, (Res.bind h1).mono ?_⟩
    rintro v2 H2 ⟨ρ2, s2, w2, x2, r2, d2, h2⟩
    exact h2 ρ2 _ _ Ext.refl r2 (.cons (d1.ext x2) d2)
theorem rx_tup {xs : List Expr} {k : Nat} (ha : PAv X B Z C xs a) : PEv X B Z C (.Tuple xs k pos) (.tup a) :=
  PE.weak (pe_tup ha) fun σ H Q ⟨ρ, s, e, r, ed, h⟩ => by
    refine ⟨ρ, s, e, r, ed, (Res.bind h).mono ?_⟩
    rintro v1 H1 ⟨ρ1, s1, w1, x1, r1, d1, h1⟩
    obtain ⟨hc, h1⟩ := ite_res h1
    rw [lim_eq, d1.length] at hc
    exact ⟨hc, Res.newT r1 h1 d1⟩
theorem rx_lst {xs : List Expr} (ha : PAv X B Z C xs a) : PEv X B Z C (.List xs pos) (.lst a) :=
  PE.weak (pe_lst ha) fun σ H Q ⟨ρ, s, e, r, ed, h⟩ => by
    refine ⟨ρ, s, e, r, ed, (Res.bind h).mono ?_⟩
    rintro v1 H1 ⟨ρ1, s1, w1, x1, r1, d1, h1⟩
    obtain ⟨hc, h1⟩ := ite_res h1
    rw [lim_eq, d1.length] at hc
    exact ⟨hc, Res.newL r1 h1 d1⟩
/-- a new list that may change -/
theorem Res.newM {ρ : Pl} {s : S} {H : Hp} {ws : List W} {vs : List V} {Q : VK} {Z : XK} (r : Rel B ρ s H) (h : Res B (DW B) ρ s.size H (.ok (.ref s.size) (s.new (.lst ws))) Q Z) (d : DenL B ρ s.size H ws vs) : ∀ p, H p = none → Q (.ref p) (upd H p (.lst vs)) := fun p hp => by
  have k : ∀ a o, H a = some o → upd H p (.lst vs) a = some o := fun a o q => by rw [upd_ne (ne_of_none q hp)]; exact q
  have x := Ext.bump (ρ := ρ) (n := s.size) hp k
  have h' : ∀ (ρ' : Pl) (H' : Hp) (v : V), Ext ρ s.size H ρ' (s.new (.lst ws)).size H' → Rel B ρ' (s.new (.lst ws)) H' → Den B ρ' (s.new (.lst ws)).size H' (.ref s.size) v → Q v H' := h
  rw [S.size_new] at h'
  have den : Den B (bump ρ s.size p) (s.size + 1) (upd H p (.lst vs)) (.ref s.size) (.ref (bump ρ s.size p s.size)) := .ref (Nat.lt_succ_self _)
  rw [bump_new] at den
  exact h' _ _ _ x (r.bump hp k ⟨vs, upd_same, d.ext x⟩) den
theorem rx_mls {xs : List Expr} (ha : PAv X B Z C xs a) : PEv X B Z C (.List xs pos) (.mls a) :=
  PE.weak (pe_lst ha) fun σ H Q ⟨ρ, s, e, r, ed, h⟩ => by
    refine ⟨ρ, s, e, r, ed, (Res.bind h).mono ?_⟩
    rintro v1 H1 ⟨ρ1, s1, w1, x1, r1, d1, h1⟩
    obtain ⟨hc, h1⟩ := ite_res h1
    rw [lim_eq, d1.length] at hc
    exact ⟨hc, Res.newM r1 h1 d1⟩
end
end Ev

set_option Elab.async false
set_option linter.all false
set_option autoImplicit false
set_option maxRecDepth 100000
namespace Ev
open PySem PySem.Spec L2

/-! ### plain syntax -/
def unstarred : Expr → Bool
  | .Starred _ _ => false
  | _ => true
theorem star_plain {x : Expr} (h : unstarred x = true) (xs : List Expr) (env : PySem.Env) : starEach (x :: xs) env = (false, eval x env) :: starEach xs env := by
  cases x <;> first | rfl | exact nomatch h
theorem star_any {pos : Pos} {env : PySem.Env} : ∀ {xs : List Expr}, xs.all unstarred = true → (backTo pos (starEach xs env)).any (·.1) = false
  | [], _ => rfl
  | x :: xs, h => by
    rw [List.all_cons, Bool.and_eq_true] at h
    rw [star_plain h.1]
    show (false || (backTo pos (starEach xs env)).any (·.1)) = false
    rw [star_any h.2]
    rfl
theorem star_all {pos : Pos} {env : PySem.Env} : ∀ {xs : List Expr}, xs.all unstarred = true → (backTo pos (starEach xs env)).all (fun z => !z.1) = true
  | [], _ => rfl
  | x :: xs, h => by
    rw [List.all_cons, Bool.and_eq_true] at h
    rw [star_plain h.1]
    show (true && (backTo pos (starEach xs env)).all (fun z => !z.1)) = true
    rw [star_all h.2]
    rfl
/-- no call of a bare name without arguments -/
def baseOk : Expr → Bool
  | .Call _ [] [] _ => false
  | _ => true
theorem base_of {o : Expr} {name : Str} {env : PySem.Env} (h : baseOk o = true) : attributeBase o name env (eval o env) = eval o env := by
  unfold attributeBase
  split
  · exact nomatch h
  · rfl
theorem mcall_eq {o : Expr} {name : Str} {apos pos : Pos} {args : List Expr} {env : PySem.Env} (hb : attributeBase o name env (eval o env) = eval o env) (ha : args.all unstarred = true) (hn : decide (args.length < 30) = true) (hl : (apos.endLine == pos.line) = true) :
    eval (.Call (.Attribute o name apos) args [] pos) env = (do
      let ov ← eval o env
      standAt apos.atName
      let (f, first) ← holding [ov] (getMethod ov name (do return (← importBound o env).getD true))
      callWith pos f first (backTo pos (starEach args env)) (backToKw pos (keywordEach [] env))) := by
  have hf : methodCallForm (args.length + ([] : List Keyword).length) (backTo pos (starEach args env)) (backToKw pos (keywordEach [] env)) = true := by
    unfold methodCallForm
    rw [star_all ha]
    exact hn
  show (do
    let ov ← attributeBase o name env (eval o env)
    standAt apos.atName
    methodCall o name apos pos env ov (args.length + ([] : List Keyword).length) (backTo pos (starEach args env)) (backToKw pos (keywordEach [] env))) = _
  rw [hb]
  unfold methodCall methodCallPos calleeOf
  simp only [hf, hl, Bool.not_true, Bool.false_or, if_true]
  rfl

section
variable {X : Cx} {B : Tb} {Z : St → XK} {C : C} {a b c : E} {x y z : Expr} {pos : Pos}
/-- what a def promises: its term's result -/
def spF (B : Tb) (f : List W → S → R W) : Sp := fun vs H Q E => ∃ (ρ : Pl) (s : S) (ws : List W), Rel B ρ s H ∧ DenL B ρ s.size H ws vs ∧ Res B (DW B) ρ s.size H (f ws s) Q E
abbrev WZ (Z : St → XK) : WX := fun c d σ H => Z σ c d H
/-- a def that stands at f and does as its term says -/
structure Does (X : Cx) (B : Tb) (k : Nat) (f : Addr) (g : List W → S → R W) : Prop where
  ok : ∃ fd ps, FnOk X.prog X.w X.K X.mg X.base (L2.CX X.prog X.w) k f fd ps (spF B g) ∧ Binds X.K fd ps []
  kp : PySem.W.keepIn X.K (.ref f) = true
theorem rx_call {nm : Str} {g : Nat} {f : Addr} {k : Nat} {xs : List Expr} {p : Pos} (F : Does X B k f (C.call g)) (hr : Room k X.A) (hg : Gl X nm) (hd : (nm == ("__debug__" : Str)) = false) (hm : X.mg nm = some (.ref f)) (tk : Takes X (WZ Z))
    (ha : PAv X B Z C (x :: xs) a) (hs : (x :: xs).all unstarred = true) : PEv X B Z C (.Call (.Name nm p) (x :: xs) [] pos) (.call nm g a) := by
  obtain ⟨fd, ps, F1, F2⟩ := F.ok
  rw [List.all_cons, Bool.and_eq_true] at hs
  exact PE.weak (pe_callS F1 hr hg hm F.kp F2 (fun σ => passAt tk σ) ha hd (star_plain hs.1 _ _) (star_any hs.2)) fun σ H Q ⟨ρ, s, e, r, ed, h⟩ =>
    ⟨ρ, s, e, r, ed, (Res.bind h).mono fun v1 H1 ⟨ρ1, s1, w1, x1, r1, d1, h1⟩ => ⟨ρ1, s1, w1, r1, d1, h1⟩⟩
theorem rx_call0 {nm : Str} {g : Nat} {f : Addr} {k : Nat} {p : Pos} (F : Does X B k f (C.call g)) (hr : Room k X.A) (hg : Gl X nm) (hd : (nm == ("__debug__" : Str)) = false) (hm : X.mg nm = some (.ref f)) (tk : Takes X (WZ Z)) :
    PEv X B Z C (.Call (.Name nm p) [] [] pos) (.call nm g .nil) := by
  obtain ⟨fd, ps, F1, F2⟩ := F.ok
  refine ⟨fun pins st σ H Q I ⟨ρ, s, e, r, ed, h⟩ => ?_⟩
  refine wpAny_Call_Name_kw (ld_glob I hg hm ?_ hd)
  exact PySem.W.callWith_K0 I.kIn F.kp (run_fnS (us := []) F1 hr F2 (passAt tk σ) I .nil ⟨ρ, s, [], r, .nil, h⟩)

/-! ### instances -/
theorem FsD.lookup {ρ : Pl} {n : Nat} {H : Hp} (nd : B.fn.Nodup) : ∀ {fs : List (Nat × W)} {vfs : List (Str × V)} {f : Nat} {nm : Str}, FsD B ρ n H fs vfs → B.fn[f]? = some nm →
    (∀ w, fs.lookup f = some w → ∃ v, vfs.lookup nm = some v ∧ Den B ρ n H w v) ∧ (fs.lookup f = none → vfs.lookup nm = none)
  | _, _, f, nm, .nil, hf => ⟨fun w e => (nomatch e), fun _ => rfl⟩
  | _, _, f, nm, .cons (a := p) (b := q) h t, hf => by
    obtain ⟨g, w0⟩ := p
    obtain ⟨m, v0⟩ := q
    obtain ⟨h1, h2⟩ := h
    have ih := FsD.lookup nd t hf
    by_cases c : f = g
    · subst c
      have em : m = nm := Option.some.inj (h1.symm.trans hf)
      subst em
      simp only [List.lookup, beq_self_eq_true]
      exact ⟨fun w e => ⟨v0, rfl, Option.some.inj e ▸ h2⟩, fun e => nomatch e⟩
    · have cm : nm ≠ m := fun z => c (nodup_ix nd hf (z ▸ h1))
      have e1 : (f == g) = false := beq_eq_false_iff_ne.mpr c
      have e2 : (nm == m) = false := beq_eq_false_iff_ne.mpr cm
      simp only [List.lookup, e1, e2]
      exact ih
theorem FsD.none {ρ : Pl} {n : Nat} {H : Hp} : ∀ {fs : List (Nat × W)} {vfs : List (Str × V)} {m : Str}, FsD B ρ n H fs vfs → m ∉ B.fn → vfs.lookup m = none
  | _, _, _, .nil, _ => rfl
  | _, _, m, .cons (a := p) (b := q) h t, hm => by
    have e : (m == q.1) = false := beq_eq_false_iff_ne.mpr fun z => hm (z ▸ List.mem_of_getElem? h.1)
    simp only [List.lookup, e]
    exact FsD.none t hm
theorem FsD.put {ρ : Pl} {n : Nat} {H : Hp} (nd : B.fn.Nodup) {f : Nat} {nm : Str} {w : W} {v : V} (hf : B.fn[f]? = some nm) (d : Den B ρ n H w v) : ∀ {fs : List (Nat × W)} {vfs : List (Str × V)}, FsD B ρ n H fs vfs → FsD B ρ n H (putW f w fs) (putF nm v vfs)
  | _, _, .nil => .cons ⟨hf, d⟩ .nil
  | _, _, .cons (a := p) (b := q) h t => by
    obtain ⟨g, w0⟩ := p
    obtain ⟨m, v0⟩ := q
    obtain ⟨h1, h2⟩ := h
    by_cases c : g = f
    · subst c
      have em : m = nm := Option.some.inj (h1.symm.trans hf)
      subst em
      simp only [putW, putF, if_pos]
      exact .cons ⟨h1, d⟩ t
    · have cm : m ≠ nm := fun z => c (nodup_ix nd h1 (z ▸ hf))
      simp only [putW, putF, if_neg c, if_neg cm]
      exact .cons ⟨h1, h2⟩ (FsD.put nd hf d t)
theorem FsD.length {ρ : Pl} {n : Nat} {H : Hp} {fs : List (Nat × W)} {vfs : List (Str × V)} (h : FsD B ρ n H fs vfs) : fs.length = vfs.length := Paired.length h
/-- a class of the program's own: what it must be, and that no field's name is a class's attribute -/
structure Kls (X : Cx) (B : Tb) (c : Nat) : Prop where
  cl : Cls X.K (B.ca c)
  no : ∀ (f : Nat) (nm : Str), B.fn[f]? = some nm → NoAttr X.K (B.ca c) nm
/-- an exception's class of the program's own -/
structure Exk (X : Cx) (B : Tb) (c : Nat) : Prop where
  xf : XfC X.K (B.ca c)
  no : ∀ (f : Nat) (nm : Str), B.fn[f]? = some nm → PySem.W.findIn X.K (.ref (B.ca c)) nm = some none
theorem rx_attr {f : Nat} {nm : Str} (kls : ∀ c, (C.makes c).isSome = true → Kls X B c) (exs : ∀ c, (C.excf c).isSome = true → Exk X B c) (hf : B.fn[f]? = some nm) (ha : PEv X B Z C x a) (hb : baseOk x = true) : PEv X B Z C (.Attribute x nm pos) (.attr a f) := by
  refine ⟨fun pins st σ H Q I ⟨ρ, s, e, r, ed, h⟩ => ?_⟩
  refine attr_of (base_of hb) (thn (ha.run pins st σ H _ I ⟨ρ, s, e, r, ed, Res.bind h⟩) ?_)
  rintro u st1 ⟨v1, H1, I1, rv, ρ1, s1, w1, x1, r1, d1, h1⟩
  cases d1 with
  | ref hi =>
    rename_i i
    obtain rfl : u = Value.ref (ρ1 i) := rv
    have h2 : Res B (DW B) ρ1 s1.size H1 (match s1.get i with
      | some (.ins c fs) => if (C.makes c).isSome then optR (fs.lookup f) s1 else .fail
      | _ => .fail) Q (Z σ) := h1
    split at h2
    · rename_i c fs q
      obtain ⟨hc, h2⟩ := ite_res h2
      obtain ⟨dx, vfs, hv, fd⟩ := r1.ob i _ q
      cases ql : fs.lookup f with
      | none => rw [ql] at h2; exact h2.elim
      | some w =>
        rw [ql] at h2
        obtain ⟨v, l, d⟩ := (fd.lookup r1.nd hf).1 w ql
        exact getattr_ok I1 hv (kls c hc).cl ((kls c hc).no f nm hf) l fun u' st2 I2 ru => ⟨v, H1, I2, ru, Res.here r1 h2 d⟩
    · exact h2.elim
  | exn val e1 e2 e3 e4 =>
    rename_i c fs p d vfs
    obtain rfl : u = Value.ref p := rv
    obtain ⟨hc, h2⟩ := ite_res (show Res B (DW B) ρ1 s1.size H1 (if (C.excf c).isSome then optR (fs.lookup f) s1 else .fail) Q (Z σ) from h1)
    cases ql : fs.lookup f with
    | none => rw [ql] at h2; exact h2.elim
    | some w =>
      rw [ql] at h2
      obtain ⟨nm', g1, g2⟩ := e3 f w ql
      obtain rfl : nm = nm' := Option.some.inj (hf.symm.trans g1)
      have T := exs c hc
      obtain ⟨⟨oe, vs, b1, b2, b3, b4⟩, _⟩ := I1.hok p _ e1.1
      obtain ⟨mA, hns, hr⟩ := I1.hok d _ e2.1
      obtain ⟨od, ho, hl⟩ := lookIn_ns hns
      obtain ⟨u, hu, ru⟩ := RelO.some_of (v := val f) (o := mA nm) (g2 ▸ hr nm)
      have J : PySem.W.InstAt st1.heap p oe (B.ca c) (some od) := ⟨b1, b2, by unfold PySem.W.notCls; rw [b4] <;> rfl, by rw [b3]; exact ho⟩
      exact HandSPX.exc_get I1.kIn J T.xf.ga T.xf.gg T.xf.exC (PySem.W.findObj_own T.xf.hdC (T.no f nm hf) rfl (by rw [hl, hu])) (handed_of ru) ⟨val f, H1, I1.tok _, ru, Res.here r1 h2 (e4 f w ql)⟩
  | _ => exact h1.elim
end
end Ev

set_option Elab.async false
set_option linter.all false
set_option autoImplicit false
set_option maxRecDepth 100000
namespace Ev
open PySem PySem.Spec L2

section
variable {X : Cx} {B : Tb} {Z : St → XK} {C : C} {a b c : E} {x y z : Expr} {pos : Pos}
def notSlice : Expr → Bool
  | .Slice _ _ _ _ => false
  | _ => true
theorem plainIx_of {y : Expr} (h : notSlice y = true) : PlainIx y := fun o i => by
  cases y <;> first | rfl | exact nomatch h
def rSub (B : Tb) (Z : XK) : R2 := fun x y H Q => ∃ (ρ : Pl) (s : S) (w u : W), Rel B ρ s H ∧ Den B ρ s.size H w x ∧ Den B ρ s.size H u y ∧ Res B (DW B) ρ s.size H (subW s w u) Q Z
theorem ix_subW {Z : XK} (hK : B.K = X.K) : IxR X (rSub B Z) := by
  intro value slice pins st σ H x y v u Q I rx ry h hs
  obtain ⟨ρ, s, w, w', r, dx, dy, h⟩ := h
  cases w' <;> first | exact h.elim | skip
  rename_i j
  cases dy
  have h2 : Res B (DW B) ρ s.size H (match items s w with
    | some ws => if decide (-(2 ^ 62) < j) && decide (j < 2 ^ 62) then optR (L2.atI ws j) s else .fail
    | none => .fail) Q Z := h
  cases q : items s w with
  | none => rw [q] at h2; exact h2.elim
  | some ws =>
    rw [q] at h2
    obtain ⟨hc, h2⟩ := ite_res h2
    obtain ⟨p, vs, rfl, hq, l⟩ := items_den r dx q
    cases qa : L2.atI ws j with
    | none => rw [qa] at h2; exact h2.elim
    | some w1 =>
      rw [qa] at h2
      obtain ⟨v1, hv, d⟩ := l.atI qa
      rcases hq with hq | hq
      · exact ix_list value slice pins st σ H _ _ v u Q I rx ry ⟨p, vs, j, v1, rfl, rfl, hK ▸ hq, hv, Res.here r h2 d⟩ hs
      · exact ix_tup value slice pins st σ H _ _ v u Q I rx ry ⟨p, vs, j, v1, rfl, rfl, hK ▸ hq, hv, Res.here r h2 d⟩ hs
theorem rx_sub (hK : B.K = X.K) (ha : PEv X B Z C x a) (hb : PEv X B Z C y b) (hy : notSlice y = true) : PEv X B Z C (.Subscript x y pos) (.sub a b) := by
  refine ⟨fun pins st σ H Q I hh => ?_⟩
  refine (PE.weak (pe_ix (ix_subW (Z := Z σ) hK) ha hb (plainIx_of hy)) (t' := fun σ' H' Q' => σ' = σ ∧ rdE B Z (sem C (.sub a b)).e σ' H' Q') ?_).run pins st σ H Q I ⟨rfl, hh⟩
  rintro σ' H' Q' ⟨rfl, ρ, s, e, r, ed, h⟩
  refine ⟨ρ, s, e, r, ed, (Res.bind h).mono ?_⟩
  rintro v1 H1 ⟨ρ1, s1, w1, x1, r1, d1, h1⟩
  refine ⟨ρ1, s1, e, r1, ed.ext x1, (Res.bind h1).mono ?_⟩
  rintro v2 H2 ⟨ρ2, s2, w2, x2, r2, d2, h2⟩
  exact ⟨ρ2, s2, w1, w2, r2, d1.ext x2, d2, h2⟩
/-! ### slices -/
abbrev DO : Pl → Nat → Hp → Option Int → Option Int → Prop := fun _ _ _ a b => a = b
def rdP (B : Tb) (Z : St → XK) (f : Env → S → R (Option Int)) : TO := fun σ H Q => ∃ (ρ : Pl) (s : S) (e : Env), Rel B ρ s H ∧ EnvD B ρ s.size H e σ ∧ Res B DO ρ s.size H (f e s) Q (Z σ)
theorem PO.weak {o : Option Expr} {t t' : TO} (h : PO X o t) (k : ∀ σ H Q, t' σ H Q → t σ H Q) : PO X o t' := ⟨fun pins s σ H Q I w => h.run pins s σ H Q I (k σ H Q w)⟩
theorem ox_nil : PO X none (rdP B Z (sem C .nil).p) := PO.weak po_none fun σ H Q ⟨ρ, s, e, r, ed, h⟩ => h ρ _ _ Ext.refl r rfl
theorem ox_some (ha : PEv X B Z C x a) (hp : ∀ e s, (sem C a).p e s = ((sem C a).e e s).bind fun w s1 => partW w s1) : PO X (some x) (rdP B Z (sem C a).p) := PO.weak (po_some ha) fun σ H Q ⟨ρ, s, e, r, ed, h⟩ => by
  rw [hp] at h
  refine ⟨ρ, s, e, r, ed, (Res.bind h).mono ?_⟩
  rintro v1 H1 ⟨ρ1, s1, w1, x1, r1, d1, h1⟩
  cases d1 <;> first | exact h1.elim | skip
  exact ⟨_, rfl, h1 ρ1 _ _ Ext.refl r1 rfl⟩
def rSlc (B : Tb) (Z : XK) : V → Option Int → Option Int → Hp → VK → Prop := fun x l h H Q => ∃ (ρ : Pl) (s : S) (w : W), Rel B ρ s H ∧ Den B ρ s.size H w x ∧ Res B (DW B) ρ s.size H (sliceW s w l h) Q Z
theorem cut_den {ρ : Pl} {n : Nat} {H : Hp} {ws : List W} {vs : List V} (d : DenL B ρ n H ws vs) (l h : Option Int) : DenL B ρ n H (cutW ws l h) (cutV vs l h) := by
  unfold cutW cutV
  rw [d.length]
  exact (d.drop _).take _
theorem sl_sliceW {Z : XK} (hK : B.K = X.K) : SlR X (rSlc B Z) := by
  intro pins st σ H x v vl vu lo hi sl Q I rx hs pl pu h
  obtain ⟨ρ, s, w, r, dx, h⟩ := h
  cases dx with
  | lst hh l => exact sl_list pins st σ H _ v vl vu lo hi sl Q I rx hs pl pu ⟨_, _, rfl, SqL.of hh.1, Res.newL r h (cut_den l lo hi)⟩
  | frl hh l => exact sl_list pins st σ H _ v vl vu lo hi sl Q I rx hs pl pu ⟨_, _, rfl, hK ▸ frl_sq hh, Res.newL r h (cut_den l lo hi)⟩
  | tup hh l =>
    rename_i ws vs p
    have hT : SqT X.K H p vs := hK ▸ (show SqT B.K H p vs from hh.elim (fun z => SqT.of z.1) (fun z => .inr z))
    refine sl_tupA pins st σ H _ v vl vu lo hi sl Q I rx hs pl pu ⟨p, vs, rfl, hT, fun e => ?_, fun _ => Res.newT r h (cut_den l lo hi)⟩
    have e2 : cutW ws lo hi = ws := by
      unfold cutW
      rw [← l.length] at e
      rw [e.1, e.2]
      simp
    have h3 : Res B (DW B) ρ s.size H (.ok (.tup (cutW ws lo hi)) s) Q Z := h
    rw [e2] at h3
    exact Res.here r h3 (.tup hh l)
  | _ => exact h.elim
theorem rx_slice {lo hi : Option Expr} {p2 : Pos} (hK : B.K = X.K) (ha : PEv X B Z C x a) (hl : PO X lo (rdP B Z (sem C b).p)) (hh : PO X hi (rdP B Z (sem C c).p)) : PEv X B Z C (.Subscript x (.Slice lo hi none p2) pos) (.slice a b c) := by
  refine ⟨fun pins st σ H Q I h0 => ?_⟩
  refine (PE.weak (pe_slice (sl_sliceW (Z := Z σ) hK) ha hl hh) (t' := fun σ' H' Q' => σ' = σ ∧ rdE B Z (sem C (.slice a b c)).e σ' H' Q') ?_).run pins st σ H Q I ⟨rfl, h0⟩
  rintro σ' H' Q' ⟨rfl, ρ, s, e, r, ed, h⟩
  refine ⟨ρ, s, e, r, ed, (Res.bind h).mono ?_⟩
  rintro v1 H1 ⟨ρ1, s1, w1, x1, r1, d1, h1⟩
  refine ⟨ρ1, s1, e, r1, ed.ext x1, (Res.bind h1).mono ?_⟩
  rintro v2 H2 ⟨ρ2, s2, w2, x2, r2, d2, h2⟩
  subst d2
  refine ⟨ρ2, s2, e, r2, (ed.ext x1).ext x2, (Res.bind h2).mono ?_⟩
  rintro v3 H3 ⟨ρ3, s3, w3, x3, r3, d3, h3⟩
  subst d3
  exact ⟨ρ3, s3, w1, r3, (d1.ext x2).ext x3, h3⟩
/-! ### methods and making -/
theorem rx_meth {m : Str} {xs : List Expr} {apos : Pos} (kls : ∀ c, (C.makes c).isSome = true → Kls X B c)
    (ms : ∀ c g, (C.makes c).isSome = true → C.meth c m = some g → ∃ (f : Addr) (k : Nat), Meth X.K (B.ca c) m f ∧ Room k X.A ∧ Does X B k f (C.call g)) (hm : m ∉ B.fn) (tk : Takes X (WZ Z)) (ho : PEv X B Z C x a) (hb : baseOk x = true)
    (ha : PAv X B Z C xs b) (hs : xs.all unstarred = true) (hn : decide (xs.length < 30) = true) (hl : (apos.endLine == pos.line) = true) (hx : xs = [] → b = .nil) : PEv X B Z C (.Call (.Attribute x m apos) xs [] pos) (.meth a m b) := by
  refine ⟨fun pins st σ H Q I ⟨ρ, s, e, r, ed, h⟩ => ?_⟩
  refine PySem.W.methodCall_KW (thn (ho.run pins st σ H _ I ⟨ρ, s, e, r, ed, Res.bind h⟩) ?_) (mcall_eq (base_of hb) hs hn hl)
  rintro u st1 ⟨v1, H1, I1, rv, ρ1, s1, w1, x1, r1, d1, h1⟩
  have h2 : Res B (DW B) ρ1 s1.size H1 (match methOf C w1 m s1 with
    | some g => ((sem C b).a e s1).bind fun ws s2 => C.call g (w1 :: ws) s2
    | none => .fail) Q (Z σ) := h1
  cases qm : methOf C w1 m s1 with
  | none => rw [qm] at h2; exact h2.elim
  | some g =>
    rw [qm] at h2
    cases w1 <;> first | (exact nomatch (show (none : Option Nat) = some g from qm)) | skip
    rename_i i
    cases d1 with
    | ref hi =>
      obtain rfl : u = Value.ref (ρ1 i) := rv
      have qm' : (match s1.get i with
        | some (.ins c _) => if (C.makes c).isSome then C.meth c m else none
        | _ => none) = some g := qm
      split at qm'
      · rename_i cc fs q
        by_cases hc : (C.makes cc).isSome = true
        · rw [if_pos hc] at qm'
          obtain ⟨dx, vfs, hv, fd⟩ := r1.ob i _ q
          obtain ⟨f, k, M, hr, fdd, ps, F1, F2⟩ : ∃ (f : Addr) (k : Nat), Meth X.K (B.ca cc) m f ∧ Room k X.A ∧ ∃ fd ps, FnOk X.prog X.w X.K X.mg X.base (L2.CX X.prog X.w) k f fd ps (spF B (C.call g)) ∧ Binds X.K fd ps [] := by
            obtain ⟨f, k, M, hr, F⟩ := ms cc g hc qm'
            exact ⟨f, k, M, hr, F.ok⟩
          refine getmeth_ok I1 hv (kls cc hc).cl M (fd.none hm) ?_
          have fin : ∀ (us : List Value) (st2 : Shared) (vs : List V) (H2 : Hp), Inv X pins σ H2 st2 → Vals vs us → (∃ (ρ2 : Pl) (s2 : S) (ws : List W), Ext ρ1 s1.size H1 ρ2 s2.size H2 ∧ Rel B ρ2 s2 H2 ∧ DenL B ρ2 s2.size H2 ws vs ∧ Res B (DW B) ρ2 s2.size H2 (C.call g (.ref i :: ws) s2) Q (Z σ)) →
              wpAny (model X.prog X.w) X.A (call (.ref f) (.ref (ρ1 i) :: us)) (EP X pins σ Q) X.xe st2 := fun us st2 vs H2 I2 rr ⟨ρ2, s2, ws, x2, r2, d2, h3⟩ =>
            run_fnS (us := .ref (ρ1 i) :: us) (vs := .ref (ρ1 i) :: vs) F1 hr F2 (passAt tk σ) I2 (.cons rfl rr) ⟨ρ2, s2, _, r2, .cons (Den.ext x2 (.ref hi)) d2, h3⟩
          cases xs with
          | nil =>
            obtain rfl := hx rfl
            exact PySem.W.callWith_K0 (first := [.ref (ρ1 i)]) I1.kIn M.kp (fin [] st1 [] H1 I1 .nil ⟨ρ1, s1, [], Ext.refl, r1, .nil, h2⟩)
          | cons x0 xs0 =>
            rw [List.all_cons, Bool.and_eq_true] at hs
            refine PySem.W.callWith_K (first := [.ref (ρ1 i)]) (h₀ := X.base) I.ok.mod.kin M.kp (thn (ha.run pos pins st1 σ H1 _ I1 ⟨ρ1, s1, e, r1, ed.ext x1, Res.bind h2⟩) ?_) (star_plain hs.1 _ _) (star_any hs.2)
            rintro us st2 ⟨vs, H2, I2, rr, ρ2, s2, ws, x2, r2, d2, h3⟩
            exact ⟨I2.kIn, fin us st2 vs H2 I2 rr ⟨ρ2, s2, ws, x2, r2, d2, h3⟩⟩
        · rw [if_neg hc] at qm'; cases qm'
      · cases qm'
end
end Ev

set_option Elab.async false
set_option linter.all false
set_option autoImplicit false
set_option maxRecDepth 100000
namespace Ev
open PySem PySem.Spec L2

section
variable {X : Cx} {B : Tb} {Z : St → XK} {C : C} {a b c : E} {x y z : Expr} {pos : Pos}
theorem run_mk {pins : List (Addr × Obj)} {σ : St} {H : Hp} {st : Shared} {Q : VK} {us : List Value} {vs : List V} {sp : Sp} {K0 f : Addr} {fd : FuncData} {ps : List Str} {k : Nat} {E : XK} (M : Mk X.K K0 f) (F : FnOk X.prog X.w X.K X.mg X.base (L2.CX X.prog X.w) k f fd ps sp)
    (hr : Room (k + 1) X.A) (hb : Binds X.K fd ps []) (hx : PassesAt (L2.CX X.prog X.w) X σ E) (I : Inv X pins σ H st) (r : Vals vs us)
    (h : ∀ q dx, H q = none → H dx = none → dx ≠ q → sp (.ref q :: vs) (upd (upd H dx (.own q)) q (.ins K0 dx [])) (fun v H2 => v = .non ∧ Q (.ref q) H2) E) : wpAny (model X.prog X.w) X.A (call (.ref K0) us) (EP X pins σ Q) X.xe st := by
  have big : H (st.heap.objs.size + 1) = none := I.hok.fresh (Nat.le_succ _)
  have low : H st.heap.objs.size = none := I.hok.fresh (Nat.le_refl _)
  have promise := h (st.heap.objs.size + 1) st.heap.objs.size big low (Nat.ne_of_lt (Nat.lt_succ_self _))
  have J := Inv.made (C := K0) I
  have rs : Vals (V.ref (st.heap.objs.size + 1) :: vs) (Value.ref (st.heap.objs.size + 1) :: us) := .cons rfl r
  have cnt : (Value.ref (st.heap.objs.size + 1) :: us).length = ps.length := by
    rw [← rs.length]
    exact F.len _ _ _ _ promise
  have bnd := hb _ (Value.ref (st.heap.objs.size + 1) :: us) J.kIn (by rw [List.append_nil]; exact cnt)
  rw [List.append_nil] at bnd
  refine wpAny_call (make_map (f := f) I.kIn M.makes M.init (beq_iff_eq.mp M.fn) (codeAny_mono (F.run _ X.stack _ _ ⟨_, []⟩ _ _ _ E (hr.make K0 us []) (J.env0.make K0 us []) bnd rs promise) ?_))
  intro res s' hres
  match res, hres with
  | .error e, hres => exact hx pins _ _ e s' J hres
  | .ok (.ret u), hres =>
    obtain ⟨v, H', I3, rv, ev, hQ⟩ := J.after hres
    subst ev
    exact ⟨rv, ⟨V.ref (st.heap.objs.size + 1), H', I3, rfl, hQ⟩⟩
theorem mk_post {ρ : Pl} {s : S} {H : Hp} {cc g : Nat} {ws : List W} {vs : List V} {Q : VK} {Zc : XK} (hg : C.makes cc = some g) (r : Rel B ρ s H) (d : DenL B ρ s.size H ws vs) (h : Res B (DW B) ρ s.size H (mkW C cc ws s) Q Zc) :
    ∀ q dx, H q = none → H dx = none → dx ≠ q → spF B (C.init g) (.ref q :: vs) (upd (upd H dx (.own q)) q (.ins (B.ca cc) dx [])) (fun v H2 => v = .non ∧ Q (.ref q) H2) Zc := fun q dx hq hdx hne => by
  have k : ∀ a o, H a = some o → upd (upd H dx (.own q)) q (.ins (B.ca cc) dx []) a = some o := fun a o e => by
    rw [upd_ne (ne_of_none e hq), upd_ne (ne_of_none e hdx)]; exact e
  have xt := Ext.bump (ρ := ρ) (n := s.size) hq k
  have r2 : Rel B (bump ρ s.size q) (s.new (.ins cc [])) (upd (upd H dx (.own q)) q (.ins (B.ca cc) dx [])) := r.bump hq k ⟨dx, [], upd_same, .nil⟩
  have den : Den B (bump ρ s.size q) (s.size + 1) (upd (upd H dx (.own q)) q (.ins (B.ca cc) dx [])) (.ref s.size) (.ref (bump ρ s.size q s.size)) := .ref (Nat.lt_succ_self _)
  rw [bump_new] at den
  unfold mkW at h
  rw [hg] at h
  refine ⟨bump ρ s.size q, s.new (.ins cc []), .ref s.size :: ws, r2, ?_, ?_⟩
  · rw [S.size_new]
    exact .cons den (d.ext xt)
  · have xt2 : Ext ρ s.size H (bump ρ s.size q) (s.new (.ins cc [])).size (upd (upd H dx (.own q)) q (.ins (B.ca cc) dx [])) := by rw [S.size_new]; exact xt
    refine (Res.bind (Res.from xt2 h)).mono ?_
    rintro v2 H2 ⟨ρ2, s2, w2, x2, rr2, d2, h2⟩
    cases w2 <;> first | exact h2.elim | skip
    cases d2
    refine ⟨rfl, ?_⟩
    have h3 : ∀ (ρ' : Pl) (H' : Hp) (v : V), Ext ρ2 s2.size H2 ρ' s2.size H' → Rel B ρ' s2 H' → Den B ρ' s2.size H' (.ref s.size) v → Q v H' := h2
    have dd : Den B ρ2 s2.size H2 (.ref s.size) (.ref q) := by
      have z : Den B (bump ρ s.size q) (s.new (.ins cc [])).size (upd (upd H dx (.own q)) q (.ins (B.ca cc) dx [])) (.ref s.size) (.ref q) := by rw [S.size_new]; exact den
      exact z.ext x2
    exact h3 ρ2 H2 _ Ext.refl rr2 dd
theorem rx_mk {nm : Str} {cc : Nat} {xs : List Expr} {p : Pos} (ms : ∃ (g : Nat) (f : Addr) (k : Nat), C.makes cc = some g ∧ Mk X.K (B.ca cc) f ∧ Room (k + 1) X.A ∧ Does X B k f (C.init g)) (hg : Gl X nm) (hd : (nm == ("__debug__" : Str)) = false) (hm : X.mg nm = some (.ref (B.ca cc))) (tk : Takes X (WZ Z))
    (ha : PAv X B Z C xs a) (hs : xs.all unstarred = true) (hx : xs = [] → a = .nil) : PEv X B Z C (.Call (.Name nm p) xs [] pos) (.mk nm cc a) := by
  refine ⟨fun pins st σ H Q I ⟨ρ, s, e, r, ed, h⟩ => ?_⟩
  refine wpAny_Call_Name_kw (ld_glob I hg hm ?_ hd)
  obtain ⟨g, f, k, qg, M, hr, F⟩ := ms
  obtain ⟨fd, ps, F1, F2⟩ := F.ok
  cases xs with
  | nil =>
    obtain rfl := hx rfl
    exact PySem.W.callWith_K0 I.kIn M.kp (run_mk (us := []) M F1 hr F2 (passAt tk σ) I .nil (mk_post qg r .nil h))
  | cons x0 xs0 =>
    rw [List.all_cons, Bool.and_eq_true] at hs
    refine PySem.W.callWith_K (h₀ := X.base) I.ok.mod.kin M.kp (thn (ha.run pos pins st σ H _ I ⟨ρ, s, e, r, ed, Res.bind h⟩) ?_) (star_plain hs.1 _ _) (star_any hs.2)
    rintro us st2 ⟨vs, H2, I2, rr, ρ2, s2, ws, x2, r2, d2, h3⟩
    exact ⟨I2.kIn, run_mk M F1 hr F2 (passAt tk σ) I2 rr (mk_post qg r2 d2 h3)⟩
end
end Ev

set_option Elab.async false
set_option linter.all false
set_option autoImplicit false
set_option maxRecDepth 100000
namespace Ev
open PySem PySem.Spec L2

def bAll : List String := ["NoneType", "bool", "int", "str", "tuple", "list", "dict"]
theorem kitB_all : ∀ a ∈ bAll, ∀ n ∈ bTys, kitB a n = some (subB a n) := by decide +kernel
theorem boot_tys : ∀ n ∈ bTys, bootBuiltins (Str.ofString n) = some (.type n) := by decide +kernel
section
variable {X : Cx} {B : Tb} {Z : St → XK} {C : C} {a b c : E} {x y z : Expr} {pos : Pos}
/-- what the written part must say of classes for isinstance -/
structure Isa (X : Cx) (B : Tb) (C : Ev.C) : Prop where
  bc : ∀ a d, a ∈ bAll → C.own d = true → PySem.W.kitOne X.K (.type a) (.ref (B.ca d)) = some false
  cb : ∀ c n, (C.makes c).isSome = true → n ∈ bTys → PySem.W.kitOne X.K (.ref (B.ca c)) (.type n) = some false
  cc : ∀ c d r, (C.makes c).isSome = true → C.insub c d = some r → PySem.W.kitOne X.K (.ref (B.ca c)) (.ref (B.ca d)) = some r
  xc : ∀ c d r, (C.excf c).isSome = true → C.sub c d = some r → PySem.W.kitOne X.K (.ref (B.ca c)) (.ref (B.ca d)) = some r
  hn : PySem.W.specialIn X.K (.builtin "object.__class__") "__get__" = some (some (.builtin "getset_descriptor.__get__"))
  ht : PySem.W.takesIn X.K (.builtin "object.__class__") = some true
  own : ∀ c, (C.makes c).isSome = true → Cls X.K (B.ca c) ∧ PySem.W.findIn X.K (.ref (B.ca c)) "__class__" = some (some (.builtin "object.__class__")) ∧ PySem.W.mroIn X.K (B.ca c) (.type "object") = some true
  exc : ∀ c, (C.excf c).isSome = true → XfC X.K (B.ca c) ∧ PySem.W.findIn X.K (.ref (B.ca c)) "__class__" = some (some (.builtin "object.__class__")) ∧ PySem.W.mroIn X.K (B.ca c) (.type "object") = some true ∧ (PySem.W.clsIn X.K (B.ca c)).isSome = true
def tvV (B : Tb) : Tv → Value
  | .b n => .type n
  | .k c => .ref (B.ca c)
  | .x c => .ref (B.ca c)
def tyVal (B : Tb) : Ty → Value
  | .b n => .type n
  | .c _ d => .ref (B.ca d)
def tyV' (B : Tb) : Ty → V
  | .b n => .ty n
  | .c _ d => .ref (B.ca d)
def TvOk (C : Ev.C) : Tv → Prop
  | .b n => n ∈ bAll
  | .k c => (C.makes c).isSome = true
  | .x c => (C.excf c).isSome = true
theorem tyW_b {s : S} {w : W} {n : String} (h : tyW s w = some (.b n)) : n ∈ bAll := by
  have key : ∀ {m : String}, m ∈ bAll → some (Tv.b m) = some (Tv.b n) → n ∈ bAll := fun hm e => by
    cases Option.some.inj e
    exact hm
  cases w with
  | non => exact key (m := "NoneType") (by decide) h
  | bl b => exact key (m := "bool") (by decide) h
  | int b => exact key (m := "int") (by decide) h
  | str b => exact key (m := "str") (by decide) h
  | tup b => exact key (m := "tuple") (by decide) h
  | lst b => exact key (m := "list") (by decide) h
  | dct => exact key (m := "dict") (by decide) h
  | ref i =>
    have h' : (match s.get i with
      | some (.lst _) => some (Tv.b "list")
      | some (.ins c _) => some (.k c)
      | none => none) = some (.b n) := h
    split at h'
    · exact key (m := "list") (by decide) h'
    · cases (Option.some.inj h')
    · cases h'
  | exn c fs => cases (Option.some.inj h)
  | _ => exact nomatch (show (none : Option Tv) = some (.b n) from h)
theorem kit_den {pins : List (Addr × Obj)} {σ : St} {H : Hp} {st : Shared} {ρ : Pl} {s : S} {w : W} {v : V} {u : Value} {t : Tv} (hK : B.K = X.K) (T : Isa X B C) (I : Inv X pins σ H st) (r : Rel B ρ s H) (d : Den B ρ s.size H w v) (rv : RelV v u) (e : tyW s w = some t) (ok : TvOk C t) :
    ∃ P : Heap → Prop, PySem.W.KitX X.K u (tvV B t) P ∧ P st.heap ∧ u ≠ .builtin "__main__.__loader__#opaque" := by
  cases d with
  | non => cases Option.some.inj e; exact kit_of I rv (.base .non)
  | bl => cases Option.some.inj e; exact kit_of I rv (.base (.bl _))
  | int => cases Option.some.inj e; exact kit_of I rv (.base (.int _))
  | str => cases Option.some.inj e; exact kit_of I rv (.base (.str _))
  | tup h l =>
    cases Option.some.inj e
    rcases h with h | ⟨o, its, n, h1, h2, _⟩
    · exact kit_of I rv (.base (.tup h.1))
    · exact kit_of I rv (.kTuple (hK ▸ h1) h2)
  | lst h l => cases Option.some.inj e; exact kit_of I rv (.base (.lst h.1))
  | dct h => cases Option.some.inj e; exact kit_of I rv (.base (.dK h.1))
  | ref hi =>
    rename_i i
    have e' : (match s.get i with
      | some (.lst _) => some (Tv.b "list")
      | some (.ins c _) => some (.k c)
      | none => none) = some t := e
    split at e'
    · rename_i ws q
      cases Option.some.inj e'
      obtain ⟨vs, hv, _⟩ := r.ob i _ q
      exact kit_of I rv (.base (.lst hv))
    · rename_i cc fs q
      cases Option.some.inj e'
      obtain ⟨dx, vfs, hv, _⟩ := r.ob i _ q
      obtain ⟨k1, k2, k3⟩ := T.own cc ok
      exact kit_of I rv (.base (.ins hv k1 k2 T.hn T.ht k3))
    · cases e'
  | exn val e1 e2 e3 e4 =>
    rename_i cc fs p dd vfs
    cases Option.some.inj e
    obtain rfl : u = Value.ref p := rv
    obtain ⟨k1, k2, k3, k4⟩ := T.exc cc ok
    obtain ⟨⟨oe, vs, b1, b2, b3, b4⟩, _⟩ := I.hok p _ e1.1
    obtain ⟨mA, hns, hr⟩ := I.hok dd _ e2.1
    obtain ⟨od, ho, hl⟩ := lookIn_ns hns
    have J : PySem.W.InstAt st.heap p oe (B.ca cc) (some od) := ⟨b1, b2, by unfold PySem.W.notCls; rw [b4] <;> rfl, by rw [b3]; exact ho⟩
    exact ⟨_, PySem.W.kitx_exc (od := some od) k4 k1.ga k1.gg k1.exC k2 T.hn T.ht k3, J, fun z => nomatch z⟩
  | _ => cases e
theorem isOne_kit {s : S} {w : W} {t : Ty} {r : Bool} (T : Isa X B C) (h : isOne C s w t = some r) : ∃ tv, tyW s w = some tv ∧ TvOk C tv ∧ PySem.W.kitOne X.K (tvV B tv) (tyVal B t) = some r := by
  cases t with
  | b n =>
    have h' : (if bTys.contains n then (match tyW s w with
      | some (.b a) => some (subB a n)
      | some (.k c) => if (C.makes c).isSome then some false else none
      | _ => none) else none) = some r := h
    split at h'
    · rename_i hn
      have hn' : n ∈ bTys := by simpa using hn
      split at h'
      · rename_i a q
        cases Option.some.inj h'
        exact ⟨_, q, tyW_b q, kit_ty (kitB_all a (tyW_b q) n hn')⟩
      · rename_i cc q
        split at h'
        · rename_i hc
          cases Option.some.inj h'
          exact ⟨_, q, hc, T.cb cc n hc hn'⟩
        · cases h'
      · cases h'
    · cases h'
  | c nm d =>
    have h' : (match tyW s w with
      | some (.b _) => if C.own d then some false else none
      | some (.k c) => if (C.makes c).isSome then C.insub c d else none
      | some (.x c) => if (C.excf c).isSome then C.sub c d else none
      | none => none) = some r := h
    split at h'
    · rename_i a q
      split at h'
      · rename_i hd
        cases Option.some.inj h'
        exact ⟨_, q, tyW_b q, T.bc a d (tyW_b q) hd⟩
      · cases h'
    · rename_i cc q
      split at h'
      · rename_i hc
        exact ⟨_, q, hc, T.cc cc d r hc h'⟩
      · cases h'
    · rename_i cc q
      split at h'
      · rename_i hc
        exact ⟨_, q, hc, T.xc cc d r hc h'⟩
      · cases h'
    · cases h'
theorem isMany_kit {s : S} {w : W} (T : Isa X B C) : ∀ {ts : List Ty} {r : Bool}, ts ≠ [] → isMany C s w ts = some r → ∃ tv, tyW s w = some tv ∧ TvOk C tv ∧ PySem.W.kitAny X.K (tvV B tv) (ts.map (tyVal B)) = some r
  | [], _, hne, _ => absurd rfl hne
  | t :: ts, r, _, h => by
    have h' : (match isOne C s w t with
      | some true => some true
      | some false => isMany C s w ts
      | none => none) = some r := h
    split at h'
    · rename_i q
      cases Option.some.inj h'
      obtain ⟨tv, h1, h2, h3⟩ := isOne_kit T q
      exact ⟨tv, h1, h2, kitAny_cons h3 (fun z => nomatch z) fun _ => rfl⟩
    · rename_i q
      obtain ⟨tv, h1, h2, h3⟩ := isOne_kit T q
      cases ts with
      | nil =>
        cases Option.some.inj h'
        exact ⟨tv, h1, h2, kitAny_cons h3 (fun _ => kitAny_nil) fun z => nomatch z⟩
      | cons t2 ts2 =>
        obtain ⟨tv', g1, g2, g3⟩ := isMany_kit T (List.cons_ne_nil t2 ts2) h'
        obtain rfl : tv = tv' := Option.some.inj (h1.symm.trans g1)
        exact ⟨tv, h1, h2, kitAny_cons h3 (fun _ => g3) fun z => nomatch z⟩
    · cases h'
/-- isinstance of a value and a class, of a value and a tuple of classes that was just laid -/
def rIs (B : Tb) (C : Ev.C) (ts : List Ty) : List V → Hp → VK → Prop := fun xs H Q => ∃ (ρ : Pl) (s : S) (w : W) (v : V) (r : Bool), Rel B ρ s H ∧ Den B ρ s.size H w v ∧ isMany C s w ts = some r ∧ ts ≠ [] ∧ Q (.bl r) H ∧
  ((∃ t, ts = [t] ∧ xs = [v, tyV' B t]) ∨ ∃ tp, xs = [v, .ref tp] ∧ H tp = some (.tup (ts.map (tyV' B))))
theorem tyV_paired (B : Tb) : ∀ ts : List Ty, Paired ClsV (ts.map (tyV' B)) (ts.map (tyVal B))
  | [] => .nil
  | .b n :: ts => .cons (.ty n) (tyV_paired B ts)
  | .c _ d :: ts => .cons (.own _) (tyV_paired B ts)
theorem tyV_cls (B : Tb) (t : Ty) : ClsV (tyV' B t) (tyVal B t) := by
  cases t with
  | b n => exact .ty n
  | c _ d => exact .own _
theorem call_is (hK : B.K = X.K) (T : Isa X B C) (ts : List Ty) : CallR X (.builtin "isinstance") (rIs B C ts) := by
  intro pins st σ H xs us Q I r h
  obtain ⟨ρ, s, w, v, b, rl, d, hm, hne, q, h⟩ := h
  obtain ⟨tv, h1, h2, h3⟩ := isMany_kit T hne hm
  rcases h with ⟨t, rfl, rfl⟩ | ⟨tp, rfl, hT⟩
  · obtain ⟨u1, u2, rfl, r1, r2⟩ := vals2 r
    have e2 := (tyV_cls B t).eq r2
    subst e2
    obtain ⟨P, Z, p, hx⟩ := kit_den hK T I rl d r1 h1 h2
    have h4 : PySem.W.kitOne X.K (tvV B tv) (tyVal B t) = some b := by
      have h3' : (match PySem.W.kitOne X.K (tvV B tv) (tyVal B t) with
        | some true => some true
        | some false => PySem.W.kitAny X.K (tvV B tv) []
        | none => none) = some b := h3
      split at h3'
      · rename_i q1; rw [q1]; exact h3'
      · rename_i q1; rw [q1]; exact h3'
      · cases h3'
    exact PySem.W.kia_one Z I.kIn p h4 hx fun tk => ⟨.bl b, H, I.tok tk, rfl, q⟩
  · obtain ⟨u1, u2, rfl, r1, r2⟩ := vals2 r
    cases (show u2 = Value.ref tp from r2)
    obtain ⟨P, Z, p, hx⟩ := kit_den hK T I rl d r1 h1 h2
    obtain ⟨_, its, rv, ⟨oc, od, dt, sl⟩, g1, g2, n, g3⟩ := I.hok tp _ hT
    have e3 := ClsV.all (tyV_paired B ts) rv
    subst e3
    dsimp only at g2 g3
    subst g2 g3
    exact PySem.W.kia_tup Z I.kIn p g1 h3 hx fun tk => ⟨.bl b, H, I.tok tk, rfl, q⟩
/-- names of classes -/
def tyName : Ty → Str
  | .b n => Str.ofString n
  | .c x _ => x
structure TyNm (X : Cx) (B : Tb) (t : Ty) : Prop where
  gl : Gl X (tyName t)
  nd : (tyName t == ("__debug__" : Str)) = false
  nn : tyName t ≠ "__name__"
  mg : match t with
    | .b n => X.mg (Str.ofString n) = none ∧ n ∈ bTys
    | .c x d => X.mg x = some (.ref (B.ca d))
theorem pe_ty {t : Ty} {p : Pos} (h : TyNm X B t) : PE X (.Name (tyName t) p) (tC (tyV' B t)) := by
  cases t with
  | b n => exact pe_bltn h.gl h.mg.1 (boot_tys n h.mg.2) rfl h.nn h.nd
  | c nm d => exact pe_glob h.gl h.mg rfl h.nd
def namesOf : List Ty → List Pos → List Expr
  | t :: ts, p :: ps => .Name (tyName t) p :: namesOf ts ps
  | _, _ => []
theorem pa_tys : ∀ {ts : List Ty} {ps : List Pos}, ts.length = ps.length → (∀ t ∈ ts, TyNm X B t) → PA X (namesOf ts ps) (fun σ H Q => Q (ts.map (tyV' B)) H)
  | [], [], _, _ => pa_nil
  | t :: ts, p :: ps, hl, h => PA.weak (pa_cons (pe_ty (h t (List.mem_cons_self ..))) (pa_tys (by simpa using hl) fun t' ht => h t' (List.mem_cons_of_mem _ ht)) rfl) fun σ H Q q => q
theorem rx_isin1 {t : Ty} {p p2 : Pos} (hK : B.K = X.K) (T : Isa X B C) (hg : Gl X "isinstance") (hm : X.mg "isinstance" = none) (ha : PEv X B Z C x a) (ht : TyNm X B t) (hs : unstarred x = true) : PEv X B Z C (.Call (.Name "isinstance" p) [x, .Name (tyName t) p2] [] pos) (.isin a [t] false) :=
  PE.weak (pe_callB (call_is hK T [t]) hg hm (by decide +kernel) (pa_cons ha (pa_cons (pe_ty ht) pa_nil rfl) (star_plain hs _ _)) (by decide) (by decide) (star_plain hs _ _) rfl) fun σ H Q ⟨ρ, s, e, r, ed, h⟩ => by
    refine ⟨ρ, s, e, r, ed, (Res.bind h).mono ?_⟩
    rintro v1 H1 ⟨ρ1, s1, w1, x1, r1, d1, h1⟩
    cases q : isMany C s1 w1 [t] with
    | none => rw [q] at h1; exact h1.elim
    | some k =>
      rw [q] at h1
      exact ⟨ρ1, s1, w1, v1, k, r1, d1, q, List.cons_ne_nil _ _, Res.here r1 h1 .bl, .inl ⟨t, rfl, rfl⟩⟩
theorem rx_isinN {ts : List Ty} {ps : List Pos} {p p2 : Pos} {kk : Nat} (hK : B.K = X.K) (T : Isa X B C) (hg : Gl X "isinstance") (hm : X.mg "isinstance" = none) (ha : PEv X B Z C x a) (hl : ts.length = ps.length) (hne : ts ≠ []) (hz : decide (ts.length ≤ 100) = true) (ht : ∀ t ∈ ts, TyNm X B t) (hs : unstarred x = true) :
    PEv X B Z C (.Call (.Name "isinstance" p) [x, .Tuple (namesOf ts ps) kk p2] [] pos) (.isin a ts true) :=
  PE.weak (pe_callB (call_is hK T ts) hg hm (by decide +kernel) (pa_cons ha (pa_cons (pe_tup (pa_tys hl ht)) pa_nil rfl) (star_plain hs _ _)) (by decide) (by decide) (star_plain hs _ _) rfl) fun σ H Q ⟨ρ, s, e, r, ed, h⟩ => by
    refine ⟨ρ, s, e, r, ed, (Res.bind h).mono ?_⟩
    rintro v1 H1 ⟨ρ1, s1, w1, x1, r1, d1, h1⟩
    have hz' : ts.length ≤ 100 := of_decide_eq_true hz
    refine ⟨by rw [List.length_map, sizeLine_eq]; omega, fun tp htp => ?_⟩
    cases q : isMany C s1 w1 ts with
    | none => rw [q] at h1; exact h1.elim
    | some k =>
      rw [q] at h1
      exact ⟨ρ1, s1, w1, v1, k, r1.laid htp, d1.ext (Ext.laid htp), q, hne, Res.here (r1.laid htp) (Res.from (Ext.laid htp) h1) .bl, .inr ⟨tp, rfl, upd_same⟩⟩
end
end Ev

set_option Elab.async false
set_option linter.all false
set_option autoImplicit false
set_option maxRecDepth 100000
namespace Ev
open PySem PySem.Spec L2

section
variable {X : Cx} {B : Tb} {Z : St → XK} {C : C} {a b c : E} {x y z : Expr} {pos : Pos}
def Bi.nm : Bi → Str
  | .len => "len" | .int => "int" | .bool => "bool" | .str => "str" | .abs => "abs" | .tuple => "tuple" | .list => "list" | .all => "all" | .any => "any" | .repr => "repr" | .sum => "sum"
def Bi.val : Bi → Value
  | .len => .builtin "len" | .int => .type "int" | .bool => .type "bool" | .str => .type "str" | .abs => .builtin "abs" | .tuple => .type "tuple" | .list => .type "list" | .all => .builtin "all" | .any => .builtin "any" | .repr => .builtin "repr" | .sum => .builtin "sum"
def rBi (B : Tb) (Z : XK) (b : Bi) : List V → Hp → VK → Prop := fun xs H Q => ∃ (ρ : Pl) (s : S) (ws : List W), Rel B ρ s H ∧ DenL B ρ s.size H ws xs ∧ Res B (DW B) ρ s.size H (biW s b ws) Q Z
theorem den1 {ρ : Pl} {n : Nat} {H : Hp} {w : W} {xs : List V} (d : DenL B ρ n H [w] xs) : ∃ v, xs = [v] ∧ Den B ρ n H w v := by
  cases d with
  | cons h t => cases t; exact ⟨_, rfl, h⟩
theorem boolsW_some {ws : List W} {bs : List Bool} (h : boolsW ws = some bs) : ws = bs.map .bl := by
  induction ws generalizing bs with
  | nil => cases Option.some.inj h; rfl
  | cons w ws ih =>
    cases w <;> first | (exact nomatch (show (none : Option (List Bool)) = some bs from h)) | skip
    rename_i k
    have h' : (boolsW ws).map (k :: ·) = some bs := h
    cases q : boolsW ws with
    | none => rw [q] at h'; cases h'
    | some r =>
      rw [q] at h'
      cases Option.some.inj h'
      rw [ih q]
      rfl
theorem strsW_some {ws : List W} {bs : List Str} (h : strsW ws = some bs) : ws = bs.map .str := by
  induction ws generalizing bs with
  | nil => cases Option.some.inj h; rfl
  | cons w ws ih =>
    cases w <;> first | (exact nomatch (show (none : Option (List Str)) = some bs from h)) | skip
    rename_i k
    have h' : (strsW ws).map (k :: ·) = some bs := h
    cases q : strsW ws with
    | none => rw [q] at h'; cases h'
    | some r =>
      rw [q] at h'
      cases Option.some.inj h'
      rw [ih q]
      rfl
theorem DenL.bls {ρ : Pl} {n : Nat} {H : Hp} : ∀ {bs : List Bool} {vs : List V}, DenL B ρ n H (bs.map .bl) vs → vs = bs.map V.bl
  | [], _, .nil => rfl
  | _ :: _, _, .cons h t => by
    cases h
    rw [DenL.bls t]
    rfl
theorem DenL.strs_inv {ρ : Pl} {n : Nat} {H : Hp} : ∀ {bs : List Str} {vs : List V}, DenL B ρ n H (bs.map .str) vs → vs = bs.map V.str
  | [], _, .nil => rfl
  | _ :: _, _, .cons h t => by
    cases h
    rw [DenL.strs_inv t]
    rfl
theorem call_bi {Z : XK} (hK : B.K = X.K) (hc : X.calm = true) (b : Bi) : CallR X b.val (rBi B Z b) := by
  intro pins st σ H xs us Q I r h
  obtain ⟨ρ, s, ws, rl, d, h⟩ := h
  match ws, d, h with
  | [], d, h => cases b <;> exact h.elim
  | _ :: _ :: _, d, h => cases b <;> exact h.elim
  | [w], d, h =>
    obtain ⟨v, rfl, dv⟩ := den1 d
    cases b with
    | str => exact h.elim
    | any => exact h.elim
    | repr => exact h.elim
    | sum => exact h.elim
    | len =>
      have h' : Res B (DW B) ρ s.size H (lenW s w) Q Z := h
      by_cases hs : ∃ z, w = .str z
      · obtain ⟨z, rfl⟩ := hs
        cases dv
        obtain ⟨hc, h'⟩ := ite_res (show Res B (DW B) ρ s.size H (if z.length ≤ lim then .ok (.int z.length) s else .fail) Q Z from h')
        exact call_len pins st σ H _ us Q I r ⟨_, _, rfl, ⟨lim_eq ▸ hc, rfl⟩, Res.here rl h' .int⟩
      · have h2 : Res B (DW B) ρ s.size H (match items s w with
          | some ws => .ok (.int ws.length) s
          | none => .fail) Q Z := by
          cases w <;> first | exact h' | exact absurd ⟨_, rfl⟩ hs
        cases q : items s w with
        | none => rw [q] at h2; exact h2.elim
        | some ws =>
          rw [q] at h2
          replace h2 : Res B (DW B) ρ s.size H (.ok (.int ws.length) s) Q Z := h2
          obtain ⟨p, vs, rfl, hq, l⟩ := items_den rl dv q
          rw [l.length] at h2
          refine call_len pins st σ H _ us Q I r ⟨_, _, rfl, ?_, Res.here rl h2 .int⟩
          rcases hq with hq | hq
          · exact .inl ⟨vs, hK ▸ hq, rfl⟩
          · exact .inr ⟨vs, hK ▸ hq, rfl⟩
    | int =>
      cases w <;> first | exact h.elim | skip
      · cases dv
        exact call_int1 pins st σ H _ us Q I r (.inr ⟨_, rfl, Res.here rl h .int⟩)
      · cases dv
        exact call_int1 pins st σ H _ us Q I r (.inl ⟨_, rfl, Res.here rl h .int⟩)
    | bool =>
      cases w <;> first | exact h.elim | skip
      cases dv
      exact call_bool1 pins st σ H _ us Q I r (.inr ⟨_, rfl, Res.here rl h .bl⟩)
    | abs =>
      cases w <;> first | exact h.elim | skip
      cases dv
      exact call_abs pins st σ H _ us Q I r ⟨_, rfl, Res.here rl h .int⟩
    | tuple =>
      have h2 : Res B (DW B) ρ s.size H (match items s w with
        | some ws => .ok (.tup ws) s
        | none => .fail) Q Z := h
      cases q : items s w with
      | none => rw [q] at h2; exact h2.elim
      | some ws =>
        rw [q] at h2
        by_cases ht : ∃ us, w = .tup us
        · obtain ⟨us', rfl⟩ := ht
          cases Option.some.inj (show some us' = some ws from q)
          cases dv with
          | tup hh l =>
            rename_i vs p dOld
            have hT : SqT X.K H p vs := hK ▸ (show SqT B.K H p vs from hh.elim (fun z => SqT.of z.1) (fun z => .inr z))
            exact call_tuple_of pins st σ H _ us Q I r ⟨p, vs, rfl, .inr ⟨hT, Res.here rl h2 (.tup hh l)⟩⟩
        · obtain ⟨p, vs, rfl, hq, l⟩ := itemsL_den rl dv q ht
          exact call_tuple_of pins st σ H _ us Q I r ⟨p, vs, rfl, .inl ⟨hK ▸ hq, Res.newT rl h2 l⟩⟩
    | list =>
      have h2 : Res B (DW B) ρ s.size H (match items s w with
        | some ws => .ok (.lst ws) s
        | none => .fail) Q Z := h
      cases q : items s w with
      | none => rw [q] at h2; exact h2.elim
      | some ws =>
        rw [q] at h2
        obtain ⟨p, vs, rfl, hq, l⟩ := items_den rl dv q
        exact call_list_of pins st σ H _ us Q I r ⟨p, vs, rfl, hK ▸ hq, Res.newL rl h2 l⟩
    | all =>
      cases w <;> first | exact h.elim | skip
      rename_i ws
      cases dv with
      | lst hh l =>
        have h2 : Res B (DW B) ρ s.size H (match boolsW ws with
          | some bs => .ok (.bl (bs.all id)) s
          | none => .fail) Q Z := h
        cases q : boolsW ws with
        | none => rw [q] at h2; exact h2.elim
        | some bs =>
          rw [q] at h2
          obtain rfl := boolsW_some q
          have e := l.bls
          subst e
          exact cr_all hc pins st σ H _ us Q I r ⟨_, bs, rfl, SqL.of hh.1, Res.here rl h2 .bl⟩
end
end Ev

set_option Elab.async false
set_option linter.all false
set_option autoImplicit false
set_option maxRecDepth 100000
namespace Ev
open PySem PySem.Spec L2

section
variable {X : Cx} {B : Tb} {Z : St → XK} {C : C} {a b c : E} {x y z : Expr} {pos : Pos}
theorem bi_post {σ : St} {H : Hp} {Q : VK} {bi : Bi} (h : rdE B Z (sem C (.bi bi a)).e σ H Q) : tCB (rBi B (Z σ) bi) (rdA B Z (sem C a).a) σ H Q := by
  obtain ⟨ρ, s, e, r, ed, h⟩ := h
  exact ⟨ρ, s, e, r, ed, (Res.bind h).mono fun v1 H1 ⟨ρ1, s1, w1, x1, r1, d1, h1⟩ => ⟨ρ1, s1, w1, r1, d1, h1⟩⟩
/-- built-in functions by name -/
theorem rx_bi {bi : Bi} {xs : List Expr} {p : Pos} (hK : B.K = X.K) (hc : X.calm = true) (hg : Gl X bi.nm) (hm : X.mg bi.nm = none) (ha : PAv X B Z C (x :: xs) a) (hs : (x :: xs).all unstarred = true) : PEv X B Z C (.Call (.Name bi.nm p) (x :: xs) [] pos) (.bi bi a) := by
  rw [List.all_cons, Bool.and_eq_true] at hs
  refine ⟨fun pins st σ H Q I hh => ?_⟩
  have k := bi_post hh
  have e1 := star_plain hs.1 xs X.env
  have e2 : (backTo pos (starEach xs X.env)).any (·.1) = false := star_any hs.2
  cases bi with
  | len => exact (pe_callB (call_bi (Z := Z σ) hK hc .len) hg hm (by decide +kernel) ha (by decide) (by decide) e1 e2).run pins st σ H Q I k
  | int => exact (pe_callTy (call_bi (Z := Z σ) hK hc .int) hg hm (by decide +kernel) ha (by decide) (by decide) e1 e2).run pins st σ H Q I k
  | bool => exact (pe_callTy (call_bi (Z := Z σ) hK hc .bool) hg hm (by decide +kernel) ha (by decide) (by decide) e1 e2).run pins st σ H Q I k
  | str => exact (pe_callTy (call_bi (Z := Z σ) hK hc .str) hg hm (by decide +kernel) ha (by decide) (by decide) e1 e2).run pins st σ H Q I k
  | abs => exact (pe_callB (call_bi (Z := Z σ) hK hc .abs) hg hm (by decide +kernel) ha (by decide) (by decide) e1 e2).run pins st σ H Q I k
  | tuple => exact (pe_callTy (call_bi (Z := Z σ) hK hc .tuple) hg hm (by decide +kernel) ha (by decide) (by decide) e1 e2).run pins st σ H Q I k
  | list => exact (pe_callTy (call_bi (Z := Z σ) hK hc .list) hg hm (by decide +kernel) ha (by decide) (by decide) e1 e2).run pins st σ H Q I k
  | all => exact (pe_callB (call_bi (Z := Z σ) hK hc .all) hg hm (by decide +kernel) ha (by decide) (by decide) e1 e2).run pins st σ H Q I k
  | any => exact (pe_callB (call_bi (Z := Z σ) hK hc .any) hg hm (by decide +kernel) ha (by decide) (by decide) e1 e2).run pins st σ H Q I k
  | repr => exact (pe_callB (call_bi (Z := Z σ) hK hc .repr) hg hm (by decide +kernel) ha (by decide) (by decide) e1 e2).run pins st σ H Q I k
  | sum => exact (pe_callB (call_bi (Z := Z σ) hK hc .sum) hg hm (by decide +kernel) ha (by decide) (by decide) e1 e2).run pins st σ H Q I k
/-! ### methods of texts and lists -/
theorem arg1 {α : Type} {f : List W → S → R α} {e : Env} {s : S} : ((sem C (.cons b .nil)).a e s).bind f = ((sem C b).e e s).bind fun w s1 => f [w] s1 := by
  show R.bind (R.bind ((sem C b).e e s) _) f = _
  cases (sem C b).e e s <;> rfl
theorem smOk_str {s : S} {m : Sm} {w : W} (hm : m ≠ .append) (hm2 : m ≠ .extend) (h : smOk s m w = true) : ∃ z, w = .str z := by
  cases w <;> cases m <;> first | exact ⟨_, rfl⟩ | exact absurd rfl hm | exact absurd rfl hm2 | exact nomatch (show false = true from h)
theorem rx_split {apos : Pos} (ho : PEv X B Z C x a) (hb : baseOk x = true) (he : PEv X B Z C y b) (hs : unstarred y = true) (hl : (apos.endLine == pos.line) = true) : PEv X B Z C (.Call (.Attribute x "split" apos) [y] [] pos) (.sm .split a (.cons b .nil)) :=
  PE.weak (pe_split ho he (star_plain hs _ _) (base_of hb) hl) fun σ H Q ⟨ρ, s, e, r, ed, h⟩ => by
    refine ⟨ρ, s, e, r, ed, (Res.bind h).mono ?_⟩
    rintro v1 H1 ⟨ρ1, s1, w1, x1, r1, d1, h1⟩
    obtain ⟨hok, h1⟩ := ite_res h1
    obtain ⟨t, rfl⟩ := smOk_str (by decide) (by decide) hok
    cases d1
    rw [arg1] at h1
    refine ⟨⟨t, rfl⟩, ρ1, s1, e, r1, ed.ext x1, (Res.bind h1).mono ?_⟩
    rintro v2 H2 ⟨ρ2, s2, w2, x2, r2, d2, h2⟩
    cases w2 <;> first | exact h2.elim | skip
    rename_i t2
    cases d2
    have h3 : Res B (DW B) ρ2 s2.size H2 (if t2.length = 0 ∨ lim < t.length + 2 then .fail else .ok (.lst ((Txt.split t t2).map .str)) s2) Q (Z σ) := h2
    by_cases hc : t2.length = 0 ∨ lim < t.length + 2
    · rw [if_pos hc] at h3; exact h3.elim
    · rw [if_neg hc] at h3
      have c1 : t2.length ≠ 0 := fun q => hc (.inl q)
      have c2 : t.length + 2 ≤ sizeLine := by rw [← lim_eq]; exact Nat.not_lt.mp fun q => hc (.inr q)
      exact ⟨t, t2, rfl, rfl, beq_eq_false_iff_ne.mpr c1, c2, Res.newL r2 h3 DenL.strs⟩
theorem rx_join {apos : Pos} (hK : B.K = X.K) (ho : PEv X B Z C x a) (hb : baseOk x = true) (he : PEv X B Z C y b) (hs : unstarred y = true) (hl : (apos.endLine == pos.line) = true) : PEv X B Z C (.Call (.Attribute x "join" apos) [y] [] pos) (.sm .join a (.cons b .nil)) :=
  PE.weak (pe_join ho he (star_plain hs _ _) (base_of hb) hl) fun σ H Q ⟨ρ, s, e, r, ed, h⟩ => by
    refine ⟨ρ, s, e, r, ed, (Res.bind h).mono ?_⟩
    rintro v1 H1 ⟨ρ1, s1, w1, x1, r1, d1, h1⟩
    obtain ⟨hok, h1⟩ := ite_res h1
    obtain ⟨t, rfl⟩ := smOk_str (by decide) (by decide) hok
    cases d1
    rw [arg1] at h1
    refine ⟨⟨t, rfl⟩, ρ1, s1, e, r1, ed.ext x1, (Res.bind h1).mono ?_⟩
    rintro v2 H2 ⟨ρ2, s2, w2, x2, r2, d2, h2⟩
    have h3 : Res B (DW B) ρ2 s2.size H2 (match items s2 w2 with
      | some ws => (match strsW ws with
        | some ys => if (ys.map (·.length)).sum + ys.length * t.length ≤ lim then .ok (.str (Txt.join t ys)) s2 else .fail
        | none => .fail)
      | none => .fail) Q (Z σ) := h2
    cases q : items s2 w2 with
    | none => rw [q] at h3; exact h3.elim
    | some ws =>
      rw [q] at h3
      replace h3 : Res B (DW B) ρ2 s2.size H2 (match strsW ws with
        | some ys => if (ys.map (·.length)).sum + ys.length * t.length ≤ lim then .ok (.str (Txt.join t ys)) s2 else .fail
        | none => .fail) Q (Z σ) := h3
      cases q2 : strsW ws with
      | none => rw [q2] at h3; exact h3.elim
      | some ys =>
        rw [q2] at h3
        obtain ⟨hc, h3⟩ := ite_res h3
        obtain rfl := strsW_some q2
        obtain ⟨p, vs, rfl, hq, l⟩ := items_den r2 d2 q
        have e2 := l.strs_inv
        subst e2
        exact ⟨t, p, ys, rfl, rfl, hK ▸ hq, hc, Res.here r2 h3 .str⟩
theorem smOk_ref {s : S} {w : W} (h : smOk s .append w = true) : ∃ i ws, w = .ref i ∧ s.get i = some (.lst ws) := by
  cases w <;> first | exact nomatch (show false = true from h) | skip
  rename_i i
  have h' : (match s.get i with
    | some (.lst _) => true
    | _ => false) = true := h
  split at h'
  · rename_i ws q
    exact ⟨i, ws, rfl, q⟩
  · cases h'
theorem rx_append {apos : Pos} (hK : B.K = X.K) (ho : PEv X B Z C x a) (hb : baseOk x = true) (he : PEv X B Z C y b) (hs : unstarred y = true) (hl : (apos.endLine == pos.line) = true) : PEv X B Z C (.Call (.Attribute x "append" apos) [y] [] pos) (.sm .append a (.cons b .nil)) := by
  have all1 : [y].all unstarred = true := by rw [List.all_cons, hs]; rfl
  have few : ((backTo pos (starEach [y] X.env)).all (fun z => !z.1) && (backToKw pos (keywordEach [] X.env)).all (fun z => z.1.isSome) && decide ([y].length + ([] : List Keyword).length + (if ([] : List Keyword).isEmpty then 0 else 1) < 30)) = true := by
    rw [star_all all1]
    rfl
  refine PE.weak (pe_bm PySem.F.plainAttrs_list PySem.F.slot_list_append PySem.F.type_list_append mt_append ho (pa_cons he pa_nil (star_plain hs _ _)) (base_of hb) few hl (star_plain hs _ _) (star_any (xs := []) rfl)) fun σ H Q ⟨ρ, s, e, r, ed, h⟩ => ?_
  refine ⟨ρ, s, e, r, ed, (Res.bind h).mono ?_⟩
  rintro v1 H1 ⟨ρ1, s1, w1, x1, r1, d1, h1⟩
  obtain ⟨hok, h1⟩ := ite_res h1
  obtain ⟨i, ws, rfl, qi⟩ := smOk_ref hok
  obtain ⟨vs, hv, l⟩ := r1.ob i _ qi
  have hi0 := Rel.lt qi
  cases d1
  rw [arg1] at h1
  refine ⟨.inl ⟨rfl, vs, hK ▸ SqL.of hv⟩, ρ1, s1, e, r1, ed.ext x1, (Res.bind h1).mono ?_⟩
  rintro v2 H2 ⟨ρ2, s2, w2, x2, r2, d2, h2⟩
  have h3 : Res B (DW B) ρ2 s2.size H2 (match s2.get i with
    | some (.lst ws) => if ws.length < lim then .ok .non (s2.set i (.lst (ws ++ [w2]))) else .fail
    | _ => .fail) Q (Z σ) := h2
  split at h3
  · rename_i us q
    obtain ⟨hc, h3⟩ := ite_res h3
    obtain ⟨zs, hz, lz⟩ := r2.ob i _ q
    have hi := Rel.lt q
    have eρ : ρ2 i = ρ1 i := x2.eq i hi0
    rw [eρ] at hz
    refine ⟨ρ1 i, zs, v2, rfl, rfl, hz, by rw [← lim_eq, ← lz.length]; exact hc, ?_⟩
    have xw := Ext.write (o := .lst (zs ++ [v2])) r2 hi
    have rw2 : Rel B ρ2 (s2.set i (.lst (us ++ [w2]))) (upd H2 (ρ2 i) (.lst (zs ++ [v2]))) := r2.write hi ⟨_, upd_same, (lz.ext xw).snoc (d2.ext xw)⟩
    have fin : ∀ (ρ' : Pl) (H' : Hp) (v : V), Ext ρ2 s2.size H2 ρ' (s2.set i (.lst (us ++ [w2]))).size H' → Rel B ρ' (s2.set i (.lst (us ++ [w2]))) H' → Den B ρ' (s2.set i (.lst (us ++ [w2]))).size H' .non v → Q v H' := h3
    rw [S.size_set] at fin
    rw [eρ] at xw rw2
    exact fin ρ2 _ .non xw rw2 .non
  · exact h3.elim
end
end Ev

set_option Elab.async false
set_option linter.all false
set_option autoImplicit false
set_option maxRecDepth 100000
namespace Ev
open PySem PySem.Spec L2

section
variable {X : Cx} {B : Tb} {Z : St → XK} {C : C} {a b c : E} {x y z : Expr} {pos : Pos}
/-! ### what is gone through -/
theorem src_tup {ρ : Pl} {n : Nat} {H : Hp} {ws : List W} {vs : List V} {p : Addr} (hK : B.K = X.K) (h : Fz ρ n H p (.tup vs) ∨ SqK B.K p vs) (l : DenL B ρ n H ws vs) : SrcOk B ρ n H (.its ws) (Itt X.K p) := fun ρ1 s1 H1 i x1 r1 => by
  have hT : SqT X.K H1 p vs := hK ▸ (show SqT B.K H1 p vs from h.elim (fun z => SqT.of (z.ext x1).1) (fun z => .inr z))
  have l1 := l.ext x1
  cases q : ws[i]? with
  | none =>
    have e : (Src.its ws).at s1 i = some none := congrArg some q
    rw [e]
    exact ⟨vs, hT, by rw [← l.length]; exact List.getElem?_eq_none_iff.mp q⟩
  | some w =>
    have e : (Src.its ws).at s1 i = some (some w) := congrArg some q
    rw [e]
    obtain ⟨v, hv, d⟩ := l1.get q
    refine ⟨⟨vs, v, hT, hv⟩, fun x H' hy => ?_⟩
    obtain ⟨rfl, hy⟩ := hy
    cases (Option.some.inj ((hy vs hT).symm.trans hv))
    exact ⟨Ext.refl, r1, d⟩
theorem src_lst {ρ : Pl} {n : Nat} {H : Hp} {ws : List W} {vs : List V} {p : Addr} (h : Fz ρ n H p (.lst vs) ∨ ∃ o, Fz ρ n H p (.frz o (.lst vs))) (l : DenL B ρ n H ws vs) : SrcOk B ρ n H (.its ws) (Itl X.K p) := fun ρ1 s1 H1 i x1 r1 => by
  have hT : SqL X.K H1 p vs := h.elim (fun z => SqL.of (z.ext x1).1) (fun ⟨o, z⟩ => .inl (.inr ⟨o, (z.ext x1).1⟩))
  have l1 := l.ext x1
  cases q : ws[i]? with
  | none =>
    have e : (Src.its ws).at s1 i = some none := congrArg some q
    rw [e]
    exact ⟨vs, hT, by rw [← l.length]; exact List.getElem?_eq_none_iff.mp q⟩
  | some w =>
    have e : (Src.its ws).at s1 i = some (some w) := congrArg some q
    rw [e]
    obtain ⟨v, hv, d⟩ := l1.get q
    refine ⟨⟨vs, v, hT, hv⟩, fun x H' hy => ?_⟩
    obtain ⟨rfl, hy⟩ := hy
    cases (Option.some.inj ((hy vs hT).symm.trans hv))
    exact ⟨Ext.refl, r1, d⟩
theorem src_ref {ρ : Pl} {n : Nat} {H : Hp} {i0 : Nat} (h : i0 < n) : SrcOk B ρ n H (.ref i0) (Itl X.K (ρ i0)) := fun ρ1 s1 H1 i x1 r1 => by
  have eρ := x1.eq i0 h
  cases q : s1.get i0 with
  | none =>
    have e : (Src.ref i0).at s1 i = none := by show (match s1.get i0 with | some (.lst ws) => some ws[i]? | _ => none) = none; rw [q]
    rw [e]
    trivial
  | some o =>
    cases o with
    | ins c fs =>
      have e : (Src.ref i0).at s1 i = none := by show (match s1.get i0 with | some (.lst ws) => some ws[i]? | _ => none) = none; rw [q]
      rw [e]
      trivial
    | lst ws =>
      obtain ⟨vs, hv, l⟩ := r1.ob i0 _ q
      rw [eρ] at hv
      have hT : SqL X.K H1 (ρ i0) vs := SqL.of hv
      have e : (Src.ref i0).at s1 i = some ws[i]? := by show (match s1.get i0 with | some (.lst ws) => some ws[i]? | _ => none) = some ws[i]?; rw [q]
      rw [e]
      cases q2 : ws[i]? with
      | none => exact ⟨vs, hT, by rw [← l.length]; exact List.getElem?_eq_none_iff.mp q2⟩
      | some w =>
        obtain ⟨v, hv2, d⟩ := l.get q2
        refine ⟨⟨vs, v, hT, hv2⟩, fun x H' hy => ?_⟩
        obtain ⟨rfl, hy⟩ := hy
        cases (Option.some.inj ((hy vs hT).symm.trans hv2))
        exact ⟨Ext.refl, r1, d⟩
theorem src_rng {ρ : Pl} {n : Nat} {H : Hp} (lo : Int) (m : Nat) : SrcOk B ρ n H (.its ((List.range m).map fun (j : Nat) => W.int (lo + (j : Int)))) (Itr lo m) := fun ρ1 s1 H1 i x1 r1 => by
  by_cases h : i < m
  · have e : (Src.its ((List.range m).map fun (j : Nat) => W.int (lo + (j : Int)))).at s1 i = some (some (.int (lo + (i : Int)))) := by
      show some (((List.range m).map fun (j : Nat) => W.int (lo + (j : Int)))[i]?) = _
      rw [List.getElem?_map, List.getElem?_range h]
      rfl
    rw [e]
    refine ⟨h, fun x H' hy => ?_⟩
    obtain ⟨rfl, rfl⟩ := hy
    exact ⟨Ext.refl, r1, .int⟩
  · have e : (Src.its ((List.range m).map fun (j : Nat) => W.int (lo + (j : Int)))).at s1 i = some none := by
      show some (((List.range m).map fun (j : Nat) => W.int (lo + (j : Int)))[i]?) = _
      rw [List.getElem?_map, List.getElem?_eq_none (by simpa using h)]
      rfl
    rw [e]
    exact Nat.not_lt.mp h
theorem src_enum {ρ : Pl} {n : Nat} {H : Hp} {ws : List W} {vs : List V} {p : Addr} (h : Fz ρ n H p (.lst vs)) (l : DenL B ρ n H ws vs) : SrcOk B ρ n H (.its (ws.zipIdx.map fun q => W.tup [.int q.2, q.1])) (Ite X.K p) := fun ρ1 s1 H1 i x1 r1 => by
  have hT : SqL X.K H1 p vs := SqL.of (h.ext x1).1
  have l1 := l.ext x1
  have e0 : (Src.its (ws.zipIdx.map fun q => W.tup [.int q.2, q.1])).at s1 i = some (ws[i]?.map fun w => W.tup [.int (i : Int), w]) := by
    show some ((ws.zipIdx.map fun q => W.tup [.int q.2, q.1])[i]?) = _
    rw [List.getElem?_map, List.getElem?_zipIdx]
    cases ws[i]? <;> simp
  rw [e0]
  cases q : ws[i]? with
  | none => exact ⟨vs, hT, by rw [← l.length]; exact List.getElem?_eq_none_iff.mp q⟩
  | some w =>
    obtain ⟨v, hv, d⟩ := l1.get q
    refine ⟨⟨vs, v, hT, hv⟩, fun x H' hy => ?_⟩
    obtain ⟨T, x0, rfl, hn, rfl, hy⟩ := hy
    cases (Option.some.inj ((hy vs hT).symm.trans hv))
    have xl : Ext ρ1 s1.size H1 ρ1 s1.size (upd H1 T (.tup [.int (i : Nat), v])) := Ext.laid hn
    exact ⟨xl, r1.laid hn, .tup (.inl (Fz.laid r1 hn)) (.cons .int (.cons (d.ext xl) .nil))⟩
theorem ix_of {tg : Expr} (hK : B.K = X.K) (ha : PEv X B Z C x a) (hi : ∀ e s, (sem C a).i e s = ((sem C a).e e s).bind fun w s1 => optR (srcW s1 w) s1) : PIv X B Z C tg x a := by
  refine ⟨fun pins st σ H R I ⟨ρ, s, e, r, ed, h⟩ => ?_⟩
  rw [hi] at h
  have h0 := Res.bind (D := DW B) h
  cases q : (sem C a).e e s with
  | fail => rw [q] at h; exact h.elim
  | exc cc fs s1 =>
    refine (pi_list (tg := tg) ha).run pins st σ H R I ⟨ρ, s, e, r, ed, ?_⟩
    rw [q] at h ⊢
    exact h
  | ok w s1 =>
    rw [q] at h
    replace h : Res B (DS B) ρ s.size H (optR (srcW s1 w) s1) R (Z σ) := h
    have fin : ∀ {src : Src}, srcW s1 w = some src → ∀ (ρ' : Pl) (H' : Hp) (J : It), Ext ρ s.size H ρ' s1.size H' → Rel B ρ' s1 H' → SrcOk B ρ' s1.size H' src J → R J H' := fun {src} e => by
      rw [e] at h
      exact h
    by_cases ht : ∃ us, w = .tup us
    · obtain ⟨us, rfl⟩ := ht
      refine (pi_tup (tg := tg) ha).run pins st σ H R I ⟨ρ, s, e, r, ed, ?_⟩
      rw [q]
      intro ρ1 H1 v x1 r1 d
      cases d with
      | tup hh l =>
        rename_i vs p
        exact ⟨p, rfl, ⟨vs, hK ▸ (show SqT B.K H1 p vs from hh.elim (fun z => SqT.of z.1) (fun z => .inr z))⟩, fin rfl ρ1 H1 _ x1 r1 (src_tup hK hh l)⟩
    · refine (pi_list (tg := tg) ha).run pins st σ H R I ⟨ρ, s, e, r, ed, ?_⟩
      rw [q]
      intro ρ1 H1 v x1 r1 d
      cases d with
      | tup hh l => exact absurd ⟨_, rfl⟩ ht
      | lst hh l => exact ⟨_, rfl, ⟨_, SqL.of hh.1⟩, fin rfl ρ1 H1 _ x1 r1 (src_lst (.inl hh) l)⟩
      | ref hi' =>
        rename_i i
        cases q2 : s1.get i with
        | none =>
          have e2 : srcW s1 (.ref i) = none := by show (match s1.get i with | some (.lst _) => some (Src.ref i) | _ => none) = none; rw [q2]
          rw [e2] at h
          exact h.elim
        | some o =>
          cases o with
          | ins c fs =>
            have e2 : srcW s1 (.ref i) = none := by show (match s1.get i with | some (.lst _) => some (Src.ref i) | _ => none) = none; rw [q2]
            rw [e2] at h
            exact h.elim
          | lst ws =>
            have e2 : srcW s1 (.ref i) = some (.ref i) := by show (match s1.get i with | some (.lst _) => some (Src.ref i) | _ => none) = _; rw [q2]
            obtain ⟨vs, hv, l⟩ := r1.ob i _ q2
            exact ⟨_, rfl, ⟨vs, SqL.of hv⟩, fin e2 ρ1 H1 _ x1 r1 (src_ref hi')⟩
      | _ => exact h.elim
theorem PI.weak {tg x : Expr} {t t' : TI} (h : PI X tg x t) (k : ∀ σ H R, t' σ H R → t σ H R) : PI X tg x t' := ⟨fun pins s σ H R I w => h.run pins s σ H R I (k σ H R w)⟩
theorem den1L {ρ : Pl} {n : Nat} {H : Hp} {w1 w2 : W} {xs : List V} (d : DenL B ρ n H [w1, w2] xs) : ∃ v1 v2, xs = [v1, v2] ∧ Den B ρ n H w1 v1 ∧ Den B ρ n H w2 v2 := by
  cases d with
  | cons h t => cases t with
    | cons h2 t2 => cases t2; exact ⟨_, _, rfl, h, h2⟩
theorem arg2 {α : Type} {f : List W → S → R α} {e : Env} {s : S} : ((sem C (.cons b (.cons c .nil))).a e s).bind f = ((sem C b).e e s).bind fun w s1 => ((sem C c).e e s1).bind fun u s2 => f [w, u] s2 := by
  show R.bind (R.bind ((sem C b).e e s) fun x s1 => R.bind (R.bind ((sem C c).e e s1) _) _) f = _
  cases (sem C b).e e s with
  | ok w s1 =>
    show R.bind (R.bind (R.bind ((sem C c).e e s1) _) _) f = R.bind ((sem C c).e e s1) _
    cases (sem C c).e e s1 <;> rfl
  | exc => rfl
  | fail => rfl
theorem ix_rng1 {tg : Expr} {p : Pos} (hg : Gl X "range") (hm : X.mg "range" = none) (ha : PEv X B Z C x b) (hs : unstarred x = true) : PIv X B Z C tg (.Call (.Name "range" p) [x] [] pos) (.rng (.cons b .nil)) :=
  PI.weak (pi_range1 hg hm (pa_cons ha pa_nil (star_plain hs _ _)) (star_plain hs _ _)) fun σ H R ⟨ρ, s, e, r, ed, h⟩ => by
    replace h : Res B (DS B) ρ s.size H (((sem C (.cons b .nil)).a e s).bind rngW) R (Z σ) := h
    rw [arg1] at h
    refine ⟨ρ, s, e, r, ed, (Res.bind h).mono ?_⟩
    rintro v H1 ⟨ρ1, s1, w, x1, r1, d, h2⟩
    cases w <;> first | exact h2.elim | skip
    rename_i n
    cases d
    have h3 : Res B (DS B) ρ1 s1.size H1 (if decide (-(2 ^ 62) ≤ n) && decide (n < 2 ^ 62) then .ok (.its ((List.range n.toNat).map fun (j : Nat) => W.int (0 + (j : Int)))) s1 else .fail) R (Z σ) := h2
    obtain ⟨hc, h3⟩ := ite_res h3
    obtain ⟨c1, c2⟩ := Bool.and_eq_true_iff.mp hc
    exact ⟨n, rfl, of_decide_eq_true c1, of_decide_eq_true c2, h3 ρ1 H1 _ Ext.refl r1 (src_rng 0 n.toNat)⟩
theorem ix_rng2 {tg : Expr} {p : Pos} (hg : Gl X "range") (hm : X.mg "range" = none) (ha : PEv X B Z C x b) (hb : PEv X B Z C y c) (hs : unstarred x = true) (hs2 : unstarred y = true) : PIv X B Z C tg (.Call (.Name "range" p) [x, y] [] pos) (.rng (.cons b (.cons c .nil))) :=
  PI.weak (pi_range2 hg hm (pa_cons ha (pa_cons hb pa_nil (star_plain hs2 _ _)) (star_plain hs _ _)) (by rw [star_plain hs, star_plain hs2]; rfl) (star_plain hs2 _ _)) fun σ H R ⟨ρ, s, e, r, ed, h⟩ => by
    replace h : Res B (DS B) ρ s.size H (((sem C (.cons b (.cons c .nil))).a e s).bind rngW) R (Z σ) := h
    rw [arg2] at h
    refine ⟨ρ, s, e, r, ed, (Res.bind h).mono ?_⟩
    rintro v1 H1 ⟨ρ1, s1, w, x1, r1, d, h2⟩
    refine ⟨ρ1, s1, e, r1, ed.ext x1, (Res.bind h2).mono ?_⟩
    rintro v2 H2 ⟨ρ2, s2, u, x2, r2, d2, h3⟩
    cases w <;> first | (cases u <;> exact h3.elim) | skip
    cases u <;> first | exact h3.elim | skip
    rename_i n m
    cases d
    cases d2
    have h4 : Res B (DS B) ρ2 s2.size H2 (if decide (-(2 ^ 62) ≤ n) && decide (n < 2 ^ 62) && decide (-(2 ^ 62) ≤ m) && decide (m < 2 ^ 62) then .ok (.its ((List.range (m - n).toNat).map fun (j : Nat) => W.int (n + (j : Int)))) s2 else .fail) R (Z σ) := h3
    obtain ⟨hc, h4⟩ := ite_res h4
    obtain ⟨c123, c4⟩ := Bool.and_eq_true_iff.mp hc
    obtain ⟨c12, c3⟩ := Bool.and_eq_true_iff.mp c123
    obtain ⟨c1, c2⟩ := Bool.and_eq_true_iff.mp c12
    exact ⟨n, m, rfl, ⟨of_decide_eq_true c1, of_decide_eq_true c2, of_decide_eq_true c3, of_decide_eq_true c4⟩, h4 ρ2 H2 _ Ext.refl r2 (src_rng n (m - n).toNat)⟩
theorem ix_enum {p tpos : Pos} {elts : List Expr} {kk : Nat} (hK : B.K = X.K) (hg : Gl X "enumerate") (hm : X.mg "enumerate" = none) (ha : PEv X B Z C x a) (hs : unstarred x = true) : PIv X B Z C (.Tuple elts kk tpos) (.Call (.Name "enumerate" p) [x] [] pos) (.enum a) :=
  PI.weak (pi_enum hg hm (pa_cons ha pa_nil (star_plain hs _ _)) (star_plain hs _ _)) fun σ H R ⟨ρ, s, e, r, ed, h⟩ => by
    refine ⟨ρ, s, e, r, ed, (Res.bind h).mono ?_⟩
    rintro v H1 ⟨ρ1, s1, w, x1, r1, d, h2⟩
    cases w <;> first | exact h2.elim | skip
    cases d with
    | lst hh l => exact ⟨_, _, rfl, SqL.of hh.1, h2 ρ1 H1 _ Ext.refl r1 (src_enum hh l)⟩
/-! ### a place that is kept from all -/
def hid (ρ : Pl) (D : Addr) : Pl := ⟨ρ.f, fun a => ρ.U a ∨ a = D⟩
theorem Ext0.touch {ρ : Pl} {n : Nat} {H : Hp} {D : Addr} {o : HO} (h : ρ.U D) : Ext0 ρ n H ρ n (upd H D o) :=
  ⟨Nat.le_refl _, fun _ _ => rfl, fun a u e _ _ hu => by
    have ne : a ≠ D := fun z => hu (by rw [z]; exact h)
    rw [upd_ne ne]
    exact e, fun _ q => .inl q, fun i h1 h2 => absurd h2 (Nat.not_lt.mpr h1)⟩
theorem Rel.touch {ρ : Pl} {s : S} {H : Hp} {D : Addr} {o : HO} {xs : List V} (r : Rel B ρ s H) (h : ρ.U D) (hx : H D = some (.lst xs)) : Rel B ρ s (upd H D o) :=
  ⟨r.nd, r.inj, fun i u e => (r.ob i u e).ext0 (Ext0.touch h) (upd_ne fun z => (r.res D h).2 i (Rel.lt e) z), fun a ha => ⟨by
    by_cases c : a = D
    · exact ⟨o, by rw [c]; exact upd_same⟩
    · obtain ⟨u, e⟩ := (r.res a ha).1
      exact ⟨u, by rw [upd_ne c]; exact e⟩, (r.res a ha).2⟩, tabs_write r.tb hx (fun _ z => nomatch z) (fun _ z => nomatch z)⟩
theorem Ext.hide {ρ : Pl} {n : Nat} {H : Hp} {D : Addr} {o : HO} (hD : H D = none) : Ext ρ n H (hid ρ D) n (upd H D o) :=
  ⟨Nat.le_refl _, fun _ _ => rfl, fun a u e _ _ _ => by rw [upd_ne (ne_of_none e hD)]; exact e, fun _ q => .inl q, fun a q => q.imp id fun z => by rw [z]; exact hD, fun i h1 h2 => absurd h2 (Nat.not_lt.mpr h1),
    fun a e => dom_upd hD e, fun a u _ q _ => by rw [upd_ne (ne_of_none q hD)]; exact q⟩
/-- seen from outside -/
def unh (U : Addr → Prop) (ρ : Pl) : Pl := ⟨ρ.f, U⟩
mutual
theorem Den.unhide {ρ : Pl} {n : Nat} {H : Hp} {U : Addr → Prop} (hU : ∀ a, U a → ρ.U a) : ∀ {w : W} {v : V}, Den B ρ n H w v → Den B (unh U ρ) n H w v
  | _, _, .non => .non
  | _, _, .bl => .bl
  | _, _, .int => .int
  | _, _, .str => .str
  | _, _, .tup h l => .tup (h.imp (fun z => ⟨z.1, z.2.1, fun q => z.2.2.1 (hU _ q), z.2.2.2⟩) id) (DenL.unhide hU l)
  | _, _, .lst z l => .lst ⟨z.1, z.2.1, fun q => z.2.2.1 (hU _ q), z.2.2.2⟩ (DenL.unhide hU l)
  | _, _, .frl h l => .frl (h.imp (fun ⟨o, z, k⟩ => ⟨o, ⟨z.1, z.2.1, fun q => z.2.2.1 (hU _ q), z.2.2.2⟩, k⟩) id) (DenL.unhide hU l)
  | _, _, .ref h => .ref (ρ := unh U ρ) h
  | _, _, .fn => .fn
  | _, _, .cls => .cls
  | _, _, .ty => .ty
  | _, _, .dct z => .dct ⟨z.1, z.2.1, fun q => z.2.2.1 (hU _ q), z.2.2.2⟩
  | _, _, .exn val z1 z2 h3 h4 => .exn val ⟨z1.1, z1.2.1, fun q => z1.2.2.1 (hU _ q), z1.2.2.2⟩ ⟨z2.1, z2.2.1, fun q => z2.2.2.1 (hU _ q), z2.2.2.2⟩ h3 fun f w q => Den.unhide hU (h4 f w q)
theorem DenL.unhide {ρ : Pl} {n : Nat} {H : Hp} {U : Addr → Prop} (hU : ∀ a, U a → ρ.U a) : ∀ {ws : List W} {vs : List V}, DenL B ρ n H ws vs → DenL B (unh U ρ) n H ws vs
  | _, _, .nil => .nil
  | _, _, .cons h t => .cons (Den.unhide hU h) (DenL.unhide hU t)
end
theorem Rel.hide {ρ : Pl} {s : S} {H : Hp} {D : Addr} {o : HO} (r : Rel B ρ s H) (hD : H D = none) : Rel B (hid ρ D) s (upd H D o) := by
  refine ⟨r.nd, r.inj, fun i u e => ?_, fun a h => ⟨?_, fun i hi z => ?_⟩, tabs_keep r.tb fun b u e => by rw [upd_ne (ne_of_none e hD)]; exact e⟩
  · exact (r.ob i u e).ext (Ext.hide hD) (upd_ne (r.fresh hD i (Rel.lt e)))
  · rcases h with h | h
    · obtain ⟨u, e⟩ := (r.res a h).1
      exact ⟨u, by rw [upd_ne (ne_of_none e hD)]; exact e⟩
    · exact ⟨o, by rw [h]; exact upd_same⟩
  · rcases h with h | h
    · exact (r.res a h).2 i hi z
    · exact r.fresh hD i hi (z.trans h)
theorem Rel.unhide {ρ : Pl} {s : S} {H : Hp} {U : Addr → Prop} (r : Rel B ρ s H) (hU : ∀ a, U a → ρ.U a) : Rel B (unh U ρ) s H := by
  refine ⟨r.nd, r.inj, fun i u e => ?_, fun a h => r.res a (hU a h), r.tb⟩
  have q := r.ob i u e
  cases u with
  | lst ws =>
    obtain ⟨vs, hv, l⟩ := q
    exact ⟨vs, hv, l.unhide hU⟩
  | ins c fs =>
    obtain ⟨dx, vfs, hv, l⟩ := q
    exact ⟨dx, vfs, hv, Paired.mapP l fun _ _ z => ⟨z.1, Den.unhide hU z.2⟩⟩
theorem Ext.unhide {ρ ρ' : Pl} {n n' : Nat} {H H' : Hp} (x : Ext ρ n H ρ' n' H') : Ext ρ n H (unh ρ.U ρ') n' H' :=
  ⟨x.le, x.eq, x.keep, fun _ q => q, fun _ q => .inl q, x.new, x.dom, x.kp⟩
theorem Ext.ownD {ρ ρ' : Pl} {n n' : Nat} {H H' : Hp} {D : Addr} {o : HO} (hD : H D = none) (x : Ext ρ n H ρ' n' H') : Ext ρ n H ρ' n' (upd H' D o) :=
  ⟨x.le, x.eq, fun a u e nt h1 h2 => by rw [upd_ne (ne_of_none e hD)]; exact x.keep a u e nt h1 h2, x.un, x.fr, x.new, fun a e => x.dom a (dom_write e), fun a u h e nt => by rw [upd_ne (ne_of_none e hD)]; exact x.kp a u h e nt⟩
end
end Ev

set_option Elab.async false
set_option linter.all false
set_option autoImplicit false
set_option maxRecDepth 100000
namespace Ev
open PySem PySem.Spec L2

/-! ### targets -/
def isLoc (sto : Scope) (x : Str) : Bool := sto.names.lookup x == some .local || sto.names.lookup x == some .cell
/-- what is known of a body's names: sc as it runs, sto the written one -/
structure Sc (X : Cx) (N : List Str) (sc sto : Scope) : Prop where
  hN : X.N = N
  nd : N.Nodup
  scp : X.env.scope = sc
  sto : ∀ x, isLoc sto x = true → L2.Loc sc x ∧ (X.fn x = true ∨ sc.names.lookup x = some .local)
def ckP (N : List Str) (sto : Scope) : Pt → (Expr → Bool) × (List Expr → Bool)
  | .n i => (fun e => match e with
    | .Name x _ => N[i]? == some x && isLoc sto x
    | _ => false, fun _ => false)
  | .t ps => (fun e => match e with
    | .Tuple es _ _ => (ckP N sto ps).2 es
    | _ => false, fun _ => false)
  | .nil => (fun _ => false, fun es => es.isEmpty)
  | .cons a b => (fun _ => false, fun es => match es with
    | e :: es => (ckP N sto a).1 e && (ckP N sto b).2 es
    | [] => false)
def agr (vs : List Nat) (σ σ' : St) : Prop := σ'.length = σ.length ∧ ∀ j, j ∉ vs → σ'[j]? = σ[j]?
theorem agr.trans {v1 v2 : List Nat} {a b c : St} (h : agr v1 a b) (k : agr v2 b c) : agr (v1 ++ v2) a c := ⟨k.1.trans h.1, fun j hj => (k.2 j fun z => hj (List.mem_append_right _ z)).trans (h.2 j fun z => hj (List.mem_append_left _ z))⟩
theorem agr.set {σ : St} {i : Nat} {o : Option V} : agr [i] σ (σ.set i o) := ⟨by simp, fun j hj => by
  have : i ≠ j := fun z => hj (by simp [z])
  rw [List.getElem?_set_ne this]⟩
def gP (B : Tb) (p : Pt) : TGs := fun vs σ H Q => ∃ (ρ : Pl) (s : S) (e : Env) (ws : List W) (e' : Env), Rel B ρ s H ∧ EnvD B ρ s.size H e σ ∧ DenL B ρ s.size H ws vs ∧ putP s p ws e = some e' ∧ ∀ σ', agr p.ix σ σ' → EnvD B ρ s.size H e' σ' → Q σ' H
section
variable {X : Cx} {B : Tb} {Z : St → XK} {C : C} {a b c : E} {x y z : Expr} {pos : Pos}
theorem PG.weak {t t' : TG} (h : PG X x t) (k : ∀ v σ H Q, t' v σ H Q → t v σ H Q) : PG X x t' := ⟨fun pins s σ H v u Q I r w => h.run pins s σ H v u Q I r (k v σ H Q w)⟩
theorem PGs.weak {xs : List Expr} {t t' : TGs} (h : PGs X xs t) (k : ∀ v σ H Q, t' v σ H Q → t v σ H Q) : PGs X xs t' := ⟨fun pins s σ H v u Q I r w => h.run pins s σ H v u Q I r (k v σ H Q w)⟩
theorem ckP_shape {N : List Str} {sto : Scope} {p : Pt} {e : Expr} (h : (ckP N sto p).1 e = true) : (∃ x q, e = .Name x q) ∨ ∃ es k q, e = .Tuple es k q := by
  cases p with
  | n i => cases e <;> first | exact .inl ⟨_, _, rfl⟩ | exact nomatch (show false = true from h)
  | t ps => cases e <;> first | exact .inr ⟨_, _, _, rfl⟩ | exact nomatch (show false = true from h)
  | nil => exact nomatch (show false = true from h)
  | cons a b => exact nomatch (show false = true from h)
theorem asg_each {N : List Str} {sto : Scope} {e : Expr} {es : List Expr} {p : Pt} {env : PySem.Env} (h : (ckP N sto p).1 e = true) : assignEach (e :: es) env = (false, assign e env) :: assignEach es env := by
  rcases ckP_shape h with ⟨x, q, rfl⟩ | ⟨xs, k, q, rfl⟩ <;> rfl
theorem asg_all {N : List Str} {sto : Scope} {env : PySem.Env} : ∀ {p : Pt} {es : List Expr}, (ckP N sto p).2 es = true → (assignEach es env).length = es.length ∧ (assignEach es env).findIdx? (·.1) = none
  | .n _, _, h => nomatch (show false = true from h)
  | .t _, _, h => nomatch (show false = true from h)
  | .nil, [], _ => ⟨rfl, rfl⟩
  | .nil, _ :: _, h => nomatch (show false = true from h)
  | .cons a b, [], h => nomatch (show false = true from h)
  | .cons a b, e :: es, h => by
    have h' : ((ckP N sto a).1 e && (ckP N sto b).2 es) = true := h
    rw [Bool.and_eq_true] at h'
    obtain ⟨l, f⟩ := asg_all (p := b) (env := env) h'.2
    rw [asg_each h'.1]
    refine ⟨by simp [l], ?_⟩
    rw [List.findIdx?_cons]
    simp [f]
theorem putP_len {s : S} : ∀ {p : Pt} {ws : List W} {e e' : Env} {N : List Str} {sto : Scope} {es : List Expr}, (ckP N sto p).2 es = true → putP s p ws e = some e' → ws.length = es.length
  | .n _, _, _, _, _, _, _, h, _ => nomatch (show false = true from h)
  | .t _, _, _, _, _, _, _, h, _ => nomatch (show false = true from h)
  | .nil, [], _, _, _, _, [], _, _ => rfl
  | .nil, [], _, _, _, _, _ :: _, h, _ => nomatch (show false = true from h)
  | .nil, _ :: _, _, _, _, _, _, _, q => nomatch (show (none : Option Env) = some _ from q)
  | .cons a b, [], _, _, _, _, _, _, q => nomatch (show (none : Option Env) = some _ from q)
  | .cons a b, w :: ws, _, _, _, _, [], h, _ => nomatch (show false = true from h)
  | .cons a b, w :: ws, e, e', N, sto, x :: xs, h, q => by
    have h' : ((ckP N sto a).1 x && (ckP N sto b).2 xs) = true := h
    rw [Bool.and_eq_true] at h'
    have q' : (match putP s a [w] e with
      | some e1 => putP s b ws e1
      | none => none) = some e' := q
    cases q1 : putP s a [w] e with
    | none => rw [q1] at q'; cases q'
    | some e1 =>
      rw [q1] at q'
      simp [putP_len (p := b) h'.2 q']
theorem den1' {ρ : Pl} {n : Nat} {H : Hp} {w : W} {xs : List V} (d : DenL B ρ n H [w] xs) : ∃ v, xs = [v] ∧ Den B ρ n H w v := den1 d
theorem pg_pt {N : List Str} {sc sto : Scope} (hK : B.K = X.K) (hc : X.calm = true) (T : Sc X N sc sto) : ∀ (p : Pt), (∀ e, (ckP N sto p).1 e = true → PG X e (fun v => gP B p [v])) ∧ ∀ es, (ckP N sto p).2 es = true → PGs X es (gP B p)
  | .n i => ⟨fun e h => by
      cases e <;> first | exact nomatch (show false = true from h) | skip
      rename_i x q
      have h' : (N[i]? == some x && isLoc sto x) = true := h
      rw [Bool.and_eq_true, beq_iff_eq] at h'
      obtain ⟨l1, l2⟩ := T.sto x h'.2
      refine PG.weak (pg_name (X := X) (by rw [T.hN]; exact T.nd) (by rw [T.hN]; exact h'.1) (by rw [T.scp]; exact l1) (by rw [T.scp]; exact l2)) ?_
      rintro v σ H Q ⟨ρ, s, e, ws, e', r, ed, d, pe, k⟩
      obtain ⟨w, rfl⟩ : ∃ w, ws = [w] := by
        have := d.length
        match ws, this with
        | [w], _ => exact ⟨w, rfl⟩
      cases Option.some.inj (show some (e.set i (some w)) = some e' from pe)
      obtain ⟨v', ev, dv⟩ := den1' d
      cases ev
      exact k _ agr.set (ed.set dv), fun es h => (nomatch (show false = true from h))⟩
  | .t ps => ⟨fun e h => by
      cases e <;> first | exact nomatch (show false = true from h) | skip
      rename_i es kk q
      have ih := (pg_pt hK hc T ps).2 es h
      obtain ⟨l, f⟩ := asg_all (env := X.env) (p := ps) h
      refine ⟨fun pins st σ H v u Q I rv hh => ?_⟩
      obtain ⟨ρ, s, e, ws, e', r, ed, d, pe, k⟩ := hh
      obtain ⟨w, rfl⟩ : ∃ w, ws = [w] := by
        have := d.length
        match ws, this with
        | [w], _ => exact ⟨w, rfl⟩
      obtain ⟨v', ev, dv⟩ := den1' d
      cases ev
      have pe' : (match items s w with
        | some ws => putP s ps ws e
        | none => none) = some e' := pe
      cases q1 : items s w with
      | none => rw [q1] at pe'; cases pe'
      | some us =>
        rw [q1] at pe'
        obtain ⟨pA, vs, rfl, hq, dl⟩ := items_den r dv q1
        have hl : vs.length = es.length := by rw [← dl.length]; exact putP_len (p := ps) h pe'
        rcases hq with hq | hq
        · exact (pg_lst (n := es.length) hc ih l f).run pins st σ H _ u Q I rv ⟨pA, vs, rfl, hK ▸ hq, hl, ρ, s, e, us, e', r, ed, dl, pe', k⟩
        · exact (pg_tup (n := es.length) hc ih l f).run pins st σ H _ u Q I rv ⟨pA, vs, rfl, hK ▸ hq, hl, ρ, s, e, us, e', r, ed, dl, pe', k⟩, fun es h => (nomatch (show false = true from h))⟩
  | .nil => ⟨fun e h => (nomatch (show false = true from h)), fun es h => by
      cases es with
      | cons _ _ => exact nomatch (show false = true from h)
      | nil =>
        refine PGs.weak pgs_nil ?_
        rintro vs σ H Q ⟨ρ, s, e, ws, e', r, ed, d, pe, k⟩
        cases ws with
        | cons _ _ => exact nomatch (show (none : Option Env) = some _ from pe)
        | nil =>
          cases d
          cases Option.some.inj (show some e = some e' from pe)
          exact ⟨rfl, k σ ⟨rfl, fun _ _ => rfl⟩ ed⟩⟩
  | .cons a b => ⟨fun e h => (nomatch (show false = true from h)), fun es h => by
      cases es with
      | nil => exact nomatch (show false = true from h)
      | cons x xs =>
        have h' : ((ckP N sto a).1 x && (ckP N sto b).2 xs) = true := h
        rw [Bool.and_eq_true] at h'
        refine PGs.weak (pgs_cons ((pg_pt hK hc T a).1 x h'.1) ((pg_pt hK hc T b).2 xs h'.2) (by rw [asg_each h'.1]; rfl)) ?_
        rintro vs σ H Q ⟨ρ, s, e, ws, e', r, ed, d, pe, k⟩
        cases ws with
        | nil => exact nomatch (show (none : Option Env) = some _ from pe)
        | cons w ws =>
          have pe' : (match putP s a [w] e with
            | some e1 => putP s b ws e1
            | none => none) = some e' := pe
          cases q1 : putP s a [w] e with
          | none => rw [q1] at pe'; cases pe'
          | some e1 =>
            rw [q1] at pe'
            cases d with
            | cons dv dl =>
              exact ⟨_, _, rfl, ρ, s, e, [w], e1, r, ed, .cons dv .nil, q1, fun σ1 g1 ed1 => ⟨ρ, s, e1, ws, e', r, ed1, dl, pe', fun σ2 g2 ed2 => k σ2 (g1.trans g2) ed2⟩⟩⟩

/-! ### comprehensions -/
/-- nothing may be raised -/
def Z0 : St → XK := fun _ _ _ _ => False
theorem nx_nil : PTs X [] (rdT B Z (sem C .nil).n) := ⟨fun pins s σ H Q I ⟨ρ, s1, e, r, ed, h⟩ => (pts_nil).run pins s σ H Q I (h ρ _ _ Ext.refl r rfl)⟩
theorem nx_one (ha : PTv X B Z C x a) (hn : ∀ e s, (sem C a).n e s = (sem C a).t e s) : PTs X [x] (rdT B Z (sem C a).n) := ⟨fun pins s σ H Q I ⟨ρ, s1, e, r, ed, h⟩ => (pts_one ha).run pins s σ H Q I ⟨ρ, s1, e, r, ed, by rw [hn] at h; exact h⟩⟩
theorem calm_res {α β γ δ : Type} {D : Pl → Nat → Hp → α → β → Prop} {D' : Pl → Nat → Hp → γ → δ → Prop} {ρ : Pl} {n : Nat} {H : Hp} {r : R α} {f : α → S → R γ} {Q : δ → Hp → Prop} {Zx : XK} (h : Res B D' ρ n H (r.calm.bind f) Q Zx) : ∃ v s, r = .ok v s ∧ Res B D' ρ n H (f v s) Q Zx := by
  cases r with
  | ok v s => exact ⟨v, s, rfl, h⟩
  | exc c fs s => exact h.elim
  | fail => exact h.elim
theorem EnvD.wipe {ρ : Pl} {n : Nat} {H : Hp} {e : Env} {σ : St} (h : EnvD B ρ n H e σ) : ∀ vs : List Nat, EnvD B ρ n H (wipeE e vs) (wipe σ vs)
  | [] => h
  | v :: vs => (EnvD.wipe h vs).unset
theorem wipe_get {σ : St} {j : Nat} : ∀ {vs : List Nat}, (wipe σ vs)[j]? = if j ∈ vs then (if j < σ.length then some none else none) else σ[j]?
  | [] => by simp [wipe]
  | v :: vs => by
    have ih := @wipe_get σ j vs
    unfold wipe
    by_cases c : v = j
    · subst c
      by_cases l : v < σ.length
      · rw [List.getElem?_set_self (by rw [wipe_length]; exact l), if_pos List.mem_cons_self, if_pos l]
      · rw [List.getElem?_eq_none (by rw [List.length_set, wipe_length]; omega), if_pos List.mem_cons_self, if_neg l]
    · rw [List.getElem?_set_ne c, ih]
      have : (j ∈ v :: vs) ↔ j ∈ vs := ⟨fun z => (List.mem_cons.mp z).elim (fun y => absurd y.symm c) id, List.mem_cons_of_mem _⟩
      simp only [this]
theorem wipe_agr {σ σ' : St} {vs : List Nat} (h : agr vs (wipe σ vs) σ') : wipe σ' vs = wipe σ vs := by
  refine List.ext_getElem? fun j => ?_
  have hl : σ'.length = σ.length := by rw [h.1, wipe_length]
  rw [wipe_get, wipe_get]
  by_cases c : j ∈ vs
  · rw [if_pos c, if_pos c, hl]
  · rw [if_neg c, if_neg c, h.2 j c, wipe_get, if_neg c]
/-- [elt for name in iter if ..] -/
theorem comp_core {p : Pt} {vs : List Nat} {σ : St} {H : Hp} {Q : VK} {wi : TI} (hwi : wi = rdI B Z (sem C b).i) (hvs : vs = p.ix) (h : rdE B Z (sem C (.comp p a b c)).e σ H Q) :
    tLc wi (fun v => gP B p [v]) (rdT B Z0 (sem C c).n) (rdE B Z0 (sem C a).e) vs σ H Q := by
  subst hwi hvs
  obtain ⟨ρ, s, e, r, ed, h⟩ := h
  refine ⟨ρ, s, e, r, ed, (Res.bind h).mono ?_⟩
  rintro J H1 ⟨ρ1, s1, src, x1, r1, d1, h1⟩
  have ed1 := ed.ext x1
  intro D hD
  generalize hP : (fun (w : W) (s : S) => putP s p [w] (wipeE e p.ix)) = pre at h1
  generalize hT : (fun (e : Env) (s : S) => (sem C c).n e s) = test at h1
  generalize hE : (fun (e : Env) (s : S) => (sem C a).e e s) = elt at h1
  refine ⟨fun k m H2 => ∃ (ρ2 : Pl) (s2 : S) (acc : List W) (av : List V), Ext ρ1 s1.size H1 ρ2 s2.size H2 ∧ ρ2.U D ∧ Rel B ρ2 s2 H2 ∧ H2 D = some (.lst av) ∧ DenL B ρ2 s2.size H2 acc av ∧ Res B (DW B) ρ1 s1.size H1 (compL pre test elt src m k acc s2) Q (Z σ),
    ⟨C.wf, hid ρ1 D, s1, [], [], Ext.hide hD, .inr rfl, r1.hide hD, upd_same, .nil, h1⟩, ?_⟩
  rintro k m H2 ⟨ρ2, s2, acc, av, x2, uD, r2, hv, l, h2⟩
  cases m with
  | zero => exact h2.elim
  | succ m =>
    have h3 : Res B (DW B) ρ1 s1.size H1 (match src.at s2 k with
      | none => .fail
      | some none => .ok (.lst acc) s2
      | some (some w) => (match pre w s2 with
        | none => .fail
        | some e => (test e s2).calm.bind fun bb s3 => if bb then (elt e s3).calm.bind fun y s4 => if acc.length < lim then compL pre test elt src m (k + 1) (acc ++ [y]) s4 else .fail
          else compL pre test elt src m (k + 1) acc s3)) Q (Z σ) := h2
    have xo := x2.unhide
    have ro := r2.unhide x2.un
    have sk := d1 ρ2 s2 H2 k x2 r2
    cases q : src.at s2 k with
    | none => rw [q] at h3; exact h3.elim
    | some o =>
      rw [q] at h3 sk
      cases o with
      | none =>
        refine .inl ⟨sk, ?_⟩
        exact h3 (unh ρ1.U ρ2) H2 (.ref D) xo ro (.lst ⟨hv, fun j hj z => (r2.res D uD).2 j hj z, r1.free hD, fun _ z => nomatch z⟩ (l.unhide x2.un))
      | some w =>
        obtain ⟨go, yl⟩ := sk
        replace h3 : Res B (DW B) ρ1 s1.size H1 (match pre w s2 with
          | none => .fail
          | some e => (test e s2).calm.bind fun bb s3 => if bb then (elt e s3).calm.bind fun y s4 => if acc.length < lim then compL pre test elt src m (k + 1) (acc ++ [y]) s4 else .fail
            else compL pre test elt src m (k + 1) acc s3) Q (Z σ) := h3
        cases qp : pre w s2 with
        | none => rw [qp] at h3; exact h3.elim
        | some e2 =>
        rw [qp] at h3
        replace h3 : Res B (DW B) ρ1 s1.size H1 ((test e2 s2).calm.bind fun bb s3 => if bb then (elt e2 s3).calm.bind fun y s4 => if acc.length < lim then compL pre test elt src m (k + 1) (acc ++ [y]) s4 else .fail
          else compL pre test elt src m (k + 1) acc s3) Q (Z σ) := h3
        obtain ⟨bb, s3, et, h4⟩ := calm_res (D := DB) h3
        refine .inr ⟨go, fun H' => ∃ (ρ2 : Pl) (s2 : S) (acc : List W) (av : List V), Ext ρ1 s1.size H1 ρ2 s2.size H' ∧ ρ2.U D ∧ Rel B ρ2 s2 H' ∧ H' D = some (.lst av) ∧ DenL B ρ2 s2.size H' acc av ∧ Res B (DW B) ρ1 s1.size H1 (compL pre test elt src m (k + 1) acc s2) Q (Z σ), fun H' hh => ⟨m, Nat.lt_succ_self m, hh⟩, fun xv H3 hy => ?_⟩
        obtain ⟨x3, r3, dx⟩ := yl xv H3 hy
        have x13 := x2.trans x3
        have qp' : putP s2 p [w] (wipeE e p.ix) = some e2 := by rw [← hP] at qp; exact qp
        refine ⟨ρ2, s2, wipeE e p.ix, [w], e2, r3, (ed1.ext x13).wipe _, .cons dx .nil, qp', fun σ2 g2 edw => ⟨wipe_agr g2, ρ2, s2, e2, r3, edw, ?_⟩⟩
        have et' : (sem C c).n e2 s2 = .ok bb s3 := by rw [← hT] at et; exact et
        rw [et']
        intro ρ3 H4 b' x4 r4 eb
        have eb' : bb = b' := eb
        subst eb'
        have x14 := x13.trans x4
        have hv4 : H4 D = some (.lst av) := x4.kp D _ uD (x3.kp D _ uD hv (fun _ z => nomatch z)) (fun _ z => nomatch z)
        have l4 := (l.ext x3).ext x4
        have uD3 := x4.un D uD
        cases bb with
        | false => exact iteF ⟨ρ3, s3, acc, av, x14, uD3, r4, hv4, l4, h4⟩
        | true =>
          refine iteT ⟨ρ3, s3, e2, r4, edw.ext x4, ?_⟩
          obtain ⟨yv, s4, ey, h5⟩ := calm_res (D := DW B) (show Res B (DW B) ρ1 s1.size H1 ((elt e2 s3).calm.bind fun y s4 => if acc.length < lim then compL pre test elt src m (k + 1) (acc ++ [y]) s4 else .fail) Q (Z σ) from h4)
          obtain ⟨hlen, h5⟩ := ite_res h5
          have ey' : (sem C a).e e2 s3 = .ok yv s4 := by rw [← hE] at ey; exact ey
          rw [ey']
          intro ρ4 H5 y5 x5 r5 d5
          have hv5 : H5 D = some (.lst av) := x5.kp D _ uD3 hv4 (fun _ z => nomatch z)
          have uD4 := x5.un D uD3
          refine ⟨av, hv5, by rw [← lim_eq, ← l.length]; exact hlen, ρ4, s4, acc ++ [yv], av ++ [y5], (x14.trans x5).ownD hD, uD4, r5.touch uD4 hv5, upd_same, ?_, h5⟩
          exact ((l4.ext x5).snoc d5).ext0 (Ext0.touch uD4)
end
end Ev

set_option Elab.async false
set_option linter.all false
set_option autoImplicit false
set_option maxRecDepth 100000
namespace Ev
open PySem PySem.Spec L2

section
variable {X : Cx} {B : Tb} {Z : St → XK} {C : C} {a b c : E} {x y z : Expr} {pos : Pos}
/-! ### two comparisons in a chain -/
theorem chain_post {o o' : CmpO} {σ : St} {H : Hp} {Q : VK} (h : rdE B Z (sem C (.cmp2 o o' a b c)).e σ H Q) : tChain (rCmp B o) (rCmp B o') (rdE B Z (sem C a).e) (rdE B Z (sem C b).e) (rdE B Z (sem C c).e) σ H Q := by
  obtain ⟨ρ, s, e, r, ed, h⟩ := h
  refine ⟨ρ, s, e, r, ed, (Res.bind h).mono ?_⟩
  rintro v1 H1 ⟨ρ1, s1, w1, x1, r1, d1, h1⟩
  refine ⟨ρ1, s1, e, r1, ed.ext x1, (Res.bind h1).mono ?_⟩
  rintro v2 H2 ⟨ρ2, s2, w2, x2, r2, d2, h2⟩
  cases q : cmpW s2 o w1 w2 with
  | none => rw [q] at h2; exact h2.elim
  | some k =>
    rw [q] at h2
    refine ⟨ρ2, s2, w1, w2, k, r2, d1.ext x2, d2, q, k, rfl, ?_⟩
    cases k with
    | false => exact iteF (Res.here r2 h2 .bl)
    | true =>
      refine iteT ⟨ρ2, s2, e, r2, (ed.ext x1).ext x2, (Res.bind (show Res B (DW B) ρ2 s2.size H2 (((sem C c).e e s2).bind fun z s3 => optR ((cmpW s3 o' w2 z).map .bl) s3) Q (Z σ) from h2)).mono ?_⟩
      rintro v3 H3 ⟨ρ3, s3, w3, x3, r3, d3, h3⟩
      cases q3 : cmpW s3 o' w2 w3 with
      | none => rw [q3] at h3; exact h3.elim
      | some k3 =>
        rw [q3] at h3
        exact ⟨ρ3, s3, w2, w3, k3, r3, d2.ext x3, d3, q3, Res.here r3 h3 .bl⟩
theorem cmp2_bl {o o' : CmpO} {e : Env} {s s1 : S} {w : W} (h : (sem C (.cmp2 o o' a b c)).e e s = .ok w s1) : ∃ k, w = .bl k := by
  have h1 : (((sem C a).e e s).bind fun x s1 => ((sem C b).e e s1).bind fun y s2 => chainW (cmpW s2 o x y) s2 fun s2 => ((sem C c).e e s2).bind fun z s3 => optR ((cmpW s3 o' y z).map .bl) s3) = .ok w s1 := h
  cases qa : (sem C a).e e s with
  | fail => rw [qa] at h1; cases h1
  | exc _ _ _ => rw [qa] at h1; cases h1
  | ok x1 t1 =>
    rw [qa] at h1
    replace h1 : (((sem C b).e e t1).bind fun y s2 => chainW (cmpW s2 o x1 y) s2 fun s2 => ((sem C c).e e s2).bind fun z s3 => optR ((cmpW s3 o' y z).map .bl) s3) = .ok w s1 := h1
    cases qb : (sem C b).e e t1 with
    | fail => rw [qb] at h1; cases h1
    | exc _ _ _ => rw [qb] at h1; cases h1
    | ok x2 t2 =>
      rw [qb] at h1
      replace h1 : (chainW (cmpW t2 o x1 x2) t2 fun s2 => ((sem C c).e e s2).bind fun z s3 => optR ((cmpW s3 o' x2 z).map .bl) s3) = .ok w s1 := h1
      cases q : cmpW t2 o x1 x2 with
      | none => rw [q] at h1; cases h1
      | some k =>
        rw [q] at h1
        cases k with
        | false => cases h1; exact ⟨_, rfl⟩
        | true =>
          replace h1 : (((sem C c).e e t2).bind fun z s3 => optR ((cmpW s3 o' x2 z).map .bl) s3) = .ok w s1 := h1
          cases qc : (sem C c).e e t2 with
          | fail => rw [qc] at h1; cases h1
          | exc _ _ _ => rw [qc] at h1; cases h1
          | ok x3 t3 =>
            rw [qc] at h1
            replace h1 : optR ((cmpW t3 o' x2 x3).map W.bl) t3 = .ok w s1 := h1
            cases q3 : cmpW t3 o' x2 x3 with
            | none => rw [q3] at h1; cases h1
            | some k3 => rw [q3] at h1; cases h1; exact ⟨_, rfl⟩
theorem rx_cmp2 {o o' : CmpO} (hK : B.K = X.K) (hu : X.A.units + 65 < cLine) (hm : lastMarks [o.py, o'.py] [y, z] = false) (ha : PEv X B Z C x a) (hb : PEv X B Z C y b) (hc : PEv X B Z C z c) : PEv X B Z C (.Compare x [o.py, o'.py] [y, z] pos) (.cmp2 o o' a b c) :=
  PE.weak (pe_chain (op_cmpW hK hu o) (op_cmpW hK hu o') ha hb hc hm) fun σ H Q h => chain_post h
theorem tx_cmp2 {o o' : CmpO} (hK : B.K = X.K) (hu : X.A.units + 65 < cLine) (hm : lastMarks [o.py, o'.py] [y, z] = false) (ha : PEv X B Z C x a) (hb : PEv X B Z C y b) (hc : PEv X B Z C z c) : PTv X B Z C (.Compare x [o.py, o'.py] [y, z] pos) (.cmp2 o o' a b c) :=
  PT.weak (pt_chain (op_cmpW hK hu o) (op_cmpW hK hu o') ha hb hc hm) fun σ H Q ⟨ρ, s, e, r, ed, h⟩ => by
    refine chain_post ⟨ρ, s, e, r, ed, ?_⟩
    replace h : Res B DB ρ s.size H (((sem C (.cmp2 o o' a b c)).e e s).bind fun x s1 => optR (truW s1 x) s1) Q (Z σ) := h
    cases q : (sem C (.cmp2 o o' a b c)).e e s with
    | fail => rw [q] at h; exact h
    | exc _ _ _ => rw [q] at h; exact h
    | ok w s1 =>
      obtain ⟨k, rfl⟩ := cmp2_bl q
      rw [q] at h
      intro ρ1 H1 v x1 r1 d1
      cases d1
      exact ⟨k, rfl, h ρ1 H1 k x1 r1 rfl⟩
/-! ### comprehensions -/
def ownOf (N : List Str) (p : Pt) : List (Str × Nat) := p.ix.map fun i => ((N[i]?).getD "", i)
theorem ownOf_ix {N : List Str} {p : Pt} : (ownOf N p).map (·.2) = p.ix := by
  unfold ownOf
  rw [List.map_map]
  exact List.map_id _
theorem Sc.blk {N : List Str} {sc sto scope : Scope} {s : Shared} {H : Hp} {D : Addr} {cl : List (Str × Addr)} {fp : List Addr} (T : Sc X N sc sto) : Sc (X.blk s H scope (compEnvC scope cl D X.env) fp) N (relS scope sc) scope where
  hN := T.hN
  nd := T.nd
  scp := by rw [← T.scp]; rfl
  sto := fun x h => by
    unfold isLoc at h
    rw [Bool.or_eq_true, beq_iff_eq, beq_iff_eq] at h
    rcases h with h | h
    · have k : (relS scope sc).names.lookup x = some .local := lookup_relS_keep (by decide) h
      exact ⟨.inl k, .inr k⟩
    · have k : (relS scope sc).names.lookup x = some .cell := lookup_relS_keep (by decide) h
      exact ⟨.inr k, .inl (by show (scope.names.lookup x == some .cell) = true; rw [h]; rfl)⟩
theorem rx_comp {N : List Str} {sc sto : Scope} {p : Pt} {tg : Expr} {scope : Scope} {ifs : List Expr} (hK : B.K = X.K) (hc : X.calm = true) (T : Sc X N sc sto) (ok : blkC N sc scope (ownOf N p) = true)
    (hp : (ckP N scope p).1 tg = true)
    (hit : PIv X B Z C tg y b) (ht : ∀ (s : Shared) (H : Hp) (D : Addr) (cl : List (Str × Addr)) (fp : List Addr), PTs (X.blk s H scope (compEnvC scope cl D X.env) fp) ifs (rdT B Z0 (sem C c).n))
    (he : ∀ (s : Shared) (H : Hp) (D : Addr) (cl : List (Str × Addr)) (fp : List Addr), PEv (X.blk s H scope (compEnvC scope cl D X.env) fp) B Z0 C x a) (hs : ∀ v, foldedSetIterable y X.env v = pure v) :
    PEv X B Z C (.ListComp x [⟨tg, y, ifs, 0⟩] scope pos) (.comp p a b c) :=
  PE.weak (pe_lc (own := ownOf N p) hc (by rw [T.hN]; exact T.nd) hit (blkOk_by (by rw [T.hN, T.scp]; exact ok)) (fun s H D cl fp => (pg_pt (X := X.blk s H scope (compEnvC scope cl D X.env) fp) hK hc T.blk p).1 tg hp) ht he hs) fun σ H Q h => comp_core rfl ownOf_ix h
/-- name = [..] on one line -/
theorem sx_comp {N : List Str} {sc sto : Scope} {p : Pt} {i : Nat} {nm : Str} {py spos : Pos} {tg : Expr} {scope : Scope} {ifs : List Expr} (hK : B.K = X.K) (hc : X.calm = true) (T : Sc X N sc sto) (hi : N[i]? = some nm) (hl : sc.names.lookup nm = some .local)
    (hsw : swapsWith (.ListComp x [⟨tg, y, ifs, 0⟩] scope pos) (some (.Name nm py)) spos.line X.env = pure true) (ok : blkC N sc scope (ownOf N p) = true) (hp : (ckP N scope p).1 tg = true)
    (hit : PIv X B Z C tg y b) (ht : ∀ (s : Shared) (H : Hp) (D : Addr) (cl : List (Str × Addr)) (fp : List Addr), PTs (X.blk s H scope (compEnvC scope cl D X.env) fp) ifs (rdT B Z0 (sem C c).n))
    (he : ∀ (s : Shared) (H : Hp) (D : Addr) (cl : List (Str × Addr)) (fp : List Addr), PEv (X.blk s H scope (compEnvC scope cl D X.env) fp) B Z0 C x a) (hs : ∀ v, foldedSetIterable y X.env v = pure v) :
    PS X (.Assign [.Name nm py] (.ListComp x [⟨tg, y, ifs, 0⟩] scope pos) spos) (tAsg (rdE B Z (sem C (.comp p a b c)).e) (gName i)) := by
  have h := ps_setLc (own := ownOf N p) (py := py) (spos := spos) hc (by rw [T.hN]; exact T.nd) (by rw [T.hN]; exact hi) (by rw [T.scp]; exact hl) hsw hit (blkOk_by (by rw [T.hN, T.scp]; exact ok)) (fun s H D cl fp => (pg_pt (X := X.blk s H scope (compEnvC scope cl D X.env) fp) hK hc T.blk p).1 tg hp) ht he hs
  exact ⟨fun pins st σ H Dn I q => h.run pins st σ H Dn I (comp_core rfl ownOf_ix q)⟩
end
end Ev

set_option Elab.async false
set_option linter.all false
set_option autoImplicit false
set_option maxRecDepth 100000
namespace Ev
open PySem PySem.Spec L2

/-! ### arguments by position and by name -/
def kwNm : List Keyword → Option (List Str)
  | [] => some []
  | ⟨some n, _, _⟩ :: r => (kwNm r).map (n :: ·)
  | ⟨none, _, _⟩ :: _ => none
theorem kwNm_all {pos : Pos} {env : PySem.Env} : ∀ {kws : List Keyword} {ks : List Str}, kwNm kws = some ks → (backToKw pos (keywordEach kws env)).all (·.1.isSome) = true ∧ (backToKw pos (keywordEach kws env)).any (·.1.isNone) = false ∧ (backToKw pos (keywordEach kws env)).filterMap (·.1) = ks ∧ ∀ (n : Nat), (backToKw pos (keywordEach kws env)).length = kws.length
  | [], ks, h => by
    cases Option.some.inj h
    exact ⟨rfl, rfl, rfl, fun _ => rfl⟩
  | ⟨none, _, _⟩ :: _, _, h => nomatch (show (none : Option (List Str)) = some _ from h)
  | ⟨some n, v, p⟩ :: r, ks, h => by
    have h' : (kwNm r).map (n :: ·) = some ks := h
    cases q : kwNm r with
    | none => rw [q] at h'; cases h'
    | some l =>
      rw [q] at h'
      cases Option.some.inj h'
      obtain ⟨a, b, c, d⟩ := kwNm_all (pos := pos) (env := env) q
      refine ⟨?_, ?_, ?_, fun _ => ?_⟩
      · show (true && (backToKw pos (keywordEach r env)).all (·.1.isSome)) = true
        rw [a]; rfl
      · show (false || (backToKw pos (keywordEach r env)).any (·.1.isNone)) = false
        rw [b]; rfl
      · show n :: (backToKw pos (keywordEach r env)).filterMap (·.1) = n :: l
        rw [c]
      · show (backToKw pos (keywordEach r env)).length + 1 = r.length + 1
        rw [d 0]
section
variable {X : Cx} {B : Tb} {Z : St → XK} {C : C} {a b c : E} {x y z : Expr} {pos : Pos}
abbrev PKv (X : Cx) (B : Tb) (Z : St → XK) (C : Ev.C) (kws : List Keyword) (b : E) : Prop := PK X kws (rdA B Z (sem C b).a)
theorem PK.weak {kws : List Keyword} {t t' : TA} (h : PK X kws t) (k : ∀ σ H Q, t' σ H Q → t σ H Q) : PK X kws t' := ⟨fun pos pins s σ H Q I w => h.run pos pins s σ H Q I (k σ H Q w)⟩
theorem kx_nil : PKv X B Z C [] .nil := PK.weak pk_nil fun σ H Q ⟨ρ, s, e, r, ed, h⟩ => h ρ _ _ Ext.refl r .nil
theorem kx_cons {nm : Option Str} {kp : Pos} {kws : List Keyword} (ha : PEv X B Z C x a) (hb : PKv X B Z C kws b) : PKv X B Z C (⟨nm, x, kp⟩ :: kws) (.cons a b) :=
  PK.weak (pk_cons ha hb) fun σ H Q ⟨ρ, s, e, r, ed, h⟩ => by
    refine ⟨ρ, s, e, r, ed, (Res.bind h).mono ?_⟩
    rintro v1 H1 ⟨ρ1, s1, w1, x1, r1, d1, h1⟩
    refine ⟨ρ1, s1, e, r1, ed.ext x1, (Res.bind h1).mono ?_⟩
    rintro v2 H2 ⟨ρ2, s2, w2, x2, r2, d2, h2⟩
    exact h2 ρ2 _ _ Ext.refl r2 (.cons (d1.ext x2) d2)
/-- the arguments of a call, whatever their kinds -/
theorem args_of {f : Value} {first : List Value} {xs : List Expr} {kws : List Keyword} {ks : List Str} {F : List W → List W → S → R W} {pins : List (Addr × Obj)} {σ : St} {st : Shared} {H : Hp} {Q : VK} {ρ : Pl} {s : S} {e : Env}
    (hk : PySem.W.keepIn X.K f = true) (ha : PAv X B Z C xs a) (hkw : PKv X B Z C kws b) (hs : xs.all unstarred = true) (hx : xs = [] → a = .nil) (hn : kwNm kws = some ks) (I : Inv X pins σ H st) (r : Rel B ρ s H) (ed : EnvD B ρ s.size H e σ)
    (h : Res B (DW B) ρ s.size H (((sem C a).a e s).bind fun ws s1 => ((sem C b).a e s1).bind fun us s2 => F ws us s2) Q (Z σ))
    (fin : ∀ (st2 : Shared) (H2 : Hp) (us ws : List Value) (vs zs : List V) (ρ2 : Pl) (s2 : S) (wl ul : List W), Inv X pins σ H2 st2 → Vals vs us → Vals zs ws → Ext ρ s.size H ρ2 s2.size H2 → Rel B ρ2 s2 H2 → DenL B ρ2 s2.size H2 wl vs → DenL B ρ2 s2.size H2 ul zs →
      Res B (DW B) ρ2 s2.size H2 (F wl ul s2) Q (Z σ) → wpAny (model X.prog X.w) X.A (call f (first ++ us) (ks.zip ws)) (EP X pins σ Q) X.xe st2) :
    wpAny (model X.prog X.w) X.A (callWith pos f first (backTo pos (starEach xs X.env)) (backToKw pos (keywordEach kws X.env))) (EP X pins σ Q) X.xe st := by
  obtain ⟨k1, k2, k3, k4⟩ := kwNm_all (pos := pos) (env := X.env) hn
  cases xs with
  | nil =>
    obtain rfl := hx rfl
    refine PySem.W.callWith_KW0 (h₀ := X.base) I.ok.mod.kin hk k1 (thn (hkw.run pos pins st σ H _ I ⟨ρ, s, e, r, ed, Res.bind (D := DL B) (show Res B (DW B) ρ s.size H (((sem C b).a e s).bind fun us s2 => F [] us s2) Q (Z σ) from h)⟩) ?_) (by rw [k2]; rfl)
    rintro ws st2 ⟨zs, H2, I2, rz, ρ1, s1, ul, x1, r1, d1, h1⟩
    refine ⟨I2.kIn, ?_⟩
    rw [k3]
    exact fin st2 H2 [] ws [] zs ρ1 s1 [] ul I2 .nil rz x1 r1 .nil d1 h1
  | cons x0 xs0 =>
    rw [List.all_cons, Bool.and_eq_true] at hs
    refine PySem.W.callWith_KW (h₀ := X.base) I.ok.mod.kin hk k1 (thn (ha.run pos pins st σ H _ I ⟨ρ, s, e, r, ed, Res.bind h⟩) ?_) (by rw [star_plain hs.1, k2]; show ((false || (backTo pos (starEach xs0 X.env)).any (·.1)) || false) = false; rw [star_any hs.2]; rfl) (star_plain hs.1 _ _)
    rintro us st1 ⟨vs, H1, I1, rv, ρ1, s1, wl, x1, r1, d1, h1⟩
    refine thn (hkw.run pos pins st1 σ H1 _ I1 ⟨ρ1, s1, e, r1, ed.ext x1, Res.bind (D := DL B) h1⟩) ?_
    rintro ws st2 ⟨zs, H2, I2, rz, ρ2, s2, ul, x2, r2, d2, h2⟩
    refine ⟨I2.kIn, ?_⟩
    rw [k3]
    exact fin st2 H2 us ws vs zs ρ2 s2 wl ul I2 rv rz (x1.trans x2) r2 (d1.ext x2) d2 h2
/-- how a call's arguments come to the parameters: n by position, ks by name, dv the defaults -/
structure Bnd (K : PySem.W.Frag) (fd : FuncData) (ps : List Str) (first n : Nat) (ks : List Str) (ix : List Nat) (dv : List Value) : Prop where
  to : ∀ (s : Shared) (fs us ws : List Value), K.In s.heap → fs.length = first → us.length = n → ws.length = ks.length → ∃ gs, pick (us ++ (ws ++ dv)) ix = some gs ∧ gs.length + first = ps.length ∧ BindsTo s fd ⟨fs ++ us, ks.zip ws⟩ (ps.zip (fs ++ gs))
theorem pick_vals : ∀ {ix : List Nat} {vs : List V} {us gs : List Value}, Vals vs us → pick us ix = some gs → ∃ xs, pick vs ix = some xs ∧ Vals xs gs
  | [], _, _, _, _, h => by
    cases Option.some.inj h
    exact ⟨[], rfl, .nil⟩
  | i :: is, vs, us, gs, r, h => by
    have h' : pick1 us[i]? (pick us is) = some gs := h
    cases q1 : us[i]? with
    | none => rw [q1] at h'; cases h'
    | some u =>
      cases q2 : pick us is with
      | none => rw [q1, q2] at h'; cases h'
      | some l =>
        rw [q1, q2] at h'
        cases Option.some.inj h'
        obtain ⟨xs, e, rx⟩ := pick_vals r q2
        obtain ⟨v, ev, rv⟩ : ∃ v, vs[i]? = some v ∧ RelV v u := by
          clear h h' e rx q2
          induction r generalizing i with
          | nil => simp at q1
          | cons hh tt ih =>
            cases i with
            | zero => cases Option.some.inj q1; exact ⟨_, rfl, hh⟩
            | succ i => exact ih i q1
        refine ⟨v :: xs, ?_, .cons rv rx⟩
        show pick1 vs[i]? (pick vs is) = _
        rw [ev, e]
        rfl
theorem pick_den {ρ : Pl} {n : Nat} {H : Hp} : ∀ {ix : List Nat} {ws gs : List W} {vs xs : List V}, DenL B ρ n H ws vs → pick ws ix = some gs → pick vs ix = some xs → DenL B ρ n H gs xs
  | [], _, _, _, _, _, h, k => by
    cases Option.some.inj h
    cases Option.some.inj k
    exact .nil
  | i :: is, ws, gs, vs, xs, d, h, k => by
    have h' : pick1 ws[i]? (pick ws is) = some gs := h
    have k' : pick1 vs[i]? (pick vs is) = some xs := k
    cases q1 : ws[i]? with
    | none => rw [q1] at h'; cases h'
    | some w =>
      cases q2 : pick ws is with
      | none => rw [q1, q2] at h'; cases h'
      | some l =>
        rw [q1, q2] at h'
        cases Option.some.inj h'
        obtain ⟨v, ev, dv⟩ := d.get q1
        cases q3 : pick vs is with
        | none => rw [ev, q3] at k'; cases k'
        | some m =>
          rw [ev, q3] at k'
          cases Option.some.inj k'
          exact .cons dv (pick_den d q2 q3)
/-- the defaults, as they stand -/
def Dfl (B : Tb) (ds : List W) (dv : List Value) : Prop := ∃ vs, Vals vs dv ∧ ∀ (ρ : Pl) (n : Nat) (H : Hp), DenL B ρ n H ds vs
/-- a def called so -/
theorem run_fnb {pins : List (Addr × Obj)} {σ : St} {H : Hp} {s : Shared} {Q : VK} {args : Args} {us : List Value} {vs : List V} {ps : List Str} {fd : FuncData} {f : Addr} {k : Nat} {sp : Sp} {E : XK} (F : FnOk X.prog X.w X.K X.mg X.base (L2.CX X.prog X.w) k f fd ps sp) (hr : Room k X.A) (hb : BindsTo s fd args (ps.zip us))
    (hx : PassesAt (L2.CX X.prog X.w) X σ E) (I : Inv X pins σ H s) (r : Vals vs us) (h : sp vs H Q E) : wpAny (model X.prog X.w) X.A (call (.ref f) args.pos args.kw) (EP X pins σ Q) X.xe s := by
  refine wpAny_call (codeAny_mono (F.run X.A X.stack s H args us vs Q E hr I.env0 hb r h) ?_)
  rintro (er | fl) s2 hq
  · exact hx pins H s er s2 I hq
  · cases fl with
    | ret u => exact I.after hq
    | _ => exact hq.elim
/-- a def that stands at f, does as its term says, and is called so -/
structure DoesK (X : Cx) (B : Tb) (k : Nat) (f : Addr) (g : List W → S → R W) (first n : Nat) (ks : List Str) (ix : List Nat) (ds : List W) : Prop where
  ok : ∃ fd ps dv, FnOk X.prog X.w X.K X.mg X.base (L2.CX X.prog X.w) k f fd ps (spF B g) ∧ Bnd X.K fd ps first n ks ix dv ∧ Dfl B ds dv
  kp : PySem.W.keepIn X.K (.ref f) = true
theorem run_K {f : Addr} {k n : Nat} {ks : List Str} {ix : List Nat} {ds : List W} {g : List W → S → R W} {fw : List W} {fv : List V} {fu : List Value} {pins : List (Addr × Obj)} {σ : St} {st : Shared} {H : Hp} {Q : VK} {ρ : Pl} {s : S} {us ws : List Value} {vs zs : List V} {wl ul : List W}
    (F : DoesK X B k f g fw.length n ks ix ds) (hr : Room k X.A) (tk : Takes X (WZ Z)) (I : Inv X pins σ H st) (rf : Vals fv fu) (rv : Vals vs us) (rz : Vals zs ws) (r : Rel B ρ s H) (df : DenL B ρ s.size H fw fv) (d1 : DenL B ρ s.size H wl vs) (d2 : DenL B ρ s.size H ul zs)
    (h : Res B (DW B) ρ s.size H (pickW n ks ix ds wl ul s fun ts s => g (fw ++ ts) s) Q (Z σ)) : wpAny (model X.prog X.w) X.A (call (.ref f) (fu ++ us) (ks.zip ws)) (EP X pins σ Q) X.xe st := by
  obtain ⟨fd, ps, dv, F1, F2, dvs, rd, dd⟩ := F.ok
  unfold pickW at h
  obtain ⟨hc, h⟩ := ite_res h
  rw [Bool.and_eq_true, decide_eq_true_eq, decide_eq_true_eq] at hc
  obtain ⟨gs, e1, e2, e3⟩ := F2.to st fu us ws I.kIn (by rw [← rf.length, ← df.length]) (by rw [← rv.length, ← d1.length]; exact hc.1) (by rw [← rz.length, ← d2.length]; exact hc.2)
  obtain ⟨xs, e4, rx⟩ := pick_vals (rv.append (rz.append rd)) e1
  cases q : pick (wl ++ (ul ++ ds)) ix with
  | none => rw [q] at h; exact h.elim
  | some ts =>
    rw [q] at h
    have dt := pick_den (d1.append (d2.append (dd ρ s.size H))) q e4
    exact run_fnb (args := ⟨fu ++ us, ks.zip ws⟩) F1 hr e3 (passAt tk σ) I (rf.append rx) ⟨ρ, s, fw ++ ts, r, df.append dt, h⟩
theorem rx_callk {nm : Str} {g n : Nat} {f : Addr} {k : Nat} {xs : List Expr} {kws : List Keyword} {ks : List Str} {ix : List Nat} {ds : List W} {p : Pos} (F : DoesK X B k f (C.call g) 0 n ks ix ds) (hr : Room k X.A) (hg : Gl X nm) (hd : (nm == ("__debug__" : Str)) = false) (hm : X.mg nm = some (.ref f)) (tk : Takes X (WZ Z))
    (ha : PAv X B Z C xs a) (hkw : PKv X B Z C kws b) (hs : xs.all unstarred = true) (hx : xs = [] → a = .nil) (hn : kwNm kws = some ks) : PEv X B Z C (.Call (.Name nm p) xs kws pos) (.callk nm g n a b ks ix ds) := by
  refine ⟨fun pins st σ H Q I ⟨ρ, s, e, r, ed, h⟩ => ?_⟩
  refine wpAny_Call_Name_kw (ld_glob I hg hm ?_ hd)
  refine args_of F.kp ha hkw hs hx hn I r ed h ?_
  intro st2 H2 us ws vs zs ρ2 s2 wl ul I2 rv rz x2 r2 d1 d2 h2
  exact run_K (fw := []) F hr tk I2 .nil rv rz r2 .nil d1 d2 h2
/-! ### methods and making, with keywords -/
theorem mcallk_eq {o : Expr} {name : Str} {apos pos : Pos} {args : List Expr} {kws : List Keyword} {ks : List Str} {env : PySem.Env} (hb : attributeBase o name env (eval o env) = eval o env) (ha : args.all unstarred = true) (hk : kwNm kws = some ks) (hn : decide (args.length + kws.length < 29) = true) (hl : (apos.endLine == pos.line) = true) :
    eval (.Call (.Attribute o name apos) args kws pos) env = (do
      let ov ← eval o env
      standAt apos.atName
      let (f, first) ← holding [ov] (getMethod ov name (do return (← importBound o env).getD true))
      callWith pos f first (backTo pos (starEach args env)) (backToKw pos (keywordEach kws env))) := by
  obtain ⟨k1, k2, k3, k4⟩ := kwNm_all (pos := pos) (env := env) hk
  have hf : methodCallForm (args.length + kws.length) (backTo pos (starEach args env)) (backToKw pos (keywordEach kws env)) = true := by
    unfold methodCallForm
    rw [star_all ha, k1]
    have := of_decide_eq_true hn
    simp only [Bool.and_self, Bool.true_and, decide_eq_true_eq]
    split <;> omega
  show (do
    let ov ← attributeBase o name env (eval o env)
    standAt apos.atName
    methodCall o name apos pos env ov (args.length + kws.length) (backTo pos (starEach args env)) (backToKw pos (keywordEach kws env))) = _
  rw [hb]
  unfold methodCall methodCallPos calleeOf
  simp only [hf, hl, Bool.not_true, Bool.false_or, if_true]
  rfl
theorem rx_methk {m : Str} {n : Nat} {xs : List Expr} {kws : List Keyword} {ks : List Str} {ix : List Nat} {ds : List W} {apos : Pos} (kls : ∀ c, (C.makes c).isSome = true → Kls X B c)
    (ms : ∀ c g, (C.makes c).isSome = true → C.meth c m = some g → ∃ (f : Addr) (k : Nat), Meth X.K (B.ca c) m f ∧ Room k X.A ∧ DoesK X B k f (C.call g) 1 n ks ix ds) (hm : m ∉ B.fn) (tk : Takes X (WZ Z)) (ho : PEv X B Z C x a) (hb : baseOk x = true)
    (ha : PAv X B Z C xs b) (hkw : PKv X B Z C kws c) (hs : xs.all unstarred = true) (hn : decide (xs.length + kws.length < 29) = true) (hl : (apos.endLine == pos.line) = true) (hx : xs = [] → b = .nil) (hk : kwNm kws = some ks) : PEv X B Z C (.Call (.Attribute x m apos) xs kws pos) (.methk a m n b c ks ix ds) := by
  refine ⟨fun pins st σ H Q I ⟨ρ, s, e, r, ed, h⟩ => ?_⟩
  refine PySem.W.methodCall_KW (thn (ho.run pins st σ H _ I ⟨ρ, s, e, r, ed, Res.bind h⟩) ?_) (mcallk_eq (base_of hb) hs hk hn hl)
  rintro u st1 ⟨v1, H1, I1, rv, ρ1, s1, w1, x1, r1, d1, h1⟩
  have h2 : Res B (DW B) ρ1 s1.size H1 (match methOf C w1 m s1 with
    | some g => ((sem C b).a e s1).bind fun ws s2 => ((sem C c).a e s2).bind fun us s3 => pickW n ks ix ds ws us s3 fun vs s => C.call g (w1 :: vs) s
    | none => .fail) Q (Z σ) := h1
  cases qm : methOf C w1 m s1 with
  | none => rw [qm] at h2; exact h2.elim
  | some g =>
    rw [qm] at h2
    cases w1 <;> first | (exact nomatch (show (none : Option Nat) = some g from qm)) | skip
    rename_i i
    cases d1 with
    | ref hi =>
      obtain rfl : u = Value.ref (ρ1 i) := rv
      have qm' : (match s1.get i with
        | some (.ins c _) => if (C.makes c).isSome then C.meth c m else none
        | _ => none) = some g := qm
      split at qm'
      · rename_i cc fs q
        by_cases hc : (C.makes cc).isSome = true
        · rw [if_pos hc] at qm'
          obtain ⟨dx, vfs, hv, fd⟩ := r1.ob i _ q
          obtain ⟨f, k, M, hr, F⟩ := ms cc g hc qm'
          refine getmeth_ok I1 hv (kls cc hc).cl M (fd.none hm) ?_
          refine args_of M.kp ha hkw hs hx hk I1 r1 (ed.ext x1) h2 ?_
          intro st2 H2 us ws vs zs ρ2 s2 wl ul I2 rv2 rz x2 r2 dd1 dd2 h3
          exact run_K (fw := [.ref i]) (fv := [.ref (ρ1 i)]) F hr tk I2 (.cons rfl .nil) rv2 rz r2 (.cons (Den.ext x2 (.ref hi)) .nil) dd1 dd2 h3
        · rw [if_neg hc] at qm'; cases qm'
      · cases qm'
theorem run_mkK {pins : List (Addr × Obj)} {σ : St} {H : Hp} {st : Shared} {Q : VK} {us ws gs : List Value} {vs : List V} {ks : List Str} {sp : Sp} {K0 f : Addr} {fd : FuncData} {ps : List Str} {k : Nat} {E : XK} (M : Mk X.K K0 f) (F : FnOk X.prog X.w X.K X.mg X.base (L2.CX X.prog X.w) k f fd ps sp)
    (hr : Room (k + 1) X.A) (hb : ∀ (s : Shared) (q : Value), X.K.In s.heap → BindsTo s fd ⟨q :: us, ks.zip ws⟩ (ps.zip (q :: gs))) (hx : PassesAt (L2.CX X.prog X.w) X σ E) (I : Inv X pins σ H st) (r : Vals vs gs)
    (h : ∀ q dx, H q = none → H dx = none → dx ≠ q → sp (.ref q :: vs) (upd (upd H dx (.own q)) q (.ins K0 dx [])) (fun v H2 => v = .non ∧ Q (.ref q) H2) E) : wpAny (model X.prog X.w) X.A (call (.ref K0) us (ks.zip ws)) (EP X pins σ Q) X.xe st := by
  have big : H (st.heap.objs.size + 1) = none := I.hok.fresh (Nat.le_succ _)
  have low : H st.heap.objs.size = none := I.hok.fresh (Nat.le_refl _)
  have promise := h (st.heap.objs.size + 1) st.heap.objs.size big low (Nat.ne_of_lt (Nat.lt_succ_self _))
  have J := Inv.made (C := K0) I
  have rs : Vals (V.ref (st.heap.objs.size + 1) :: vs) (Value.ref (st.heap.objs.size + 1) :: gs) := .cons rfl r
  have bnd := hb _ (Value.ref (st.heap.objs.size + 1)) J.kIn
  refine wpAny_call (make_map (f := f) I.kIn M.makes M.init (beq_iff_eq.mp M.fn) (codeAny_mono (F.run _ X.stack _ _ _ _ _ _ E (hr.make K0 us _) (J.env0.make K0 us _) bnd rs promise) ?_))
  intro res s' hres
  match res, hres with
  | .error e, hres => exact hx pins _ _ e s' J hres
  | .ok (.ret u), hres =>
    obtain ⟨v, H', I3, rv, ev, hQ⟩ := J.after hres
    subst ev
    exact ⟨rv, ⟨V.ref (st.heap.objs.size + 1), H', I3, rfl, hQ⟩⟩
theorem rx_mkk {nm : Str} {cc n : Nat} {xs : List Expr} {kws : List Keyword} {ks : List Str} {ix : List Nat} {ds : List W} {p : Pos} (ms : ∃ (g : Nat) (f : Addr) (k : Nat), C.makes cc = some g ∧ Mk X.K (B.ca cc) f ∧ Room (k + 1) X.A ∧ DoesK X B k f (C.init g) 1 n ks ix ds) (hg : Gl X nm) (hd : (nm == ("__debug__" : Str)) = false)
    (hm : X.mg nm = some (.ref (B.ca cc))) (tk : Takes X (WZ Z)) (ha : PAv X B Z C xs a) (hkw : PKv X B Z C kws b) (hs : xs.all unstarred = true) (hx : xs = [] → a = .nil) (hk : kwNm kws = some ks) : PEv X B Z C (.Call (.Name nm p) xs kws pos) (.mkk nm cc n a b ks ix ds) := by
  refine ⟨fun pins st σ H Q I ⟨ρ, s, e, r, ed, h⟩ => ?_⟩
  refine wpAny_Call_Name_kw (ld_glob I hg hm ?_ hd)
  obtain ⟨g, f, k, qg, M, hr, F⟩ := ms
  refine args_of M.kp ha hkw hs hx hk I r ed h ?_
  intro st2 H2 us ws vs zs ρ2 s2 wl ul I2 rv rz x2 r2 d1 d2 h2
  obtain ⟨fd, ps, dv, F1, F2, dvs, rd, dd⟩ := F.ok
  unfold pickW at h2
  obtain ⟨hc, h2⟩ := ite_res h2
  rw [Bool.and_eq_true, decide_eq_true_eq, decide_eq_true_eq] at hc
  have hb : ∀ (s : Shared) (q : Value), X.K.In s.heap → ∃ gs, pick (us ++ (ws ++ dv)) ix = some gs ∧ BindsTo s fd ⟨q :: us, ks.zip ws⟩ (ps.zip (q :: gs)) := fun s q kin => by
    obtain ⟨gs, e1, _, e3⟩ := F2.to s [q] us ws kin rfl (by rw [← rv.length, ← d1.length]; exact hc.1) (by rw [← rz.length, ← d2.length]; exact hc.2)
    exact ⟨gs, e1, e3⟩
  obtain ⟨gs, e1, _⟩ := hb st2 .none I2.kIn
  obtain ⟨ts, e4, rx⟩ := pick_vals (rv.append (rz.append rd)) e1
  cases q : pick (wl ++ (ul ++ ds)) ix with
  | none => rw [q] at h2; exact h2.elim
  | some us' =>
    rw [q] at h2
    have dt := pick_den (d1.append (d2.append (dd ρ2 s2.size H2))) q e4
    refine run_mkK M F1 hr (fun s q kin => ?_) (passAt tk σ) I2 rx (mk_post qg r2 dt h2)
    obtain ⟨gs', e1', e3'⟩ := hb s q kin
    rw [e1] at e1'
    cases e1'
    exact e3'
end
end Ev

set_option Elab.async false
set_option linter.all false
set_option autoImplicit false
set_option maxRecDepth 100000
namespace Ev
open PySem PySem.Spec L2

/-! ### how names are stored -/
def isComp : Expr → Bool
  | .ListComp _ _ _ _ => true
  | .SetComp _ _ _ _ => true
  | .DictComp _ _ _ _ _ => true
  | _ => false
theorem sw_plain {e : Expr} {t : Option Expr} {l : Nat} {env : PySem.Env} (h : isComp e = false) : swapsWith e t l env = pure false := by
  cases e <;> first | rfl | exact nomatch h
def isNameE : Expr → Bool
  | .Name _ _ => true
  | _ => false
theorem sw_tgt {e t : Expr} {l : Nat} {env : PySem.Env} (h : isNameE t = false) : swapsWith e (some t) l env = pure false := by
  by_cases c : isComp e = false
  · exact sw_plain c
  · cases e <;> first | exact absurd rfl c | skip
    all_goals (cases t <;> first | rfl | exact nomatch h)
theorem sw_cell {e : Expr} {x : Str} {p : Pos} {l : Nat} {env : PySem.Env} (h : (env.scope.names.lookup x == some .local) = false) : swapsWith e (some (.Name x p)) l env = pure false := by
  by_cases c : isComp e = false
  · exact sw_plain c
  · have k : (env.kindOf x == some .local) = false := h
    cases e <;> first | exact absurd rfl c | skip
    all_goals (unfold swapsWith; simp only [k, Bool.and_false, Bool.false_and])
def notLoc (sc : Scope) : Expr → Bool
  | .Name id _ => !(sc.names.lookup id == some .local)
  | _ => true
def swNone (tg e : Expr) (sc : Scope) : Bool := match tg, e with
  | .Tuple ts _ _, .Tuple vs _ _ => !(ts.length == 2 || ts.length == 3) || vs.length != ts.length || ts.any (notLoc sc) || vs.all (foldedForSure 8)
  | .List _ _, .Tuple _ _ _ => false
  | _, _ => true
theorem sw_none {tg e : Expr} {env : PySem.Env} (h : swNone tg e env.scope = true) : swappedStores [tg] e env = pure none := by
  cases tg with
  | Tuple ts k p =>
    cases e with
    | Tuple vs k2 p2 =>
      have h' : (!(ts.length == 2 || ts.length == 3) || vs.length != ts.length || ts.any (notLoc env.scope) || vs.all (foldedForSure 8)) = true := h
      simp only [Bool.or_eq_true] at h'
      unfold swappedStores
      dsimp only
      split
      · rfl
      · rename_i c1
        simp only [Bool.or_eq_true, not_or] at c1
        split
        · rfl
        · split
          · rfl
          · rename_i c3
            simp only [Bool.or_eq_true, not_or] at c3
            split
            · rfl
            · rename_i c4
              exfalso
              rcases h' with ((h' | h') | h') | h'
              · exact c1.1.1 h'
              · exact c1.1.2 h'
              · refine c3.1 (bne_iff_ne.mpr fun z => ?_)
                rw [List.filterMap_length_eq_length] at z
                obtain ⟨t, ht, hn⟩ := List.any_eq_true.mp h'
                have zt := z t ht
                cases t <;> first | exact absurd zt Bool.false_ne_true | skip
                rename_i id q
                have hn' : (env.kindOf id == some .local) = false := by
                  have h5 : (!(env.scope.names.lookup id == some .local)) = true := hn
                  show (env.scope.names.lookup id == some .local) = false
                  simpa using h5
                simp only [hn', Bool.false_and] at zt
                exact nomatch zt
              · exact c4 h'
    | _ => rfl
  | List ts p =>
    cases e with
    | Tuple _ _ _ => exact nomatch (show false = true from h)
    | _ => rfl
  | _ => rfl
theorem star_no : ∀ {l : List Expr}, l.all unstarred = true → (l.any fun | .Starred .. => true | _ => false) = false
  | [], _ => rfl
  | x :: l, h => by
    rw [List.all_cons, Bool.and_eq_true] at h
    rw [List.any_cons, star_no h.2, Bool.or_false]
    have hx := h.1
    cases x <;> first | rfl | exact absurd hx Bool.false_ne_true
/-- two plain local names of one line, two values that are not all constant -/
theorem sw_two {x y : Str} {px py pt p2 : Pos} {k k2 : Nat} {a b : Expr} {env : PySem.Env} (hk : env.scope.kind = .function) (hx : env.scope.names.lookup x = some .local) (hy : env.scope.names.lookup y = some .local) (hl : (px.line == py.line) = true) (hxy : (x == y) = false)
    (ha : unstarred a = true) (hb : unstarred b = true) (hf : [a, b].all (foldedForSure 8) = false) (hc : [a, b].all (constantsAlone 8) = false) :
    swappedStores [.Tuple [.Name x px, .Name y py] k pt] (.Tuple [a, b] k2 p2) env = pure (some [x, y]) := by
  have hs := star_no (l := [a, b]) (by rw [List.all_cons, List.all_cons, ha, hb]; rfl)
  have kb : env.blockKind = .function := by unfold Env.blockKind; rw [hk]; rfl
  have kx : env.kindOf x = some .local := hx
  have ky : env.kindOf y = some .local := hy
  have ll : py.line = px.line := (beq_iff_eq.mp hl).symm
  have xy : y ≠ x := fun z => by rw [z, beq_self_eq_true] at hxy; cases hxy
  have ed : ([x, y] : List Str).eraseDups = [x, y] := by
    rw [List.eraseDups_cons]
    have : ([y] : List Str).filter (fun b => !b == x) = [y] := by
      have e : (y == x) = false := beq_eq_false_iff_ne.mpr xy
      simp [List.filter, e]
    rw [this]
    rfl
  have fm : (List.filterMap (fun (t : Expr) => match t with
      | .Name id pos => if (env.kindOf id == some .local && pos.line == px.line) = true then some id else none
      | _ => none) [.Name x px, .Name y py]) = [x, y] := by
    simp [List.filterMap, kx, ky, ll]
  unfold swappedStores
  dsimp only
  split
  · rename_i c1
    rw [kb] at c1
    exact absurd c1 (by simp)
  · split
    · rename_i c2
      exact absurd (c2.symm.trans hs) Bool.noConfusion
    · split
      · rename_i c3
        exfalso
        have e2 : ((([Expr.Name x px, Expr.Name y py] : List Expr).head?.map (·.pos.line)).getD 0) = px.line := rfl
        rw [e2] at c3
        generalize hfm : List.filterMap _ [Expr.Name x px, Expr.Name y py] = names at c3
        rw [hfm.symm.trans fm, ed] at c3
        exact absurd c3 (by simp)
      · split
        · rename_i c4
          rw [hf] at c4; cases c4
        · split
          · rename_i c5
            rw [hc] at c5; cases c5
          · exact congrArg (fun z => pure (some z)) fm
end Ev

set_option Elab.async false
set_option linter.all false
set_option autoImplicit false
set_option maxRecDepth 100000
namespace Ev
open PySem PySem.Spec L2

section
variable {X : Cx} {B : Tb} {Z : St → XK} {C : C} {a b c : E} {x y z : Expr} {pos : Pos}
abbrev PSv (X : Cx) (B : Tb) (Z : St → XK) (C : Ev.C) (st : Stmt) (t : T) : Prop := PS X st (rdB B Z (evB C t))
abbrev PSsv (X : Cx) (B : Tb) (Z : St → XK) (C : Ev.C) (sts : List Stmt) (t : T) : Prop := PSs X sts (rdB B Z (evB C t))
theorem ResS.from {ρ ρ1 : Pl} {n n1 : Nat} {H H1 : Hp} {r : RS} {D : Ends} (e : Ext ρ n H ρ1 n1 H1) (h : ResS B ρ n H r D Z) : ResS B ρ1 n1 H1 r D Z := by
  match r, h with
  | .ok (.nx _) _, h => exact fun ρ' H' v e' => h ρ' H' v (e.trans e')
  | .ok (.bk _) _, h => exact fun ρ' H' v e' => h ρ' H' v (e.trans e')
  | .ok (.ct _) _, h => exact fun ρ' H' v e' => h ρ' H' v (e.trans e')
  | .ok (.rt _) _, h => exact fun ρ' H' v e' => h ρ' H' v (e.trans e')
  | .exc _ _ _ _, h => exact fun ρ' H' v d vfs e' => h ρ' H' v d vfs (e.trans e')
  | .fail, h => exact h
/-- where a piece ends normally, the next goes on -/
def Next (B : Tb) (Z : St → XK) (ρ : Pl) (n : Nat) (H : Hp) (D : Ends) (f : Env → S → RS) (σ : St) (H1 : Hp) : Prop := ∃ (ρ1 : Pl) (s1 : S) (e1 : Env), Ext ρ n H ρ1 s1.size H1 ∧ Rel B ρ1 s1 H1 ∧ EnvD B ρ1 s1.size H1 e1 σ ∧ ResS B ρ n H (f e1 s1) D Z
theorem ResS.thn {ρ : Pl} {n : Nat} {H : Hp} {r : RS} {D : Ends} {f : Env → S → RS} (h : ResS B ρ n H (r.thn f) D Z) : ResS B ρ n H r { D with nx := Next B Z ρ n H D f } Z := by
  match r, h with
  | .ok (.nx e1) s1, h => exact fun ρ' H' σ x q ed => ⟨ρ', s1, e1, x, q, ed, h⟩
  | .ok (.bk _) _, h => exact h
  | .ok (.ct _) _, h => exact h
  | .ok (.rt _) _, h => exact h
  | .exc _ _ _ _, h => exact h
  | .fail, h => exact h
theorem ResS.turn {ρ : Pl} {n : Nat} {H : Hp} {r : RS} {D : Ends} {f : Env → S → RS} (h : ResS B ρ n H (r.turn f) D Z) : ResS B ρ n H r { D with nx := Next B Z ρ n H D f, ct := Next B Z ρ n H D f, bk := D.nx } Z := by
  match r, h with
  | .ok (.nx e1) s1, h => exact fun ρ' H' σ x q ed => ⟨ρ', s1, e1, x, q, ed, h⟩
  | .ok (.ct e1) s1, h => exact fun ρ' H' σ x q ed => ⟨ρ', s1, e1, x, q, ed, h⟩
  | .ok (.bk _) _, h => exact h
  | .ok (.rt _) _, h => exact h
  | .exc _ _ _ _, h => exact h
  | .fail, h => exact h
theorem ResS.lift {α β : Type} {DX : Pl → Nat → Hp → α → β → Prop} {ρ : Pl} {n : Nat} {H : Hp} {r : R α} {e : Env} {σ : St} {D : Ends} {f : α → S → RS} (ed : EnvD B ρ n H e σ) (h : ResS B ρ n H (lift r e f) D Z) :
    Res B DX ρ n H r (fun v H1 => ∃ (ρ1 : Pl) (s1 : S) (a : α), Ext ρ n H ρ1 s1.size H1 ∧ Rel B ρ1 s1 H1 ∧ DX ρ1 s1.size H1 a v ∧ ResS B ρ1 s1.size H1 (f a s1) D Z) (Z σ) := by
  match r, h with
  | .ok a s1, h => exact fun ρ' H' v x q d => ⟨ρ', s1, a, x, q, d, ResS.from x h⟩
  | .exc c fs s1, h => exact fun ρ' H' d vfs x q z1 z2 => h ρ' H' σ d vfs x q (ed.ext x) z1 z2
  | .fail, h => exact h
theorem sx_nil : PSsv X B Z C [] .nil := PSs.weak pss_nil fun D σ H ⟨ρ, s, e, r, ed, h⟩ => h ρ H σ Ext.refl r ed
theorem sx_cons {st : Stmt} {sts : List Stmt} {t u : T} (h1 : PSv X B Z C st t) (h2 : PSsv X B Z C sts u) : PSsv X B Z C (st :: sts) (.cons t u) :=
  PSs.weak (pss_cons h1 (PSs.weak h2 (t' := fun D σ H => ∃ (ρ : Pl) (n : Nat) (H0 : Hp), Next B Z ρ n H0 D (fun e1 s1 => evB C u e1 s1) σ H) fun D σ H ⟨ρ, n, H0, ρ1, s1, e1, x1, r1, ed1, h1⟩ => ⟨ρ1, s1, e1, r1, ed1, ResS.from x1 h1⟩)) fun D σ H ⟨ρ, s, e, r, ed, h⟩ => by
    refine ⟨ρ, s, e, r, ed, ?_⟩
    have k := ResS.thn (show ResS B ρ s.size H ((evB C t e s).thn fun e1 s1 => evB C u e1 s1) D Z from h)
    revert k
    generalize evB C t e s = q
    intro k
    match q, k with
    | .ok (.nx e1) s1, k => exact fun ρ' H' σ x q ed => ⟨ρ, s.size, H, k ρ' H' σ x q ed⟩
    | .ok (.bk _) _, k => exact k
    | .ok (.ct _) _, k => exact k
    | .ok (.rt _) _, k => exact k
    | .exc _ _ _ _, k => exact k
    | .fail, k => exact k
theorem sx_pass : PSv X B Z C (.Pass pos) .pass := PS.weak ps_pass fun D σ H ⟨ρ, s, e, r, ed, h⟩ => h ρ H σ Ext.refl r ed
theorem sx_brk : PSv X B Z C (.Break pos) .brk := PS.weak ps_break fun D σ H ⟨ρ, s, e, r, ed, h⟩ => h ρ H σ Ext.refl r ed
theorem sx_cnt : PSv X B Z C (.Continue pos) .cnt := PS.weak ps_continue fun D σ H ⟨ρ, s, e, r, ed, h⟩ => h ρ H σ Ext.refl r ed
theorem sx_doc {t : Str} {j : Nat} {p2 : Pos} : PSv X B Z C (.Expr (.Constant (.str t) j p2) pos) .pass := PS.weak ps_doc fun D σ H ⟨ρ, s, e, r, ed, h⟩ => h ρ H σ Ext.refl r ed
theorem sx_ex (ha : PEv X B Z C x a) (hc : isComp x = false) : PSv X B Z C (.Expr x pos) (.ex a) :=
  PS.weak (ps_expr ha (sw_plain hc)) fun D σ H ⟨ρ, s, e, r, ed, h⟩ => by
    refine ⟨ρ, s, e, r, ed, (ResS.lift ed h).mono ?_⟩
    rintro v1 H1 ⟨ρ1, s1, w1, x1, r1, d1, h1⟩
    exact h1 ρ1 H1 σ Ext.refl r1 (ed.ext x1)
theorem sx_ret (ha : PEv X B Z C x a) : PSv X B Z C (.Return (some x) pos) (.ret a) :=
  PS.weak (ps_ret ha) fun D σ H ⟨ρ, s, e, r, ed, h⟩ => by
    refine ⟨ρ, s, e, r, ed, (ResS.lift ed h).mono ?_⟩
    rintro v1 H1 ⟨ρ1, s1, w1, x1, r1, d1, h1⟩
    exact h1 ρ1 H1 v1 Ext.refl r1 d1
theorem sx_retN : PSv X B Z C (.Return none pos) (.ret (.k .non)) := PS.weak ps_retN fun D σ H ⟨ρ, s, e, r, ed, h⟩ => h ρ H .non Ext.refl r .non
theorem sx_ite {p q : List Stmt} {t u : T} (hc : PTv X B Z C x a) (h1 : PSsv X B Z C p t) (h2 : PSsv X B Z C q u) : PSv X B Z C (.If x p q pos) (.ite a t u) :=
  PS.weak (ps_if hc h1 h2) fun D σ H ⟨ρ, s, e, r, ed, h⟩ => by
    refine ⟨ρ, s, e, r, ed, (ResS.lift ed h).mono ?_⟩
    rintro v1 H1 ⟨ρ1, s1, w1, x1, r1, d1, h1⟩
    subst d1
    cases w1 with
    | true => exact iteT ⟨ρ1, s1, e, r1, ed.ext x1, h1⟩
    | false => exact iteF ⟨ρ1, s1, e, r1, ed.ext x1, h1⟩
/-! ### targets -/
def DE (B : Tb) : Pl → Nat → Hp → Env → St → Prop := fun ρ n H e σ => EnvD B ρ n H e σ
def gT (B : Tb) (C : Ev.C) (tg : Tg) : TGs := fun vs σ H Q => ∃ (ρ : Pl) (s : S) (e : Env) (ws : List W), Rel B ρ s H ∧ EnvD B ρ s.size H e σ ∧ DenL B ρ s.size H ws vs ∧ Res B (DE B) ρ s.size H (asgW C tg ws e s) (fun σ' H' => Q σ' H') fun _ _ _ => False
theorem one_of {ws : List W} {ρ : Pl} {n : Nat} {H : Hp} {v : V} (d : DenL B ρ n H ws [v]) : ∃ w, ws = [w] ∧ Den B ρ n H w v := by
  cases d with
  | cons h t => cases t; exact ⟨_, rfl, h⟩
theorem pg_ptT {p : Pt} (h : PG X x (fun v => gP B p [v])) : PG X x (fun v => gT B C (.pt p) [v]) := PG.weak h fun v σ H Q ⟨ρ, s, e, ws, r, ed, d, h⟩ => by
  obtain ⟨w, rfl, dw⟩ := one_of d
  have h' : Res B (DE B) ρ s.size H (optR (putP s p [w] e) s) (fun σ' H' => Q σ' H') fun _ _ _ => False := h
  cases q : putP s p [w] e with
  | none => rw [q] at h'; exact h'.elim
  | some e' =>
    rw [q] at h'
    exact ⟨ρ, s, e, [w], e', r, ed, d, q, fun σ' _ ed' => h' ρ H σ' Ext.refl r ed'⟩
theorem setAttr_den {ρ : Pl} {s s' : S} {H : Hp} {o w : W} {f : Nat} {nm : Str} {vo v : V} (kls : ∀ c, (C.makes c).isSome = true → Kls X B c) (hf : B.fn[f]? = some nm) (r : Rel B ρ s H) (d : Den B ρ s.size H o vo) (dw : Den B ρ s.size H w v) (e : setAttr C s o f w = some s') :
    ∃ cc dx vfs a, vo = .ref a ∧ H a = some (.ins (B.ca cc) dx vfs) ∧ Cls X.K (B.ca cc) ∧ NoAttr X.K (B.ca cc) nm ∧ vfs.length < 1000 ∧ s'.size = s.size ∧ Ext ρ s.size H ρ s.size (upd H a (.ins (B.ca cc) dx (putF nm v vfs))) ∧ Rel B ρ s' (upd H a (.ins (B.ca cc) dx (putF nm v vfs))) := by
  cases d <;> first | exact nomatch (show (none : Option S) = some s' from e) | skip
  rename_i i hi
  have e' : (match s.get i with
    | some (.ins c fs) => if (C.makes c).isSome && decide (fs.length < 900) then some (s.set i (.ins c (putW f w fs))) else none
    | _ => none) = some s' := e
  split at e'
  · rename_i cc fs q
    split at e'
    · rename_i hc
      rw [Bool.and_eq_true, decide_eq_true_eq] at hc
      cases Option.some.inj e'
      obtain ⟨dx, vfs, hv, fd⟩ := r.ob i _ q
      have xw := Ext.write (o := .ins (B.ca cc) dx (putF nm v vfs)) r hi
      refine ⟨cc, dx, vfs, ρ i, rfl, hv, (kls cc hc.1).cl, (kls cc hc.1).no f nm hf, by rw [← fd.length]; omega, S.size_set, xw, r.write hi ⟨dx, _, upd_same, ?_⟩⟩
      exact (FsD.put r.nd hf dw fd).ext xw
    · cases e'
  · cases e'
theorem pg_attr {f : Nat} {nm : Str} (kls : ∀ c, (C.makes c).isSome = true → Kls X B c) (hf : B.fn[f]? = some nm) (ha : PEv X B Z C x a) : PG X (.Attribute x nm pos) (fun v => gT B C (.attr a f) [v]) := by
  refine ⟨fun pins st σ H v u Q I rv ⟨ρ, s, e, ws, r, ed, d, h⟩ => ?_⟩
  obtain ⟨w, rfl, dw⟩ := one_of d
  have h' : Res B (DE B) ρ s.size H (((sem C a).e e s).calm.bind fun x s1 => optR ((setAttr C s1 x f w).map fun _ => e) ((setAttr C s1 x f w).getD s1)) (fun σ' H' => Q σ' H') fun _ _ _ => False := h
  obtain ⟨xw, s1, q1, h2⟩ := calm_res (D := DW B) h'
  rw [arm_assign_Attribute]
  refine wpAny_bind (wpAny_holding (thn (ha.run pins st σ H (fun y H1 => ∃ ρ1, Ext ρ s.size H ρ1 s1.size H1 ∧ Rel B ρ1 s1 H1 ∧ Den B ρ1 s1.size H1 xw y) I ⟨ρ, s, e, r, ed, by rw [q1]; exact fun ρ' H' y x1 r1 d1 => ⟨ρ', x1, r1, d1⟩⟩) ?_))
  rintro ov st1 ⟨y, H1, I1, ry, ρ1, x1, r1, d1⟩
  cases q2 : setAttr C s1 xw f w with
  | none => rw [q2] at h2; exact h2.elim
  | some s2 =>
    rw [q2] at h2
    obtain ⟨cc, dx, vfs, pA, rfl, hv, k1, k2, k3, sz, xt, rt⟩ := setAttr_den kls hf r1 d1 (dw.ext x1) q2
    obtain rfl : ov = Value.ref pA := ry
    refine wpAny_bind (wpAny_standAt (wpAny_bind (wpAny_holding (setattr_ok I1 hv k1 k2 k3 rv fun st2 I2 => wpAny_release ⟨σ, _, I2, ?_⟩))))
    have h3 : ∀ (ρ' : Pl) (H' : Hp) (σ' : St), Ext ρ s.size H ρ' s2.size H' → Rel B ρ' s2 H' → EnvD B ρ' s2.size H' e σ' → Q σ' H' := h2
    refine h3 ρ1 _ σ ?_ rt ?_
    · rw [sz]; exact x1.trans xt
    · rw [sz]; exact (ed.ext x1).ext xt
theorem pg_subT (hK : B.K = X.K) (ha : PEv X B Z C x a) (hb : PEv X B Z C y b) (hy : notSlice y = true) : PG X (.Subscript x y pos) (fun v => gT B C (.sub a b) [v]) := by
  have hsub : PG X (.Subscript x y pos) (gSub (rdE B Z (sem C a).e) (rdE B Z (sem C b).e) rSetL) := pg_sub ha hb set_list (fun v => by cases y <;> first | rfl | exact nomatch hy)
  refine PG.weak hsub ?_
  rintro v σ H Q ⟨ρ, s, e, ws, r, ed, d, h⟩
  obtain ⟨w, rfl, dw⟩ := one_of d
  have h' : Res B (DE B) ρ s.size H (((sem C a).e e s).calm.bind fun x s1 => ((sem C b).e e s1).calm.bind fun y s2 => optR ((setItem s2 x y w).map fun _ => e) ((setItem s2 x y w).getD s2)) (fun σ' H' => Q σ' H') fun _ _ _ => False := h
  obtain ⟨xw, s1, q1, h2⟩ := calm_res (D := DW B) h'
  obtain ⟨yw, s2, q2, h3⟩ := calm_res (D := DW B) h2
  refine ⟨ρ, s, e, r, ed, ?_⟩
  rw [q1]
  intro ρ1 H1 vo x1 r1 d1
  refine ⟨ρ1, s1, e, r1, ed.ext x1, ?_⟩
  rw [q2]
  intro ρ2 H2 vi x2 r2 d2
  cases q3 : setItem s2 xw yw w with
  | none => rw [q3] at h3; exact h3.elim
  | some s3 =>
    rw [q3] at h3
    replace h3 : ∀ (ρ' : Pl) (H' : Hp) (σ' : St), Ext ρ s.size H ρ' s3.size H' → Rel B ρ' s3 H' → EnvD B ρ' s3.size H' e σ' → Q σ' H' := h3
    cases d1 <;> first | exact nomatch (show (none : Option S) = some s3 from q3) | skip
    rename_i i hi
    cases d2 <;> first | exact nomatch (show (none : Option S) = some s3 from q3) | skip
    rename_i j
    have q4 : (match s2.get i with
      | some (.lst ws) => (setAt ws j w).map fun ws' => s2.set i (.lst ws')
      | _ => none) = some s3 := q3
    split at q4
    · rename_i us qo
      have q5 : ((if decide (0 ≤ j) && decide (j < 2 ^ 62) && decide (j.toNat < us.length) then some (us.set j.toNat w) else none).map fun ws' => s2.set i (.lst ws')) = some s3 := q4
      split at q5
      · rename_i hc
        rw [Bool.and_eq_true, Bool.and_eq_true, decide_eq_true_eq, decide_eq_true_eq, decide_eq_true_eq] at hc
        obtain ⟨⟨c1, c2⟩, c3⟩ := hc
        cases Option.some.inj q5
        obtain ⟨zs, hz, lz⟩ := r2.ob i _ qo
        have eρ : ρ2 i = ρ1 i := x2.eq i hi
        have hi2 := Rel.lt qo
        have xw := Ext.write (o := .lst (zs.set j.toNat v)) r2 hi2
        have rt : Rel B ρ2 (s2.set i (.lst (us.set j.toNat w))) (upd H2 (ρ2 i) (.lst (zs.set j.toNat v))) := r2.write hi2 ⟨_, upd_same, (lz.ext xw).set (((dw.ext x1).ext x2).ext xw) j.toNat⟩
        refine ⟨ρ1 i, zs, j, j.toNat, rfl, rfl, by rw [← eρ]; exact hz, ?_, ?_⟩
        · unfold ixN
          have hl : j.toNat < zs.length := by rw [← lz.length]; exact c3
          rw [if_pos c1, if_pos (by omega)]
        · rw [S.size_set] at h3
          rw [← eρ]
          exact h3 ρ2 _ σ ((x1.trans x2).trans xw) rt (((ed.ext x1).ext x2).ext xw)
      · cases q5
    · cases q4
/-- several targets -/
theorem calm_ne {α β : Type} {r : R α} {f : α → S → R β} {cc : Nat} {fs : List (Nat × W)} {s1 : S} (h : ∀ a s, f a s ≠ .exc cc fs s1) : r.calm.bind f ≠ .exc cc fs s1 := by
  cases r with
  | ok a s => exact h a s
  | exc c fs s => exact fun z => nomatch (show (R.fail : R β) = .exc cc _ s1 from z)
  | fail => exact fun z => nomatch (show (R.fail : R β) = .exc cc _ s1 from z)
theorem optR_ne {α : Type} {o : Option α} {s : S} {cc : Nat} {fs : List (Nat × W)} {s1 : S} : optR o s ≠ .exc cc fs s1 := by
  cases o <;> exact fun z => nomatch z
theorem asgW_ne {cc : Nat} {fs : List (Nat × W)} {s1 : S} : ∀ (t : Tg) (ws : List W) (e : Env) (s : S), asgW C t ws e s ≠ .exc cc fs s1
  | .pt p, [], e, s => fun z => nomatch (show (R.fail : R Env) = .exc cc fs s1 from z)
  | .pt p, [w], e, s => optR_ne
  | .pt p, _ :: _ :: _, e, s => fun z => nomatch (show (R.fail : R Env) = .exc cc fs s1 from z)
  | .attr o f, [], e, s => fun z => nomatch (show (R.fail : R Env) = .exc cc fs s1 from z)
  | .attr o f, [w], e, s => calm_ne fun _ _ => optR_ne
  | .attr o f, _ :: _ :: _, e, s => fun z => nomatch (show (R.fail : R Env) = .exc cc fs s1 from z)
  | .sub o f, [], e, s => fun z => nomatch (show (R.fail : R Env) = .exc cc fs s1 from z)
  | .sub o f, [w], e, s => calm_ne fun _ _ => calm_ne fun _ _ => optR_ne
  | .sub o f, _ :: _ :: _, e, s => fun z => nomatch (show (R.fail : R Env) = .exc cc fs s1 from z)
  | .tup t, [], e, s => fun z => nomatch (show (R.fail : R Env) = .exc cc fs s1 from z)
  | .tup t, [w], e, s => by
    show (match items s w with
      | some ws => asgW C t ws e s
      | none => .fail) ≠ _
    split
    · exact asgW_ne t _ e s
    · exact fun z => nomatch z
  | .tup t, _ :: _ :: _, e, s => fun z => nomatch (show (R.fail : R Env) = .exc cc fs s1 from z)
  | .nil, [], e, s => fun z => nomatch (show (R.ok e s : R Env) = .exc cc fs s1 from z)
  | .nil, _ :: _, e, s => fun z => nomatch (show (R.fail : R Env) = .exc cc fs s1 from z)
  | .cons a b, [], e, s => fun z => nomatch (show (R.fail : R Env) = .exc cc fs s1 from z)
  | .cons a b, w :: ws, e, s => by
    show (asgW C a [w] e s).bind (fun e1 s1 => asgW C b ws e1 s1) ≠ _
    cases q : asgW C a [w] e s with
    | ok e1 s2 => exact asgW_ne b ws e1 s2
    | exc c' fs' s2 =>
      intro z
      cases (show (R.exc c' fs' s2 : R Env) = .exc cc fs s1 from z)
      exact asgW_ne a [w] e s q
    | fail => exact fun z => nomatch (show (R.fail : R Env) = .exc cc fs s1 from z)
theorem pgs_nilT : PGs X [] (gT B C .nil) := PGs.weak pgs_nil fun vs σ H Q ⟨ρ, s, e, ws, r, ed, d, h⟩ => by
  cases ws with
  | cons _ _ => exact (show False from h).elim
  | nil =>
    cases d
    exact ⟨rfl, h ρ H σ Ext.refl r ed⟩
theorem pgs_consT {xs : List Expr} {t u : Tg} (h1 : PG X x (fun v => gT B C t [v])) (h2 : PGs X xs (gT B C u)) (hs : (assignEach (x :: xs) X.env).map (·.2) = assign x X.env :: (assignEach xs X.env).map (·.2)) : PGs X (x :: xs) (gT B C (.cons t u)) :=
  PGs.weak (pgs_cons h1 h2 hs) fun vs σ H Q ⟨ρ, s, e, ws, r, ed, d, h⟩ => by
    cases ws with
    | nil => exact (show False from h).elim
    | cons w ws =>
      cases d with
      | cons dw dl =>
        refine ⟨_, _, rfl, ρ, s, e, [w], r, ed, .cons dw .nil, ?_⟩
        have h' : Res B (DE B) ρ s.size H ((asgW C t [w] e s).bind fun e1 s1 => asgW C u ws e1 s1) (fun σ' H' => Q σ' H') fun _ _ _ => False := h
        refine (Res.bind (D := DE B) h').mono ?_
        rintro σ1 H1 ⟨ρ1, s1, e1, x1, r1, ed1, h1⟩
        exact ⟨ρ1, s1, e1, ws, r1, ed1, dl.ext x1, h1⟩
theorem pg_tupT {xs : List Expr} {k : Nat} {t : Tg} (hK : B.K = X.K) (hc : X.calm = true) (h : PGs X xs (gT B C t)) (hn : (assignEach xs X.env).length = xs.length) (hst : (assignEach xs X.env).findIdx? (·.1) = none) (hl : ∀ ws e s, (∃ e1 s1, asgW C t ws e s = .ok e1 s1) → ws.length = xs.length) :
    PG X (.Tuple xs k pos) (fun v => gT B C (.tup t) [v]) := by
  refine ⟨fun pins st σ H v u Q I rv ⟨ρ, s, e, ws, r, ed, d, h0⟩ => ?_⟩
  obtain ⟨w, rfl, dw⟩ := one_of d
  have h1 : Res B (DE B) ρ s.size H (match items s w with
    | some ws => asgW C t ws e s
    | none => .fail) (fun σ' H' => Q σ' H') fun _ _ _ => False := h0
  cases q : items s w with
  | none => rw [q] at h1; exact h1.elim
  | some us =>
    rw [q] at h1
    replace h1 : Res B (DE B) ρ s.size H (asgW C t us e s) (fun σ' H' => Q σ' H') fun _ _ _ => False := h1
    have lu : us.length = xs.length := by
      refine hl us e s ?_
      cases q2 : asgW C t us e s with
      | ok e1 s1 => exact ⟨e1, s1, rfl⟩
      | fail => rw [q2] at h1; exact h1.elim
      | exc cc fs s1 => exact absurd q2 (asgW_ne t us e s)
    obtain ⟨pA, vs, rfl, hq, dl⟩ := items_den r dw q
    have lv : vs.length = xs.length := by rw [← dl.length]; exact lu
    rcases hq with hq | hq
    · exact (pg_lst (n := xs.length) hc h hn hst).run pins st σ H _ u Q I rv ⟨pA, vs, rfl, hK ▸ hq, lv, ρ, s, e, us, r, ed, dl, h1⟩
    · exact (pg_tup (n := xs.length) hc h hn hst).run pins st σ H _ u Q I rv ⟨pA, vs, rfl, hK ▸ hq, lv, ρ, s, e, us, r, ed, dl, h1⟩
end
end Ev

set_option Elab.async false
set_option linter.all false
set_option autoImplicit false
set_option maxRecDepth 100000
namespace Ev
open PySem PySem.Spec L2

section
variable {X : Cx} {B : Tb} {Z : St → XK} {C : C} {a b c : E} {x y z : Expr} {pos : Pos}
theorem asg_post {t : Tg} {D : Ends} {σ : St} {H : Hp} (h : rdB B Z (evB C (.asg t a)) D σ H) : tAsg (rdE B Z (sem C a).e) (fun v => gT B C t [v]) D σ H := by
  obtain ⟨ρ, s, e, r, ed, h⟩ := h
  refine ⟨ρ, s, e, r, ed, (ResS.lift ed h).mono ?_⟩
  rintro v1 H1 ⟨ρ1, s1, w1, x1, r1, d1, h1⟩
  refine ⟨ρ1, s1, e, [w1], r1, ed.ext x1, .cons d1 .nil, ?_⟩
  have ed1 := ed.ext x1
  replace h1 : ResS B ρ1 s1.size H1 (lift (asgW C t [w1] e s1) e fun e1 s2 => .ok (.nx e1) s2) D Z := h1
  cases q : asgW C t [w1] e s1 with
  | fail => rw [q] at h1; exact h1.elim
  | exc cc fs s2 => exact absurd q (asgW_ne t [w1] e s1)
  | ok e1 s2 =>
    rw [q] at h1
    exact fun ρ' H' σ' x' r' ed' => h1 ρ' H' σ' x' r' ed'
theorem sx_asg {t : Tg} {tg : Expr} (ha : PEv X B Z C x a) (hg : PG X tg (fun v => gT B C t [v])) (hs : swapsWith x (some tg) pos.line X.env = pure false) (hw : swappedStores [tg] x X.env = pure none) (h1 : (assignEach [tg] X.env).map (·.2) = [assign tg X.env]) : PSv X B Z C (.Assign [tg] x pos) (.asg t a) :=
  PS.weak (ps_asg ha hg hs hw h1) fun D σ H h => asg_post h
/-- name = [..] on one line -/
theorem sx_asgLc {i : Nat} {st : Stmt} (h : PS X st (tAsg (rdE B Z (sem C a).e) (gName i))) : PSv X B Z C st (.asg (.pt (.n i)) a) :=
  PS.weak h fun D σ H ⟨ρ, s, e, r, ed, h⟩ => by
    refine ⟨ρ, s, e, r, ed, (ResS.lift ed h).mono ?_⟩
    rintro v1 H1 ⟨ρ1, s1, w1, x1, r1, d1, h1⟩
    exact h1 ρ1 H1 _ Ext.refl r1 ((ed.ext x1).set d1)
/-- two names at once -/
theorem sx_par {N : List Str} {sc sto : Scope} {i j : Nat} {nx ny : Str} {px py pt p2 : Pos} {k k2 : Nat} (T : Sc X N sc sto) (hc : X.calm = true) (hi : N[i]? = some nx) (hj : N[j]? = some ny) (hxl : sc.names.lookup nx = some .local) (hyl : sc.names.lookup ny = some .local)
    (hkind : sc.kind = .function) (hl : (px.line == py.line) = true) (hxy : (nx == ny) = false) (hux : unstarred x = true) (huy : unstarred y = true) (hf : [x, y].all (foldedForSure 8) = false) (hcn : [x, y].all (constantsAlone 8) = false) (ha : PEv X B Z C x a) (hb : PEv X B Z C y b) :
    PSv X B Z C (.Assign [.Tuple [.Name nx px, .Name ny py] k pt] (.Tuple [x, y] k2 p2) pos) (.asg (.pt (.t (.cons (.n i) (.cons (.n j) .nil)))) (.tup (.cons a (.cons b .nil)))) := by
  have hij : i ≠ j := fun z => by
    subst z
    rw [hi] at hj
    cases hj
    rw [beq_self_eq_true] at hxy
    cases hxy
  refine PS.weak (ps_par hc (by rw [T.hN]; exact T.nd) (by rw [T.hN]; exact hi) (by rw [T.hN]; exact hj) hij (by rw [T.scp]; exact hxl) (by rw [T.scp]; exact hyl) (pa_cons ha (pa_cons hb pa_nil (star_plain huy _ _)) (star_plain hux _ _)) (sw_two (by rw [T.scp]; exact hkind) (by rw [T.scp]; exact hxl) (by rw [T.scp]; exact hyl) hl hxy hux huy hf hcn)) ?_
  rintro D σ H ⟨ρ, s, e, r, ed, h⟩
  have h0 : ResS B ρ s.size H (lift ((((sem C a).e e s).bind fun w s1 => ((sem C b).e e s1).bind fun u s2 => if [w, u].length ≤ lim then .ok (.tup [w, u]) s2 else .fail)) e fun w s1 => lift (asgW C (.pt (.t (.cons (.n i) (.cons (.n j) .nil)))) [w] e s1) e fun e1 s2 => .ok (.nx e1) s2) D Z := by
    have key : (sem C (.tup (.cons a (.cons b .nil)))).e e s = ((sem C a).e e s).bind fun w s1 => ((sem C b).e e s1).bind fun u s2 => if [w, u].length ≤ lim then .ok (.tup [w, u]) s2 else .fail := arg2 (C := C) (b := a) (c := b) (e := e) (s := s) (f := fun ws s => if ws.length ≤ lim then R.ok (W.tup ws) s else R.fail)
    rw [← key]
    exact h
  refine ⟨ρ, s, e, r, ed, ?_⟩
  cases qa : (sem C a).e e s with
  | fail => rw [qa] at h0; exact h0.elim
  | exc cc fs s1 =>
    rw [qa] at h0
    exact fun ρ' H' d vfs x' q z1 z2 => h0 ρ' H' σ d vfs x' q (ed.ext x') z1 z2
  | ok w s1 =>
    rw [qa] at h0
    replace h0 : ResS B ρ s.size H (lift (((sem C b).e e s1).bind fun u s2 => if [w, u].length ≤ lim then .ok (.tup [w, u]) s2 else .fail) e fun w s1 => lift (asgW C (.pt (.t (.cons (.n i) (.cons (.n j) .nil)))) [w] e s1) e fun e1 s2 => .ok (.nx e1) s2) D Z := h0
    intro ρ1 H1 v1 x1 r1 d1
    refine ⟨ρ1, s1, e, r1, ed.ext x1, ?_⟩
    cases qb : (sem C b).e e s1 with
    | fail => rw [qb] at h0; exact h0.elim
    | exc cc fs s2 =>
      rw [qb] at h0
      exact fun ρ' H' d vfs x' q z1 z2 => h0 ρ' H' σ d vfs (x1.trans x') q ((ed.ext x1).ext x') z1 z2
    | ok u s2 =>
      rw [qb] at h0
      have hlim : [w, u].length ≤ lim := by show 2 ≤ 16777216; omega
      replace h0 : ResS B ρ s.size H (lift (if [w, u].length ≤ lim then R.ok (W.tup [w, u]) s2 else R.fail) e fun w s1 => lift (asgW C (.pt (.t (.cons (.n i) (.cons (.n j) .nil)))) [w] e s1) e fun e1 s2 => .ok (.nx e1) s2) D Z := h0
      rw [if_pos hlim] at h0
      intro ρ2 H2 v2 x2 r2 d2
      refine ⟨v1, v2, rfl, ?_⟩
      exact h0 ρ2 H2 _ (x1.trans x2) r2 ((((ed.ext x1).ext x2).set (d1.ext x2)).set d2)
/-! ### operators in place -/
def augV : BinO → V → V → Hp → VK → Prop
  | .add => rAdd
  | .sub => L2.rSub
  | _ => fun _ _ _ _ => False
theorem ip_aug (o : BinO) : InOp X o.py (augV o) := by
  cases o with
  | add => exact in_add
  | sub => exact in_sub
  | _ => exact fun pins s σ H x y u v Q I rx ry h => h.elim
theorem aug_den {o : BinO} {ρ : Pl} {s : S} {H : Hp} {w u : W} {v v2 : V} {Q : VK} {Zx : XK} (r : Rel B ρ s H) (d1 : Den B ρ s.size H w v) (d2 : Den B ρ s.size H u v2) (h : Res B (DW B) ρ s.size H (augW s o w u) Q Zx) : augV o v v2 H Q := by
  cases o <;> first | (cases w <;> cases u <;> exact (show False from h).elim) | skip
  all_goals
    cases w <;> first | (cases u <;> exact (show False from h).elim) | skip
    cases u <;> first | exact (show False from h).elim | skip
    cases d1
    cases d2
    exact ⟨_, _, rfl, rfl, Res.here r h .int⟩
theorem sx_aug {N : List Str} {sc sto : Scope} {o : BinO} {i : Nat} {nm : Str} {p2 : Pos} (T : Sc X N sc sto) (hi : N[i]? = some nm) (hl : isLoc sto nm = true) (ha : PEv X B Z C x a) : PSv X B Z C (.AugAssign (.Name nm p2) o.py x pos) (.aug i o a) := by
  obtain ⟨l1, l2⟩ := T.sto nm hl
  refine PS.weak (ps_aug (by rw [T.hN]; exact T.nd) (by rw [T.hN]; exact hi) (by rw [T.scp]; exact l1) ha (fun pins s σ H x y u v Q I rx ry h => ip_aug (X := X) o pins s σ H x y u v Q I rx ry h) (by rw [T.scp]; exact l2)) ?_
  rintro D σ H ⟨ρ, s, e, r, ed, h⟩
  replace h : ResS B ρ s.size H (match e[i]? with
    | some (some x) => if isLam x then .fail else lift ((sem C a).e e s) e fun y s1 => lift (augW s1 o x y) e fun z s2 => .ok (.nx (e.set i (some z))) s2
    | _ => .fail) D Z := h
  split at h
  · rename_i w hw
    by_cases c : isLam w = true
    · rw [if_pos c] at h
      exact (show False from h).elim
    rw [if_neg c] at h
    obtain ⟨v, hv, d⟩ := ed.2 i w hw
    replace d := d.den (Bool.not_eq_true _ ▸ c)
    refine ⟨v, hv, ρ, s, e, r, ed, (ResS.lift ed h).mono ?_⟩
    rintro v1 H1 ⟨ρ1, s1, w1, x1, r1, d1, h1⟩
    refine aug_den (Zx := Z σ) r1 (d.ext x1) d1 ((ResS.lift (DX := DW B) (ed.ext x1) h1).mono ?_)
    rintro v2 H2 ⟨ρ2, s2, w2, x2, r2, d2, h2⟩
    exact h2 ρ2 H2 _ Ext.refl r2 (((ed.ext x1).ext x2).set d2)
  · exact h.elim
theorem putF_len {f : Str} {v : V} : ∀ {fs : List (Str × V)}, (putF f v fs).length ≤ fs.length + 1 := fun {fs} => length_putF f v fs
theorem sx_auga {o : BinO} {f : Nat} {nm : Str} {p2 : Pos} (kls : ∀ c, (C.makes c).isSome = true → Kls X B c) (hf : B.fn[f]? = some nm) (ha : PEv X B Z C x a) (hb : PEv X B Z C y b) : PSv X B Z C (.AugAssign (.Attribute x nm p2) o.py y pos) (.auga a f o b) := by
  refine PS.weak (ps_fldaug ha hb (ip_aug o)) ?_
  rintro D σ H ⟨ρ, s, e, r, ed, h⟩
  refine ⟨ρ, s, e, r, ed, (ResS.lift ed h).mono ?_⟩
  rintro v1 H1 ⟨ρ1, s1, w1, x1, r1, d1, h1⟩
  replace h1 : ResS B ρ1 s1.size H1 (match clsAt s1 w1 with
    | none => .fail
    | some c => lift (attrW C s1 w1 f) e fun y s2 => lift ((sem C b).e e s2) e fun z s3 => lift (augW s3 o y z) e fun r s4 =>
        if clsAt s4 w1 = some c then (match setAttr C s4 w1 f r with
          | some s5 => .ok (.nx e) s5
          | none => .fail) else .fail) D Z := h1
  cases qc : clsAt s1 w1 with
  | none => rw [qc] at h1; exact (show False from h1).elim
  | some cc =>
  rw [qc] at h1
  cases w1 <;> first | exact nomatch (show (none : Option Nat) = some cc from qc) | skip
  rename_i i
  cases d1 with
  | ref hi =>
    have cls_of : ∀ {s : S}, clsAt s (.ref i) = some cc → ∃ fs, s.get i = some (.ins cc fs) := fun {s} q => by
      have q' : (match s.get i with
        | some (.ins c _) => some c
        | _ => none) = some cc := q
      split at q'
      · rename_i c fs qo
        cases Option.some.inj q'
        exact ⟨fs, qo⟩
      · cases q'
    obtain ⟨fs, qo⟩ := cls_of qc
    have ea : attrW C s1 (.ref i) f = if (C.makes cc).isSome then optR (fs.lookup f) s1 else .fail := by
      show (match s1.get i with
        | some (.ins c fs) => if (C.makes c).isSome then optR (fs.lookup f) s1 else .fail
        | _ => .fail) = _
      rw [qo]
    replace h1 : ResS B ρ1 s1.size H1 (lift (attrW C s1 (.ref i) f) e fun y s2 => lift ((sem C b).e e s2) e fun z s3 => lift (augW s3 o y z) e fun r s4 =>
        if clsAt s4 (.ref i) = some cc then (match setAttr C s4 (.ref i) f r with
          | some s5 => .ok (.nx e) s5
          | none => .fail) else .fail) D Z := h1
    rw [ea] at h1
    by_cases hc : (C.makes cc).isSome = true
    · rw [if_pos hc] at h1
      obtain ⟨dx, vfs, hv, fd⟩ := r1.ob i _ qo
      cases ql : fs.lookup f with
      | none => rw [ql] at h1; exact (show False from h1).elim
      | some w0 =>
        rw [ql] at h1
        replace h1 : ResS B ρ1 s1.size H1 (lift ((sem C b).e e s1) e fun z s3 => lift (augW s3 o w0 z) e fun r s4 =>
          if clsAt s4 (.ref i) = some cc then (match setAttr C s4 (.ref i) f r with
            | some s5 => .ok (.nx e) s5
            | none => .fail) else .fail) D Z := h1
        obtain ⟨v0, hl, d0⟩ := (fd.lookup r1.nd hf).1 w0 ql
        refine ⟨ρ1 i, B.ca cc, dx, vfs, v0, rfl, hv, (kls cc hc).cl, (kls cc hc).no f nm hf, hl, ρ1, s1, e, r1, ed.ext x1, (ResS.lift (ed.ext x1) h1).mono ?_⟩
        rintro v2 H2 ⟨ρ2, s2, w2, x2, r2, d2, h2⟩
        refine aug_den (Zx := Z σ) r2 (d0.ext x2) d2 ((ResS.lift (DX := DW B) ((ed.ext x1).ext x2) h2).mono ?_)
        rintro v3 H3 ⟨ρ3, s3, w3, x3, r3, d3, h3⟩
        replace h3 : ResS B ρ3 s3.size H3 (if clsAt s3 (.ref i) = some cc then (match setAttr C s3 (.ref i) f w3 with
            | some s5 => .ok (.nx e) s5
            | none => .fail) else .fail) D Z := h3
        by_cases hcl : clsAt s3 (.ref i) = some cc
        · rw [if_pos hcl] at h3
          obtain ⟨fs3, qo3⟩ := cls_of hcl
          cases q3 : setAttr C s3 (.ref i) f w3 with
          | none => rw [q3] at h3; exact (show False from h3).elim
          | some s4 =>
            rw [q3] at h3
            have di : Den B ρ3 s3.size H3 (.ref i) (.ref (ρ1 i)) := Den.ext x3 (Den.ext x2 (.ref hi))
            obtain ⟨cc', dx', vfs', pA, ep, hv', k1, k2, k3, sz, xt, rt⟩ := setAttr_den (X := X) kls hf r3 di d3 q3
            cases ep
            obtain ⟨dx3, vfs3, hv3, fd3⟩ := r3.ob i _ qo3
            have e3 : ρ3 i = ρ1 i := (x3.eq i (Nat.lt_of_lt_of_le hi x2.le)).trans (x2.eq i hi)
            rw [e3] at hv3
            have e4 : HO.ins (B.ca cc') dx' vfs' = HO.ins (B.ca cc) dx3 vfs3 := Option.some.inj (hv'.symm.trans hv3)
            have e5 : B.ca cc' = B.ca cc := by injection e4
            rw [e5] at hv' xt rt
            refine ⟨dx', vfs', hv', k3, ?_⟩
            have h4 : ∀ (ρ' : Pl) (H' : Hp) (σ' : St), Ext ρ3 s3.size H3 ρ' s4.size H' → Rel B ρ' s4 H' → EnvD B ρ' s4.size H' e σ' → D.nx σ' H' := h3
            refine h4 ρ3 _ σ (by rw [sz]; exact xt) rt ?_
            rw [sz]
            exact (((ed.ext x1).ext x2).ext x3).ext xt
        · rw [if_neg hcl] at h3
          exact (show False from h3).elim
    · rw [if_neg hc] at h1
      exact (show False from h1).elim
end
end Ev

set_option Elab.async false
set_option linter.all false
set_option autoImplicit false
set_option maxRecDepth 100000
namespace Ev
open PySem PySem.Spec L2

section
variable {X : Cx} {B : Tb} {Z : St → XK} {C : C} {a b c : E} {x y z : Expr} {pos : Pos}
/-- what is left to do from here -/
def Here (B : Tb) (Z : St → XK) (D : Ends) (f : Env → S → RS) (σ : St) (H : Hp) : Prop := ∃ (ρ : Pl) (s : S) (e : Env), Rel B ρ s H ∧ EnvD B ρ s.size H e σ ∧ ResS B ρ s.size H (f e s) D Z
theorem Next.here {ρ : Pl} {n : Nat} {H H1 : Hp} {D : Ends} {f : Env → S → RS} {σ : St} (h : Next B Z ρ n H D f σ H1) : Here B Z D f σ H1 := by
  obtain ⟨ρ1, s1, e1, x1, r1, ed1, h1⟩ := h
  exact ⟨ρ1, s1, e1, r1, ed1, ResS.from x1 h1⟩
theorem ResS.ends {ρ : Pl} {n : Nat} {H : Hp} {r : RS} {D D' : Ends} (h : ResS B ρ n H r D Z) (k1 : ∀ σ H, D.nx σ H → D'.nx σ H) (k2 : ∀ v H, D.rt v H → D'.rt v H) (k3 : ∀ σ H, D.bk σ H → D'.bk σ H) (k4 : ∀ σ H, D.ct σ H → D'.ct σ H) : ResS B ρ n H r D' Z := by
  match r, h with
  | .ok (.nx _) _, h => exact fun ρ' H' v x q d => k1 _ _ (h ρ' H' v x q d)
  | .ok (.bk _) _, h => exact fun ρ' H' v x q d => k3 _ _ (h ρ' H' v x q d)
  | .ok (.ct _) _, h => exact fun ρ' H' v x q d => k4 _ _ (h ρ' H' v x q d)
  | .ok (.rt _) _, h => exact fun ρ' H' v x q d => k2 _ _ (h ρ' H' v x q d)
  | .exc _ _ _ _, h => exact h
  | .fail, h => exact h
theorem sx_whl {sts : List Stmt} {t : T} (hp : PassesOwn (model X.prog X.w) X.A X.env X.xe) (hc : PTv X B Z C x a) (hb : PSsv X B Z C sts t) : PSv X B Z C (.While x sts [] pos) (.whl a t) :=
  PS.weak (ps_while hp hc hb) fun D σ H h => by
    replace h : Here B Z D (fun e s => whlL (fun e s => (sem C a).t e s) (fun e s => evB C t e s) C.wf e s) σ H := h
    refine ⟨fun m => Here B Z D (fun e s => whlL (fun e s => (sem C a).t e s) (fun e s => evB C t e s) m e s), ⟨C.wf, h⟩, ?_⟩
    rintro m σ2 H2 ⟨ρ2, s2, e2, r2, ed2, h2⟩
    cases m with
    | zero => exact h2.elim
    | succ m =>
      have h3 : ResS B ρ2 s2.size H2 (lift ((sem C a).t e2 s2) e2 fun b s1 => if b then (evB C t e2 s1).turn fun e3 s3 => whlL (fun e s => (sem C a).t e s) (fun e s => evB C t e s) m e3 s3 else .ok (.nx e2) s1) D Z := h2
      refine ⟨ρ2, s2, e2, r2, ed2, (ResS.lift (DX := DB) ed2 h3).mono ?_⟩
      rintro v1 H3 ⟨ρ3, s3, b1, x3, r3, eb, h4⟩
      have eb' : b1 = v1 := eb
      subst eb'
      cases b1 with
      | false => exact iteF (h4 ρ3 H3 σ2 Ext.refl r3 (ed2.ext x3))
      | true =>
        refine iteT ⟨Here B Z D (fun e s => whlL (fun e s => (sem C a).t e s) (fun e s => evB C t e s) m e s), fun σ' H' hh => ⟨m, Nat.lt_succ_self m, hh⟩, ρ3, s3, e2, r3, ed2.ext x3, ?_⟩
        exact ResS.ends (ResS.turn h4) (fun _ _ q => q.here) (fun _ _ q => q) (fun _ _ q => q) (fun _ _ q => q.here)
theorem sx_for {p : Pt} {tg : Expr} {sts : List Stmt} {t : T} (hp : PassesOwn (model X.prog X.w) X.A X.env X.xe) (hcalm : X.calm = true) (hi : PIv X B Z C tg x a) (hg : PG X tg (fun v => gP B p [v])) (hb : PSsv X B Z C sts t) (hs : ∀ v, foldedSetIterable x X.env v = pure v) : PSv X B Z C (.For tg x sts [] pos) (.for_ p a t) :=
  PS.weak (ps_for hp hcalm hi hg hb hs) fun D σ H ⟨ρ, s, e, r, ed, h⟩ => by
    replace h : ResS B ρ s.size H (lift ((sem C a).i e s) e fun src s1 => forL (fun w e s => putP s p [w] e) (fun e s => evB C t e s) src C.wf 0 e s1) D Z := h
    refine ⟨ρ, s, e, r, ed, (ResS.lift (DX := DS B) ed h).mono ?_⟩
    rintro J H1 ⟨ρ1, s1, src, x1, r1, d1, h1⟩
    refine ⟨fun i m σ2 H2 => ∃ (ρ2 : Pl) (s2 : S) (e2 : Env), Ext ρ1 s1.size H1 ρ2 s2.size H2 ∧ Rel B ρ2 s2 H2 ∧ EnvD B ρ2 s2.size H2 e2 σ2 ∧ ResS B ρ2 s2.size H2 (forL (fun w e s => putP s p [w] e) (fun e s => evB C t e s) src m i e2 s2) D Z, ⟨C.wf, ρ1, s1, e, Ext.refl, r1, ed.ext x1, h1⟩, ?_⟩
    rintro i m σ2 H2 ⟨ρ2, s2, e2, x2, r2, ed2, h2⟩
    cases m with
    | zero => exact h2.elim
    | succ m =>
      have h3 : ResS B ρ2 s2.size H2 (match src.at s2 i with
        | none => .fail
        | some none => .ok (.nx e2) s2
        | some (some w) => (match putP s2 p [w] e2 with
          | none => .fail
          | some e1 => (evB C t e1 s2).turn fun e3 s3 => forL (fun w e s => putP s p [w] e) (fun e s => evB C t e s) src m (i + 1) e3 s3)) D Z := h2
      have sk := d1 ρ2 s2 H2 i x2 r2
      cases q : src.at s2 i with
      | none => rw [q] at h3; exact h3.elim
      | some o =>
        rw [q] at h3 sk
        cases o with
        | none => exact .inl ⟨sk, h3 ρ2 H2 σ2 Ext.refl r2 ed2⟩
        | some w =>
          obtain ⟨go, yl⟩ := sk
          replace h3 : ResS B ρ2 s2.size H2 (match putP s2 p [w] e2 with
            | none => .fail
            | some e1 => (evB C t e1 s2).turn fun e3 s3 => forL (fun w e s => putP s p [w] e) (fun e s => evB C t e s) src m (i + 1) e3 s3) D Z := h3
          cases qp : putP s2 p [w] e2 with
          | none => rw [qp] at h3; exact h3.elim
          | some e1 =>
            rw [qp] at h3
            refine .inr ⟨go, fun σ' H' => ∃ (ρ' : Pl) (s' : S) (e' : Env), Ext ρ1 s1.size H1 ρ' s'.size H' ∧ Rel B ρ' s' H' ∧ EnvD B ρ' s'.size H' e' σ' ∧ ResS B ρ' s'.size H' (forL (fun w e s => putP s p [w] e) (fun e s => evB C t e s) src m (i + 1) e' s') D Z, fun σ' H' hh => ⟨m, Nat.lt_succ_self m, hh⟩, fun xv H3 hy => ?_⟩
            obtain ⟨x3, r3, dx⟩ := yl xv H3 hy
            refine ⟨ρ2, s2, e2, [w], e1, r3, ed2.ext x3, .cons dx .nil, qp, fun σ3 _ ed3 => ⟨ρ2, s2, e1, r3, ed3, ?_⟩⟩
            have h4 := ResS.turn (ResS.from x3 h3)
            have up : ∀ {σ' : St} {H' : Hp}, Next B Z ρ2 s2.size H3 D (fun e3 s3 => forL (fun w e s => putP s p [w] e) (fun e s => evB C t e s) src m (i + 1) e3 s3) σ' H' → ∃ (ρ' : Pl) (s' : S) (e' : Env), Ext ρ1 s1.size H1 ρ' s'.size H' ∧ Rel B ρ' s' H' ∧ EnvD B ρ' s'.size H' e' σ' ∧ ResS B ρ' s'.size H' (forL (fun w e s => putP s p [w] e) (fun e s => evB C t e s) src m (i + 1) e' s') D Z := fun {σ' H'} ⟨ρ4, s4, e4, x4, r4, ed4, h5⟩ =>
              ⟨ρ4, s4, e4, (x2.trans x3).trans x4, r4, ed4, ResS.from x4 h5⟩
            exact ResS.ends h4 (fun _ _ q => up q) (fun _ _ q => q) (fun _ _ q => q) (fun _ _ q => up q)
end
end Ev

set_option Elab.async false
set_option linter.all false
set_option autoImplicit false
set_option maxRecDepth 100000
set_option maxHeartbeats 1000000
namespace Ev
open PySem PySem.Spec PySem.W PyProof.Rows

/-! ### the own __init__ of an exception: super().__init__(p, ..), then self.f = p -/
section
variable {prog : Program} {w : World} {A : Around} {K : Frag} {g : Array GenState} {d : Drawn} {os : OsState} {E : Value → Shared → Prop}
/-- what stays: all but e -/
def KeepB (e : Addr) (h h' : Heap) : Prop := ∀ b o, b ≠ e → h.get? b = some o → h'.get? b = some o
theorem KeepB.trans {e : Addr} {a b c : Heap} (x : KeepB e a b) (y : KeepB e b c) : KeepB e a c := fun q o n h => y q o n (x q o n h)
/-- names read, in order -/
def namesB : List Expr → List Str → Bool
  | [], [] => true
  | .Name x _ :: es, y :: ys => decide (x = y) && !(y == ("__debug__" : Str)) && namesB es ys
  | _, _ => false
theorem spl_names {env : PySem.Env} {h : Heap} {t : Nat} {pos : Pos} {m : Str → Option Value} (hk : env.scope.kind = .function) (hn : h.Ns env.locals m) : ∀ {es : List Expr} {ys : List Str} {us : List Value} {Q : List Value → Shared → Prop},
    namesB es ys = true → (∀ y ∈ ys, env.kindOf y = some .local) → ys.map m = us.map some → Q us ⟨h, g, d, t, os⟩ → wpAny (model prog w) A (spliced (backTo pos (starEach es env))) Q E ⟨h, g, d, t, os⟩
  | [], [], us, Q, _, _, e, q => by
    cases us with
    | nil => exact Calls.spliced_nil q
    | cons _ _ => cases e
  | [], _ :: _, _, _, h, _, _, _ => ff h
  | e :: es, [], _, _, h, _, _, _ => by cases e <;> exact ff h
  | e :: es, y :: ys, us, Q, hb, hl, em, q => by
    cases e <;> first | exact ff hb | skip
    rename_i x p
    have h' : (decide (x = y) && !(y == ("__debug__" : Str)) && namesB es ys) = true := hb
    rw [Bool.and_eq_true, Bool.and_eq_true, decide_eq_true_eq, Bool.not_eq_true'] at h'
    obtain ⟨⟨rfl, h2⟩, h3⟩ := h'
    cases us with
    | nil => cases em
    | cons u us =>
      injection em with e1 e2
      refine Calls.spliced_cons (wpAny_Name (wpAny_loadName_local hk (hl _ List.mem_cons_self) hn e1 ?_) h2)
      exact spl_names hk hn h3 (fun z hz => hl z (List.mem_cons_of_mem _ hz)) e2 q
theorem names_un : ∀ {es : List Expr} {ys : List Str}, namesB es ys = true → es.all unstarred = true ∧ es.length = ys.length
  | [], [], _ => ⟨rfl, rfl⟩
  | [], _ :: _, h => ff h
  | e :: es, [], h => by cases e <;> exact ff h
  | e :: es, y :: ys, h => by
    cases e <;> first | exact ff h | skip
    rename_i x p
    have h' : (decide (x = y) && !(y == ("__debug__" : Str)) && namesB es ys) = true := h
    rw [Bool.and_eq_true] at h'
    obtain ⟨a, b⟩ := names_un h'.2
    exact ⟨by rw [List.all_cons, a]; rfl, by simp [b]⟩
theorem bcall_eq {o : Expr} {name : Str} {apos pos : Pos} {args : List Expr} {env : PySem.Env} (ha : args.all unstarred = true) (hn : decide (args.length < 30) = true) (hl : (apos.endLine == pos.line) = true) :
    eval (.Call (.Attribute o name apos) args [] pos) env = (do
      let ov ← attributeBase o name env (eval o env)
      standAt apos.atName
      let (f, first) ← holding [ov] (getMethod ov name (do return (← importBound o env).getD true))
      callWith pos f first (backTo pos (starEach args env)) []) := by
  have hf : methodCallForm (args.length + ([] : List Keyword).length) (backTo pos (starEach args env)) (backToKw pos (keywordEach [] env)) = true := by
    unfold methodCallForm
    rw [star_all ha]
    exact hn
  show (do
    let ov ← attributeBase o name env (eval o env)
    standAt apos.atName
    methodCall o name apos pos env ov (args.length + ([] : List Keyword).length) (backTo pos (starEach args env)) (backToKw pos (keywordEach [] env))) = _
  unfold methodCall methodCallPos calleeOf
  simp only [hf, hl, Bool.not_true, Bool.false_or, if_true]
  rfl
/-- what the written part says of such an __init__ (at f, of the class at C; its class cell names D) -/
structure XinC (prog : Program) (K : Frag) (C D f cc cda : Addr) (fd : FuncData) (ar : Arg) : Prop where
  oex : L2.OexC K C
  fn : ∃ oc od osl, K.lookup f = some ⟨oc, od, .func fd, osl⟩
  hd : (fd.params.posonlyargs ++ fd.params.args).head? = some ar
  code : ∃ o vs file tf, fd.code = .ref cda ∧ K.lookup cda = some o ∧ o.data = .fields vs ∧ vs[2]? = some (.str file tf) ∧ ((prog.main.file : Str) == file) = true
  clo : fd.closure = [(("__class__" : Str), cc)]
  gl : fd.globals = mainGlobals
  bl : fd.builtins = builtinsNs
  cell : ∃ o, K.lookup cc = some o ∧ o.data = .cell (some (.ref D))
  cls : ∃ o cd, K.lookup D = some o ∧ o.data = .cls cd
  sub : mroIn K C (.ref D) = some true
  sup : nsIn K mainGlobals "super" = some none
  kind : fd.scope.kind = .function
  nSup : fd.scope.names.lookup ("super" : Str) = some .globalImplicit
  nCls : fd.scope.names.lookup ("__class__" : Str) = some .free
  nSelf : fd.scope.names.lookup ar.arg = some .local
  top : (prog.main.scope.names.lookup ("super" : Str)).isSome = false
  init : ks_superIn K C D "__init__" = some (some (.builtin "ValueError.__init__"))
  opq : nsIn K cStatics "thirdparty.any" = some none
  ve : subIn K (.ref C) (.type "ValueError") = some true
theorem sup_stmt {C D f cc cda e L t0 : Addr} {fd : FuncData} {ar : Arg} {h : Heap} {t : Nat} {m mg mb : Str → Option Value} {body : List Stmt} {p0 p1 p2 p3 p4 : Pos} {args : List Expr} {ys : List Str} {us : List Value} {Q : Flow → Shared → Prop}
    (T : XinC prog K C D f cc cda fd ar) (X : K.In h) (G : h.Ns mainGlobals mg) (Bn : h.Ns builtinsNs mb) (hb : ∀ x : Str, x ≠ "__name__" → mb x = bootBuiltins x) (hn : h.Ns L m) (hv : m ar.arg = some (.ref e)) (he : h.get? e = some (HandSPX.excO C t0)) (heL : L ≠ e)
    (hargs : namesB args ys = true) (hne : ys ≠ []) (hl : ∀ y ∈ ys, fd.scope.names.lookup y = some .local) (em : ys.map m = us.map some) (hz : us.length ≤ sizeLine) (hfew : decide (ys.length < 30) = true) (hline : (p2.endLine == p3.line) = true)
    (q : ∀ h' tk' t1, KeepB e h h' → h'.get? e = some (HandSPX.excO C t1) → Q .next ⟨h', g, d, tk', os⟩) :
    _root_.PySem.wpAt (model prog w) A (.func body (callEnv fd L f)) (exec (.Expr (.Call (.Attribute (.Call (.Name "super" p0) [] [] p1) "__init__" p2) args [] p3) p4) (callEnv fd L f)) Q E ⟨h, g, d, t, os⟩ := by
  obtain ⟨oc, od, osl, lf⟩ := T.fn
  obtain ⟨oD, cdD, lD, dD⟩ := T.cls
  obtain ⟨ocl, lcl, dcl⟩ := T.cell
  obtain ⟨oco, vs, file, tf, ec, lco, dco, hvs, hfile⟩ := T.code
  obtain ⟨nm, qn, N, bs, bm, sn, sub, ab, col, dd, k0, k1, k2, k3, k5, hC, hbm⟩ := T.oex.cls
  have keq : (callEnv fd L f).scope.kind = .function := T.kind
  have hint : interactive (callEnv fd L f) = false := by
    show (fd.scope.kind == .module && _) = false
    rw [T.kind]
    rfl
  refine ks_wpAt_Expr_any (ks_wpAt_MethodCall (pl := (do return (← importBound (.Call (.Name "super" p0) [] [] p1) (callEnv fd L f)).getD true)) ?_ (bcall_eq (names_un hargs).1 (by rw [(names_un hargs).2]; exact hfew) hline)) hint (sw_plain rfl)
  refine ks_wpAt_super_base (env := callEnv fd L f) T.nSup T.nCls (by decide +kernel) rfl (X _ _ lf) rfl T.hd ec (X _ _ lco) dco hvs hfile T.top ?_
  refine ks_loadName_global keq T.nSup (Calls.loadGlobal_builtin (env := callEnv fd L f) (mg := mg) (mb := mb) (v := .type "super") (by show h.Ns fd.globals mg; rw [T.gl]; exact G) (mg_none_of X G T.sup) (by show h.Ns fd.builtins mb; rw [T.bl]; exact Bn) ((hb _ (by decide +kernel)).trans (by decide +kernel)) ⟨rfl, ?_⟩)
  refine wpAny_loadName_free keq T.nCls (c := cc) (v := .ref D) (by show fd.closure.lookup _ = _; rw [T.clo]; rfl) ⟨_, X _ _ lcl, dcl⟩ ?_
  refine wpAny_loadName_local keq T.nSelf hn hv ?_
  refine ks_wpAny_isType_cls (X _ _ lD) dD ⟨rfl, ?_⟩
  refine ks_wpAny_call_super (X _ _ lD) dD he rfl (fun c z => nomatch z) (looks_mroIn X T.sub) (fun h1 e1 k1 => ?_)
  have X1 : K.In h1 := X.keeps k1
  have he1 := k1 _ _ he
  have I1 : InstAt h1 e (HandSPX.excO C t0) C none := ⟨he1, rfl, rfl, trivial⟩
  cases hc : clsIn K C with
  | none => have z := T.init; unfold ks_superIn at z; rw [hc] at z; cases z
  | some cd =>
    have hm := T.init
    unfold ks_superIn at hm
    rw [hc] at hm
    refine kxs_getMethod kxs_ValueError e1 (looks_opaque X1 T.opq) (l₀ := cd.mro) ?_ rfl X1 hm (I1.type.andThen (looks_subIn X1 T.ve)) (ks_ne X1 I1 hc) (by decide +kernel) ?_
    · exact fun A Q E s k q => wpAny_bind ((looks_clsIn X1 hc) A _ E s k (wpAny_pure q))
    · -- the method-wrapper is called
      have k2 : ∀ b o, h1.get? b = some o → (h1.push (kxs_mw "ValueError.__init__" e)).get? b = some o := fun b o q => Heap.get?_push_of_some _ q
      have hu : (h1.push (kxs_mw "ValueError.__init__" e)).get? h1.objs.size = some (kxs_mw "ValueError.__init__" e) := Heap.get?_push_at rfl rfl
      have he2 := k2 _ _ he1
      have X2 : K.In (h1.push (kxs_mw "ValueError.__init__" e)) := X1.keeps k2
      have hn2 : (h1.push (kxs_mw "ValueError.__init__" e)).Ns L m := by
        obtain ⟨o, es, ep, e1, r⟩ := hn
        exact ⟨o, es, ep, k2 _ _ (k1 _ _ e1), r⟩
      obtain ⟨un, ulen⟩ := names_un hargs
      cases args with
      | nil =>
        cases ys with
        | nil => exact absurd rfl hne
        | cons _ _ => exact ff hargs
      | cons e0 es =>
        have un' := un
        rw [List.all_cons, Bool.and_eq_true] at un'
        have st := star_plain un'.1 es (callEnv fd L f)
        refine kxs_callWith (i := "ValueError.__init__") (x := e) (by rw [st]; show (false || (backTo p3 (starEach es (callEnv fd L f))).any (·.1)) = false; rw [star_any un'.2]; rfl) ?_
        rw [st]
        refine Calls.evalArgs_plain ?_
        show wpAny _ A (spliced (backTo p3 ((false, eval e0 (callEnv fd L f)) :: starEach es (callEnv fd L f)))) _ _ _
        rw [← st]
        refine spl_names keq hn2 hargs (fun y hy => hl y hy) em ⟨hu, ?_⟩
        refine wpAny_call (codeAny_of_tree ?_)
        show wpAny _ A.in1 (callAny (.ref h1.objs.size) ⟨us, []⟩) _ _ _
        simp only [callAny]
        refine wpAny_bind (wpAny_load hu ?_)
        simp only [kxs_mw, show (Value.type "method-wrapper" == Value.type "method" || Value.type "method-wrapper" == Value.type "builtin_function_or_method" || Value.type "method-wrapper" == Value.type "method-wrapper") = true by decide, if_true]
        refine KFB.if_so (by decide) ?_
        refine wpAny_bind (check_bound_init F.excBase_ValueError.toExcCallFacts (X2 _ _ hC) he2 rfl ?_)
        refine wpAny_bind (wpAny_pure (wpAny_pure ?_))
        refine ⟨plainId_quiet F.excBase_ValueError.init.plain _, codeAny_builtin F.excBase_ValueError.initEntry ?_⟩
        refine exc_init_tree (cls := .ref C) (t0 := t0) (dv := none) (c2 := .none) (c3 := .none) (b4 := .bool false) he2 hz fun h' k e' t' => ?_
        exact q h' _ _ ((fun b o n z => k b o n (k2 b o (k1 b o z)))) e'
/-! ### self.f = p -/
def stB (self : Str) (st : Stmt) (q : Str × Str) : Bool := match st with
  | .Assign [.Attribute (.Name x _) f _] (.Name y _) _ => decide (x = self) && decide (f = q.1) && decide (y = q.2) && !(y == ("__debug__" : Str)) && !(x == ("__debug__" : Str))
  | _ => false
theorem stB_eq {self : Str} {st : Stmt} {q : Str × Str} (h : stB self st q = true) : ∃ p1 p2 p3 p4, st = .Assign [.Attribute (.Name self p1) q.1 p2] (.Name q.2 p3) p4 ∧ (q.2 == ("__debug__" : Str)) = false ∧ (self == ("__debug__" : Str)) = false := by
  unfold stB at h
  split at h
  · rename_i x p1 f p2 y p3 p4
    simp only [Bool.and_eq_true, decide_eq_true_eq, Bool.not_eq_true'] at h
    obtain ⟨⟨⟨⟨rfl, rfl⟩, rfl⟩, h4⟩, h5⟩ := h
    exact ⟨p1, p2, p3, p4, rfl, h4, h5⟩
  · cases h
def storesB (self : Str) : List Stmt → List (Str × Str) → Bool
  | [], [] => true
  | st :: r, q :: l => stB self st q && storesB self r l
  | _, _ => false
def mAft (m0 : Str → Option Value) : List (Str × Value) → Str → Option Value
  | [] => m0
  | q :: l => mAft (fun y => if y = q.1 then some q.2 else m0 y) l
abbrev excD (C t : Addr) (dx : Addr) : Obj := { cls := .ref C, dict := some dx, data := .fields #[.ref t, .none, .none, .none, .bool false, .none] }
theorem ns_keep {e L : Addr} {h h' : Heap} {m : Str → Option Value} (hn : h.Ns L m) (ne : L ≠ e) (k : KeepB e h h') : h'.Ns L m := by
  obtain ⟨o, es, ep, e1, r⟩ := hn
  exact ⟨o, es, ep, k _ _ ne e1, r⟩
theorem store_rest {C e L t1 dx : Addr} {self : Str} {m : Str → Option Value} {env : PySem.Env} (T : L2.OexC K C) (hk : env.scope.kind = .function) (hL : env.locals = L) (hself : env.kindOf self = some .local) (hv : m self = some (.ref e)) (heL : L ≠ e) : ∀ {rest : List Stmt} {fs : List (Str × Str)} {us : List Value} {h : Heap} {t : Nat} {mA : Str → Option Value} {nl : List Str} {Q : Flow → Shared → Prop},
    storesB self rest fs = true → (∀ q ∈ fs, env.kindOf q.2 = some .local) → (∀ q ∈ fs, findIn K (.ref C) q.1 = some none) → fs.map (fun q => m q.2) = us.map some → K.In h → h.Ns L m → L ≠ dx → dx ≠ e → h.get? e = some (excD C t1 dx) → h.Ns1 dx mA → Within mA nl → nl.length + fs.length ≤ 1000 →
    (∀ b o, K.lookup b = some o → b ≠ dx) →
    (∀ h' tk', (∀ b o, b ≠ dx → h.get? b = some o → h'.get? b = some o) → h'.Ns1 dx (mAft mA ((fs.map (·.1)).zip us)) → Q .next ⟨h', g, d, tk', os⟩) →
    wpAny (model prog w) A (execs rest env) Q E ⟨h, g, d, t, os⟩
  | [], [], us, h, t, mA, nl, Q, _, _, _, em, X, hn, _, _, he, hns, _, _, _, q => by
    cases us with
    | nil => exact wpAny_execs_nil (q h t (fun b o _ z => z) hns)
    | cons _ _ => cases em
  | [], _ :: _, _, _, _, _, _, _, hb, _, _, _, _, _, _, _, _, _, _, _, _, _ => ff hb
  | st :: rest, [], _, _, _, _, _, _, hb, _, _, _, _, _, _, _, _, _, _, _, _, _ => ff hb
  | st :: rest, q0 :: fs, us, h, t, mA, nl, Q, hb, hloc, hno, em, X, hn, n1, n2, he, hns, hw, hz, hKd, q => by
    have hb' : (stB self st q0 && storesB self rest fs) = true := hb
    rw [Bool.and_eq_true] at hb'
    obtain ⟨p1, p2, p3, p4, rfl, d1, d2⟩ := stB_eq hb'.1
    cases us with
    | nil => cases em
    | cons u us =>
      injection em with e1 e2
      obtain ⟨nm, qn, N, bs, bm, sn, sub, ab, col, dd, k0, k1, k2, k3, k5, hC, hbm⟩ := T.cls
      have hcl : clsIn K C = some { name := nm, bases := bs, mro := .ref C :: bm, ns := N, qualname := qn, hasDict := true, slotNames := sn, subclasses := sub, abstract := ab, collection := col, hasDel := false } := by unfold clsIn; rw [hC] <;> rfl
      have hnL : ∀ {h : Heap}, h.Ns L m → h.Ns env.locals m := fun z => by rw [hL]; exact z
      refine wpAny_execs_cons (plainObj_wpAny_Assign_Attribute (wpAny_Name (wpAny_loadName_local hk (hloc _ List.mem_cons_self) (hnL hn) e1 ?_) d1) (sw_tgt rfl))
      refine wpAny_Name (wpAny_loadName_local hk hself (hnL hn) hv ?_) d2
      obtain ⟨oD, _, _, hoD, _, _⟩ := hns.count hw
      refine set_plain X (ox := excD C t1 dx) (od := some oD) ⟨he, rfl, rfl, hoD⟩ T.sa ?_
      refine OEX.osa_old X he hns hw (by simp only [List.length_cons] at hz; omega) hcl (show HandSPX.refsVE (.ref C :: bm) = true from hbm) rfl (hno _ List.mem_cons_self) (fun h' tk' k hn' => ?_)
      have kk : ∀ b o, b ≠ dx → h.get? b = some o → h'.get? b = some o := k
      refine store_rest T hk hL hself hv heL (nl := q0.1 :: nl) hb'.2 (fun z hz => hloc z (List.mem_cons_of_mem _ hz)) (fun z hz => hno z (List.mem_cons_of_mem _ hz)) e2 (fun b o z => kk b o (hKd b o z) (X b o z)) ?_ n1 n2 (kk _ _ (Ne.symm n2) he) hn' (Within.cons _ _ hw) (by simp only [List.length_cons] at hz ⊢; omega) hKd ?_
      · obtain ⟨o, es, ep, z, r⟩ := hn
        exact ⟨o, es, ep, kk _ _ n1 z, r⟩
      · intro h2 tk2 k2 hn2
        exact q h2 tk2 (fun b o n z => k2 b o n (kk b o n z)) hn2
/-! ### the whole __init__ -/
theorem lookup_nd {α : Type} : ∀ {l : List (Str × α)} {x : Str} {v : α}, (l.map (·.1)).Nodup → (x, v) ∈ l → l.lookup x = some v
  | [], _, _, _, h => absurd h (by simp)
  | p :: l, x, v, nd, h => by
    rw [List.map_cons, List.nodup_cons] at nd
    rcases List.mem_cons.mp h with e | h
    · subst e
      simp [List.lookup]
    · have ne : x ≠ p.1 := fun z => nd.1 (by rw [← z]; exact List.mem_map.mpr ⟨(x, v), h, rfl⟩)
      have e : (x == p.1) = false := beq_eq_false_iff_ne.mpr ne
      simp only [List.lookup, e]
      exact lookup_nd nd.2 h
theorem zip_get {α : Type} : ∀ {ns : List Str} {vs : List α} {f : Str → Option α}, ns.length = vs.length → (∀ x v, (x, v) ∈ ns.zip vs → f x = some v) → ns.map f = vs.map some
  | [], [], _, _, _ => rfl
  | [], _ :: _, _, h, _ => by cases h
  | _ :: _, [], _, h, _ => by cases h
  | n :: ns, v :: vs, f, h, k => by
    rw [List.map_cons, List.map_cons, k n v (by simp), zip_get (by simpa using h) fun x u z => k x u (List.mem_cons_of_mem _ z)]
theorem rev_get {ns : List Str} {vs : List Value} (nd : ns.Nodup) (hl : ns.length = vs.length) : ns.map (fun x => (ns.zip vs).reverse.lookup x) = vs.map some := by
  have nd' : ((ns.zip vs).map (·.1)).Nodup := by rw [List.map_fst_zip (Nat.le_of_eq hl)]; exact nd
  refine zip_get hl fun x v h => ?_
  rw [lookup_reverse_of_nodup _ nd']
  exact lookup_nd nd' h
/-- the text of such an __init__: its fields with their parameters -/
structure XinS (K : Frag) (C : Addr) (fd : FuncData) (sl : Str) (fs : List (Str × Str)) : Prop where
  body : ∃ p0 p1 p2 p3 p4 args rest, fd.body = .stmts (.Expr (.Call (.Attribute (.Call (.Name "super" p0) [] [] p1) "__init__" p2) args [] p3) p4 :: rest) ∧ namesB args (fs.map (·.2)) = true ∧ (p2.endLine == p3.line) = true ∧ storesB sl rest fs = true
  ne : fs ≠ []
  few : fs.length < 30
  loc : ∀ q ∈ fs, fd.scope.names.lookup q.2 = some .local
  slf : fd.scope.names.lookup sl = some .local
  nd : (sl :: fs.map (·.2)).Nodup
  nf : (fs.map (·.1)).Nodup
  bind : ∀ us : List Value, us.length = fs.length + 1 → bindArgs fd ⟨us, []⟩ = pure ((sl :: fs.map (·.2)).zip us)
  ncell : ∀ x ∈ fd.scope.names, x.2 ≠ .cell
  co : fd.scope.isCoroutine = false
  gen : fd.scope.isGenerator = false
  cd : codeIn K fd.code fd.qualname = true
  no : ∀ q ∈ fs, findIn K (.ref C) q.1 = some none
theorem init_run {C D f cc cda e t0 : Addr} {fd : FuncData} {ar : Arg} {h : Heap} {t : Nat} {mg mb : Str → Option Value} {fs : List (Str × Str)} {us : List Value} {R : Result → Shared → Prop} (T : XinC prog K C D f cc cda fd ar) (S : XinS K C fd ar.arg fs)
    (hr : A.depth < recursionLimit) (hKe : K.lookup e = none) (X : K.In h) (G : h.Ns mainGlobals mg) (Bn : h.Ns builtinsNs mb) (hb : ∀ x : Str, x ≠ "__name__" → mb x = bootBuiltins x) (lim : h.NoLimit) (he : h.get? e = some (HandSPX.excO C t0)) (hl : us.length = fs.length)
    (q : ∀ h' tk' t1 dx, KeepB e h h' → h.objs.size ≤ dx → dx ≠ e → h'.get? e = some (excD C t1 dx) → h'.Ns1 dx (mAft (fun _ => none) ((fs.map (·.1)).zip us)) → R (.ok (.ret .none)) ⟨h', g, d, tk', os⟩) :
    codeAny (model prog w) A (.call (.ref f) ⟨.ref e :: us, []⟩) R ⟨h, g, d, t, os⟩ := by
  obtain ⟨oc, od, osl, lf⟩ := T.fn
  obtain ⟨p0, p1, p2, p3, p4, args, rest, hbody, b1, b2, b3⟩ := S.body
  have hlen : (ar.arg :: fs.map (·.2)).length = (Value.ref e :: us).length := by simp [hl]
  obtain ⟨M, hM, mg'⟩ : ∃ M : Str → Option Value, M = (fun x => ((ar.arg :: fs.map (·.2)).zip (Value.ref e :: us)).reverse.lookup x) ∧ (ar.arg :: fs.map (·.2)).map M = (Value.ref e :: us).map some := ⟨_, rfl, rev_get S.nd hlen⟩
  rw [List.map_cons, List.map_cons] at mg'
  injection mg' with m1 m2
  refine ks_codeAny_call_defAt (fd := fd) hr (X _ _ lf) rfl lim (codeRec_of X S.cd) hbody (.of_eq (S.bind (.ref e :: us) (by simp [hl]))) S.ncell (fun x hx => ?_) (fun h0 hns k0 => ?_) S.co S.gen T.kind
  · have z := (List.of_mem_zip hx).1
    rcases List.mem_cons.mp z with z | z
    · rw [z]; exact S.slf
    · obtain ⟨q, hq, e⟩ := List.mem_map.mp z
      rw [← e]
      exact S.loc q hq
  · rw [← hM] at hns
    clear hM
    have X0 := X.keeps k0
    have eL : h.objs.size ≠ e := Nat.ne_of_gt (Heap.lt_size he)
    have nsK : ∀ {a : Addr} {m : Str → Option Value}, h.Ns a m → h0.Ns a m := fun {a m} ⟨o, es, ep, z, r⟩ => ⟨o, es, ep, k0 _ _ z, r⟩
    refine ks_wpAt_execs_cons (sup_stmt T X0 (nsK G) (nsK Bn) hb hns m1 (k0 _ _ he) eL b1 (by simpa using S.ne) (fun y hy => ?_) m2 (by rw [hl, sizeLine_eq]; have := S.few; omega) (by rw [List.length_map]; exact decide_eq_true S.few) b2 fun h1 tk1 t1 k1 he1 => ?_)
    · obtain ⟨q, hq, e⟩ := List.mem_map.mp hy
      rw [← e]
      exact S.loc q hq
    · refine wpAt_of_wpAny ?_
      have ke : ∀ b o, K.lookup b = some o → b ≠ e := fun b o z y => by rw [y, hKe] at z; cases z
      have X1 : K.In h1 := fun b o z => k1 b o (ke b o z) (X0 b o z)
      match fs, rest, us, S, b3, m2, hl, q with
      | [], _, _, S, _, _, _, _ => exact absurd rfl S.ne
      | q0 :: fs, [], _, _, b3, _, _, _ => exact ff b3
      | q0 :: fs, st :: rest, [], _, _, _, hl, _ => cases hl
      | q0 :: fs, st :: rest, u :: us, S, b3, m2, hl, q =>
        have hb' : (stB ar.arg st q0 && storesB ar.arg rest fs) = true := b3
        rw [Bool.and_eq_true] at hb'
        obtain ⟨r1, r2, r3, r4, rfl, d1, d2⟩ := stB_eq hb'.1
        obtain ⟨nm, qn, N, bs, bm, sn, sub, ab, col, dd, k0', k1', k2, k3, k5, hC, hbm⟩ := T.oex.cls
        have hcl : clsIn K C = some { name := nm, bases := bs, mro := .ref C :: bm, ns := N, qualname := qn, hasDict := true, slotNames := sn, subclasses := sub, abstract := ab, collection := col, hasDel := false } := by unfold clsIn; rw [hC] <;> rfl
        have hn1 := ns_keep hns eL k1
        rw [List.map_cons, List.map_cons, List.map_cons] at m2
        injection m2 with e1 e2
        rw [List.map_map] at e2
        refine wpAny_execs_cons (plainObj_wpAny_Assign_Attribute (wpAny_Name (wpAny_loadName_local T.kind (S.loc _ List.mem_cons_self) hn1 e1 ?_) d1) (sw_tgt rfl))
        refine wpAny_Name (wpAny_loadName_local T.kind S.slf hn1 m1 ?_) d2
        refine set_plain X1 (ox := HandSPX.excO C t1) (od := none) ⟨he1, rfl, rfl, trivial⟩ T.oex.sa ?_
        refine HandSPX.exc_osa X1 he1 hcl (show HandSPX.refsVE (.ref C :: bm) = true from hbm) rfl (S.no _ List.mem_cons_self) (fun h2 tk2 dx k2 dn dne hx hn2 => ?_)
        have hL1 : h.objs.size < h1.objs.size := by
          obtain ⟨o, _, _, z, _⟩ := hn1
          exact Heap.lt_size z
        refine store_rest (env := callEnv fd h.objs.size f) (nl := [q0.1]) T.oex T.kind rfl S.slf m1 eL hb'.2 (fun z hz => S.loc z (List.mem_cons_of_mem _ hz)) (fun z hz => S.no z (List.mem_cons_of_mem _ hz)) e2 (fun b o z => k2 b o (ke b o z) (X1 b o z)) ?_ (Nat.ne_of_lt (Nat.lt_of_lt_of_le hL1 dn)) dne hx hn2 ?_ ?_ ?_ ?_
        · exact ns_keep hn1 eL k2
        · exact Within.cons (m := fun _ => none) (ns := []) _ _ fun y hy => absurd rfl hy
        · have := S.few
          simp only [List.length_cons, List.length_nil] at this ⊢
          omega
        · intro b o z y
          have lt := Heap.lt_size (X1 b o z)
          rw [y] at lt
          exact absurd (Nat.lt_of_lt_of_le lt dn) (Nat.lt_irrefl _)
        · intro h3 tk3 k3' hn3
          refine q h3 tk3 t1 dx (fun b o n z => ?_) (Nat.le_trans (Nat.le_of_lt hL1) dn) dne (k3' _ _ (Ne.symm dne) hx) hn3
          have z1 := k2 b o n (k1 b o n (k0 b o z))
          refine k3' b o (fun y => ?_) z1
          have lt := Heap.lt_size z
          rw [y] at lt
          exact absurd (Nat.lt_of_lt_of_le (Nat.lt_trans lt hL1) dn) (Nat.lt_irrefl _)
end
end Ev

set_option Elab.async false
set_option linter.all false
set_option autoImplicit false
set_option maxRecDepth 100000
set_option maxHeartbeats 1000000
namespace Ev
open PySem PySem.Spec L2

theorem mAft_get : ∀ {l : List (Str × Value)} {m0 : Str → Option Value} {f : Str}, (l.map (·.1)).Nodup → mAft m0 l f = (match l.lookup f with
    | some v => some v
    | none => m0 f)
  | [], _, _, _ => rfl
  | q :: l, m0, f, nd => by
    rw [List.map_cons, List.nodup_cons] at nd
    show mAft (fun y => if y = q.1 then some q.2 else m0 y) l f = _
    rw [mAft_get nd.2]
    by_cases c : f = q.1
    · have e : l.lookup f = none := by
        cases z : l.lookup f with
        | none => rfl
        | some v => exact absurd (List.mem_map.mpr ⟨(f, v), PySem.mem_of_lookup z, c⟩) nd.1
      have b : (f == q.1) = true := beq_iff_eq.mpr c
      simp only [e, List.lookup, b, if_pos c]
    · have b : (f == q.1) = false := beq_eq_false_iff_ne.mpr c
      simp only [List.lookup, b, if_neg c]
theorem relO_zip : ∀ {fs : List Str} {vs : List V} {us : List Value} {f : Str}, Vals vs us → RelO ((fs.zip vs).lookup f) ((fs.zip us).lookup f)
  | [], _, _, _, _ => by simp [List.lookup]; exact trivial
  | x :: fs, _, _, f, .nil => by simp [List.lookup]; exact trivial
  | x :: fs, _, _, f, .cons (a := v) (b := u) r t => by
    simp only [List.zip_cons_cons, List.lookup]
    cases q : (f == x) with
    | true => exact r
    | false => exact relO_zip t
section
variable {X : Cx} {B : Tb} {Z : St → XK} {C : Ev.C} {a b c : E} {x y z : Expr} {pos : Pos}
/-- C(p, ..) with such an __init__ -/
theorem pmk_sup {nm : Str} {C0 D f cc cda : Addr} {fd : FuncData} {ar : Arg} {fs : List (Str × Str)} {e : Expr} {es : List Expr} {ta : TA} {p : Pos} (T : XinC X.prog X.K C0 D f cc cda fd ar) (S : XinS X.K C0 fd ar.arg fs)
    (iC : PySem.W.findIn X.K (.ref C0) "__init__" = some (some (.ref f))) (tI : PySem.W.typeIn X.K (.ref f) = some (.type "function")) (hr : Room 1 X.A) (hg : Gl X nm) (hdb : (nm == ("__debug__" : Str)) = false) (hm : X.mg nm = some (.ref C0)) (ha : PA X (e :: es) ta)
    (he : starEach (e :: es) X.env = (false, eval e X.env) :: starEach es X.env) (hpl : (backTo pos (starEach es X.env)).any (·.1) = false) :
    PMk X (.Call (.Name nm p) (e :: es) [] pos) (fun σ H Q => ta σ H fun vs H1 => vs.length = fs.length ∧ ∀ d, H1 d = none → Q (.ref C0) (some d) (upd H1 d (.xd ((fs.map (·.1)).zip vs)))) := by
  intro pins s σ H Q I h
  obtain ⟨nm', q, N, bs, bm, sn, sub, ab, col, dd, k0, k1, k2, k3, k5, hC, hbm⟩ := T.oex.cls
  refine wpAny_Call_Name_kw (ld_glob I hg hm ?_ hdb)
  refine PySem.W.callWith_K (h₀ := X.base) I.ok.mod.kin T.oex.kC (thn (ha.run pos pins s σ H _ I h) fun us s1 ⟨vs, H1, I1, r1, hl, q1⟩ => ⟨I1.kIn, ?_⟩) he hpl
  show wpAny _ _ (call (.ref C0) us) _ _ _
  obtain ⟨hp, g, dr, tk, os⟩ := s1
  have hlu : us.length = fs.length := by rw [← r1.length]; exact hl
  have few : fs.length ≤ sizeLine := by rw [sizeLine_eq]; have := S.few; omega
  have kp2 : ∀ b o, hp.get? b = some o → ((hp.push (PySem.W.kdv_tup us)).push (HandSPX.excO C0 hp.objs.size)).get? b = some o := fun b o z => Heap.get?_push_of_some _ (Heap.get?_push_of_some _ z)
  have hsz : (hp.push (PySem.W.kdv_tup us)).objs.size = hp.objs.size + 1 := Heap.size_push _ _
  have hget : ((hp.push (PySem.W.kdv_tup us)).push (HandSPX.excO C0 hp.objs.size)).get? (hp.objs.size + 1) = some (HandSPX.excO C0 hp.objs.size) := by
    have z := Heap.get?_push_size (hp.push (PySem.W.kdv_tup us)) (o := HandSPX.excO C0 hp.objs.size) rfl
    rw [hsz] at z
    exact z
  have young : ∀ {b : Addr} {o : Obj}, hp.get? b = some o → b ≠ hp.objs.size + 1 := fun {b o} z => Nat.ne_of_lt (Nat.lt_succ_of_lt (Heap.lt_size z))
  obtain ⟨mb, nb, hbb⟩ := I1.ok.mod.blt
  refine wpAny_call (HandSPX.call_own F.excBase_ValueError (fun Y => HandSPX.refsVE_contains Y bm hbm) (I1.kIn _ _ hC) (PySem.W.looks_findIn I1.kIn iC) (fun self => PySem.W.bind_fn I1.kIn self tI) (by rw [hlu]; exact few)
    (init_run T S (Room.depth (hr.make C0 us [])) ?_ (I1.kIn.keeps kp2) ((I1.ok.mod.glob.keeps I1.bk).keeps kp2) ((nb.keeps I1.bk).keeps kp2) hbb (I1.nolimit.keeps kp2) hget hlu ?_))
  · cases z : X.K.lookup (hp.objs.size + 1) with
    | none => rfl
    | some o => exact absurd rfl (young (I1.kIn _ _ z))
  · intro h' tk' t1 dx kk hdx dne hx hns
    refine ⟨rfl, ?_⟩
    have dn : hp.objs.size ≤ dx := by
      have : ((hp.push (PySem.W.kdv_tup us)).push (HandSPX.excO C0 hp.objs.size)).objs.size = hp.objs.size + 2 := by rw [Heap.size_push, hsz]
      omega
    obtain ⟨G, g1, g2⟩ := restrict h' fun b => decide (b ≠ hp.objs.size + 1)
    have gk : ∀ b, b ≠ hp.objs.size + 1 → G.get? b = h'.get? b := fun b hb => g1 b (decide_eq_true hb)
    have ge : G.get? (hp.objs.size + 1) = none := g2 _ (by simp)
    have kG : ∀ b o, hp.get? b = some o → G.get? b = some o := fun b o z => by
      rw [gk b (young z)]
      exact kk b o (young z) (kp2 b o z)
    have hns' : G.Ns1 dx (mAft (fun _ => none) ((fs.map (·.1)).zip us)) := hns.at fun o z => (gk dx dne).trans z
    have rel : ∀ f, RelO (((fs.map (·.1)).zip vs).lookup f) (mAft (fun _ => none) ((fs.map (·.1)).zip us) f) := fun f => by
      have nd : (((fs.map (·.1)).zip us).map (·.1)).Nodup := by rw [List.map_fst_zip (by rw [List.length_map, hlu]; exact Nat.le_refl _)]; exact S.nf
      rw [mAft_get nd]
      have z := relO_zip (fs := fs.map (·.1)) (f := f) r1
      cases zl : ((fs.map (·.1)).zip us).lookup f with
      | none => rw [zl] at z; exact z
      | some v => rw [zl] at z; exact z
    have J := I1.laid (t' := tk') (a := dx) (o := .xd ((fs.map (·.1)).zip vs)) (h' := G) kG dn ⟨_, hns', rel⟩
    refine ⟨hp.objs.size + 1, _, _, ⟨G, g, dr, tk', os⟩, _, .ref C0, some dx, rfl, J, fun b o z => ?_, ge, hx, ⟨rfl, rfl⟩, rfl, rfl, ?_, rfl, I1.bare, raises_own T.oex.exC T.oex.tyC, q1 dx (I1.hok.fresh dn)⟩
    · by_cases hb : b = hp.objs.size + 1
      · rw [hb, ge] at z; cases z
      · rw [gk b hb] at z; exact z
    · rw [upd_ne (Ne.symm dne)]
      exact I1.hok.fresh (Nat.le_succ _)
/-- what is known of an exception's class that is raised -/
def Raisable (prog : Program) (K : PySem.W.Frag) (B : Tb) (C : Ev.C) (c : Nat) : Prop := ∃ (D f cc cda : Addr) (fd : FuncData) (ar : Arg) (fs : List (Str × Str)) (fx : List Nat), XinC prog K (B.ca c) D f cc cda fd ar ∧ XinS K (B.ca c) fd ar.arg fs ∧
  PySem.W.findIn K (.ref (B.ca c)) "__init__" = some (some (.ref f)) ∧ PySem.W.typeIn K (.ref f) = some (.type "function") ∧ C.excf c = some fx ∧ fx.map (fun i => B.fn[i]?) = (fs.map (·.1)).map some
theorem FsD.zip {ρ : Pl} {n : Nat} {H : Hp} : ∀ {fx : List Nat} {ns : List Str} {ws : List W} {vs : List V}, fx.map (fun i => B.fn[i]?) = ns.map some → fx.length = ws.length → DenL B ρ n H ws vs → FsD B ρ n H (fx.zip ws) (ns.zip vs)
  | [], [], _, _, _, hl, .nil => .nil
  | [], _ :: _, _, _, h, _, _ => by cases h
  | _ :: _, [], _, _, h, _, _ => by cases h
  | i :: fx, x :: ns, _, _, h, hl, .nil => by cases hl
  | [], [], _, _, _, hl, .cons _ _ => by cases hl
  | i :: fx, x :: ns, _, _, h, hl, .cons d t => by
    injection h with h1 h2
    exact .cons ⟨h1, d⟩ (FsD.zip h2 (by simpa using hl) t)
theorem sx_raise {nm : Str} {cc : Nat} {xs : List Expr} {p p2 : Pos} (R : Raisable X.prog X.K B C cc) (hr : Room 1 X.A) (hc : X.calm = true) (tk : Takes X (WZ Z)) (hg : Gl X nm) (hdb : (nm == ("__debug__" : Str)) = false) (hm : X.mg nm = some (.ref (B.ca cc)))
    (ha : PAv X B Z C (x :: xs) a) (hs : (x :: xs).all unstarred = true) : PSv X B Z C (.Raise (some (.Call (.Name nm p) (x :: xs) [] p2)) none pos) (.raise nm cc a) := by
  obtain ⟨D, f, c1, c2, fd, ar, fs, fx, T, S, iC, tI, ex, efx⟩ := R
  rw [List.all_cons, Bool.and_eq_true] at hs
  refine PS.weak (ps_raise hc tk (pmk_sup T S iC tI hr hg hdb hm ha (star_plain hs.1 _ _) (star_any hs.2))) ?_
  rintro Dn σ H ⟨ρ, s, e, r, ed, h⟩
  replace h : ResS B ρ s.size H (lift ((sem C a).a e s) e fun ws s1 => (match C.excf cc with
    | some fs => if fs.length = ws.length then .exc cc (fs.zip ws) e s1 else .fail
    | none => .fail)) Dn Z := h
  refine ⟨ρ, s, e, r, ed, (ResS.lift (DX := DL B) ed h).mono ?_⟩
  rintro vs H1 ⟨ρ1, s1, ws, x1, r1, d1, h1⟩
  rw [ex] at h1
  replace h1 : ResS B ρ1 s1.size H1 (if fx.length = ws.length then .exc cc (fx.zip ws) e s1 else .fail) Dn Z := h1
  by_cases hl : fx.length = ws.length
  · rw [if_pos hl] at h1
    have l1 : fx.length = fs.length := by
      have z := congrArg List.length efx
      simpa using z
    refine ⟨by rw [← d1.length, ← hl, l1], fun d hd => ?_⟩
    have xl : Ext ρ1 s1.size H1 ρ1 s1.size (upd H1 d (.xd ((fs.map (·.1)).zip vs))) := Ext.laid hd
    exact h1 ρ1 _ σ d _ xl (r1.laid hd) ((ed.ext x1).ext xl) (Fz.laid r1 hd) (FsD.zip efx hl (d1.ext xl))
  · rw [if_neg hl] at h1
    exact h1.elim
end
end Ev

set_option Elab.async false
set_option linter.all false
set_option autoImplicit false
set_option maxRecDepth 100000
namespace Ev
open PySem PySem.Spec L2

theorem exk_ok {P : Program} {w : World} {H : Hp} {h : Heap} {a C d : Addr} {oe : Obj} {vs : Array Value} (e : h.get? a = some oe) (h1 : oe.cls = .ref C) (h2 : oe.dict = some d) (h3 : oe.data = .fields vs) : ObjOk P w H h a (exk a C d) :=
  ⟨⟨oe, vs, e, h1, h2, h3⟩, ⟨oe, e⟩, fun g1 g2 ⟨o, v, z1, z2, z3, z4⟩ k => ⟨o, v, k _ z1, z2, z3, z4⟩⟩
/-- the suite's context, the caught exception tracked -/
theorem Inv.suiteT {X : Cx} {pins : List (Addr × Obj)} {σ : St} {H : Hp} {s : Shared} {a C d : Addr} {oe : Obj} {vs : Array Value} (I : Inv X pins σ H s) (ha : s.heap.get? a = some oe) (h1 : oe.cls = .ref C) (h2 : oe.dict = some d) (hd : oe.data = .fields vs) (na : H a = none) (nL : a ≠ X.env.locals)
    (hy : X.s_0.heap.get? a = none) (hp : ∀ p ∈ X.pn ++ pins, p.1 ≠ a) : Inv (X.suite a (X.pn ++ pins)) [] σ (upd H a (exk a C d)) s := by
  have ne : ∀ {b : Addr} {o : HO}, H b = some o → b ≠ a := fun {b o} e => ne_of_none e na
  refine ⟨I.ok.suite _ _, I.os, I.bare, ⟨I.base.keep, I.base.slot, fun b o e n hx => ?_, I.base.there, fun b xs e => ?_, fun b o u e => ?_, fun b ps e => ?_⟩, I.loc, I.cell, ?_, fun x c e => ?_, fun p hpp => ?_, fun b o e => ?_, I.len⟩
  · rw [upd_ne (fun z => by rw [z, hy] at e; cases e)]
    exact I.base.free b o e n hx
  · have z := I.base.tups b xs e
    rw [upd_ne (ne z)]; exact z
  · have z := I.base.frzs b o u e
    rw [upd_ne (ne z)]; exact z
  · obtain ⟨m, z⟩ := I.base.tbls b ps e
    exact ⟨m, by rw [upd_ne (ne z)]; exact z⟩
  · rw [upd_ne (Ne.symm nL)]; exact I.free
  · have nc : c ≠ a := fun z => by
      obtain ⟨v, o, ho, hdd⟩ := I.cell x c e
      rw [z, ha] at ho
      cases ho
      rw [hd] at hdd
      cases hdd
    rw [upd_ne nc]; exact I.freeC x c e
  · have hpp' : p ∈ X.pn ++ pins := by rw [List.append_nil] at hpp; exact hpp
    obtain ⟨q1, q2, q3, q4, q5⟩ := I.pin p hpp'
    exact ⟨q1, by rw [upd_ne (hp p hpp')]; exact q2, q3, q4, q5⟩
  · by_cases hb : b = a
    · rw [hb, upd_same] at e
      cases e
      rw [hb]
      exact exk_ok ha h1 h2 hd
    · rw [upd_ne hb] at e
      exact (I.hok b o e).stay (fun c u _ z => z) (fun c z => by rw [upd_ne (ne z)]; exact z) fun c xs z => by rw [upd_ne (ne z)]; exact z
/-- out of the suite -/
theorem Inv.unsuiteT {X : Cx} {pins pn' : List (Addr × Obj)} {σ : St} {H : Hp} {s : Shared} {a : Addr} (I : Inv (X.suite a (X.pn ++ pins)) pn' σ H s) (ok : X.Ok) : Inv X pins σ H s :=
  ⟨ok, I.os, I.bare, I.base, I.loc, I.cell, I.free, I.freeC, fun p hp => I.pin p (List.mem_append_left _ hp), I.hok, I.len⟩
end Ev

set_option Elab.async false
set_option linter.all false
set_option autoImplicit false
set_option maxRecDepth 100000
set_option maxHeartbeats 1000000
namespace Ev
open PySem PySem.Spec L2 PyProof.Rows

/-- behind the suite the clause's name is gone -/
def goneD (i : Nat) (D : Ends) : Ends := ⟨fun σ H => D.nx (σ.set i none) H, D.rt, fun σ H => D.bk (σ.set i none) H, fun σ H => D.ct (σ.set i none) H⟩
/-- what is wished of what the body raises -/
def wT (K : PySem.W.Frag) (c : Value) (i : Nat) (ts : Addr → Addr → Addr → TS) (Wout : WX) (D : Ends) : WX := fun cls d σ H =>
  ∃ (b : Bool) (C dd : Addr), cls = .ref C ∧ d = some dd ∧ PySem.W.exmOne K cls c = some b ∧ (b = true → ∀ a, H a = none → ts a C dd (goneD i D) (σ.set i (some (.ref a))) (upd H a (exk a C dd))) ∧ (b = false → Wout cls d σ H)
section
variable {X : Cx} {x n : Str} {c : Value} {i : Nat} {body suite : List Stmt} {s0 : Stmt} {np pos pos' : Pos} {tb : WX → TS} {ts : Addr → Addr → Addr → TS} {Wout : WX}
/-- try: body, except x as n: suite; the exception stays known behind the suite -/
theorem ps_tryT (hst : X.stack = X.env :: X.outer) (hfr0 : X.env.frame = some X.env.locals) (hex : X.ex = []) (hnd : X.N.Nodup) (hix : X.N[i]? = some n) (hlc : X.env.kindOf n = some .local) (hcl : Names X x c) (tko : Takes X Wout)
    (hbd : ∀ (W : WX) (pn : List (Addr × Obj)) (xe : Value → Shared → Prop), Takes (X.tr pn xe) W → PassesOwn (model X.prog X.w) X.A X.env xe → PSs (X.tr pn xe) body (tb W))
    (hsu : ∀ (a C dd : Addr) (pn : List (Addr × Obj)), PSs (X.suite a pn) (s0 :: suite) (ts a C dd)) :
    PS X (.Try body [.ExceptHandler (some (.Name x np)) (some n) (s0 :: suite) pos'] [] [] pos) (fun D σ H => tb (wT X.K c i ts Wout D) D σ H) := by
  refine ⟨fun pins s σ H D I hw => ?_⟩
  have okX := I.ok
  have hframes : X.A.frames = some (X.env :: X.outer) := by rw [okX.frames, hst]
  refine wpAny_Try_except ?_
  let hs1 : List ExceptHandler := [.ExceptHandler (some (.Name x np)) (some n) (s0 :: suite) pos']
  let xe1 : Value → Shared → Prop := fun e s₁ => wpAny (model X.prog X.w) X.A (noteFrame e X.env) (fun _ s₂ => wpAny (model X.prog X.w) X.A (setFlight e none) (fun _ s₃ => wpAny (model X.prog X.w) X.A (handleBy e X.env hs1) (SP X pins D) X.xe s₃) X.xe s₂) X.xe s₁
  have tk1 : Takes (X.tr (X.pn ++ pins) xe1) (wT X.K c i ts Wout D) := by
    rintro u s' ⟨a, G, sI, pins', σ', H', cls, d, rfl, J1, nb, up, sky, na, os, ag, b, C, dd, rfl, rfl, hb1, hyes, hno⟩
    have J : Inv X pins σ' H' sI := J1.ofTry okX
    have sky' : Sky G (X.env :: X.outer) a (Zc (.ref C) (some dd)) X.env.locals s'.heap := by rw [← hst]; exact sky
    show wpAny (model X.prog X.w) X.A (noteFrame (.ref a) X.env) _ _ _
    refine Sky.land Zc.steady hframes hfr0 sky' fun h3 fl3 up3 => ?_
    have J3 : Inv X pins σ' H' { s' with heap := h3 } := J.landed nb fl3.1 (up.trans up3) os ag
    obtain ⟨oe3, vs3, he3, hz3, hd3⟩ := fl3.there
    have nfr : a ∉ frs (X.env :: X.outer) := fun hm => by
      obtain ⟨_, o', e', hnf⟩ := fl3.2.2.1.mem hm
      rw [he3] at e'
      cases e'
      exact hnf _ hd3
    have fst : frs X.stack = frs (X.env :: X.outer) := congrArg frs hst
    have fcons : frs (X.env :: X.outer) = X.env.locals :: X.fs := by
      simp [frs, List.filterMap_cons, hfr0]
    have nL : a ≠ X.env.locals := fun z => nfr (by rw [fcons, z]; exact List.mem_cons_self)
    have young : X.s_0.heap.get? a = none := by
      cases q : X.s_0.heap.get? a with
      | none => rfl
      | some o =>
        obtain ⟨o', e1⟩ := J.base.there a o q (by rw [hex]; simp)
        have z := nb a o' e1 (by rw [fst]; exact nfr)
        rw [fl3.2.1] at z
        cases z
    have pns : ∀ p ∈ X.pn ++ pins, p.1 ≠ a := fun p hp z => by
      obtain ⟨q1, _, q3, q4, _⟩ := J.pin p hp
      have y := nb p.1 p.2 q1 (by rw [fst, fcons]; exact fun m => (List.mem_cons.mp m).elim q3 q4)
      rw [z, fl3.2.1] at y
      cases y
    have S3 := Inv.suiteT J3 he3 hz3.1 hz3.2 hd3 na nL young pns
    refine wpAny_handleBy_cons (codeAny_handlers_test ?_) (by intro q; cases q)
    have LT : PySem.W.Looks (model X.prog X.w) h3 (typeOf (.ref a)) (.ref C) := fun A Q E s k q => wpAny_typeOf_ref (k _ _ he3) (by rw [hz3.1]; exact q)
    have LM := PySem.W.exm_one (M := model X.prog X.w) J3.kIn LT hb1
    have tst : ∀ {Q : Value → Shared → Prop} {E : Value → Shared → Prop}, Q c { s' with heap := h3 } → wpAny (model X.prog X.w) (X.A.mark (some (.ref a))) (eval (.Name x np) X.env) Q E { s' with heap := h3 } := fun {Q E} q => by
      obtain ⟨hg, hdbg, hm | ⟨hm, hv, hnn⟩⟩ := hcl
      · exact ld_glob (X := X.suite a (X.pn ++ pins)) S3 hg hm q hdbg
      · exact ld_blt (X := X.suite a (X.pn ++ pins)) S3 hg hm hv q hnn hdbg
    refine tst (LM.here ?_)
    cases b with
    | true =>
      refine codeAny_handlers_suite_as ?_
      refine HandSPX.lands_againZ fl3 fun h4 fl4 up4 => ?_
      have J4 : Inv X pins σ' H' { s' with heap := h4 } := J.landed nb fl4.1 ((up.trans up3).trans up4) os ag
      obtain ⟨oe4, vs4, he4, hz4, hd4⟩ := fl4.there
      have S4 := Inv.suiteT J4 he4 hz4.1 hz4.2 hd4 na nL young pns
      refine store_ok (X := X.suite a (X.pn ++ pins)) (v := .ref a) S4 hnd hix (.inl hlc) rfl (fun s5 S5 => ?_) (.inr hlc)
      refine wpAny_mono ((hsu a C dd (X.pn ++ pins)).run [] s5 _ _ _ S5 (hyes rfl a na)) (fun f s6 hq => ?_) (fun _ _ z => False.elim z)
      have fin : ∀ {σ6 : L2.St} {H6 : Hp} {Q : Shared → Prop}, Inv (X.suite a (X.pn ++ pins)) [] σ6 H6 s6 → (∀ s7, Inv X pins (σ6.set i none) H6 s7 → Q s7) → wpAny (model X.prog X.w) X.A (do bindName X.env n .none; unbindBehindTheSuite X.env n pos') (fun _ s7 => Q s7) X.xe s6 :=
        fun {σ6 H6 Q} S6 hk => gone_ok (Inv.unsuiteT S6 okX) hnd hix hlc hk
      cases f with
      | next =>
        obtain ⟨σ6, H6, S6, q6⟩ := hq
        exact fin S6 fun s7 J7 => ⟨_, _, J7, q6⟩
      | brk =>
        obtain ⟨σ6, H6, S6, q6⟩ := hq
        exact fin S6 fun s7 J7 => ⟨_, _, J7, q6⟩
      | cont =>
        obtain ⟨σ6, H6, S6, q6⟩ := hq
        exact fin S6 fun s7 J7 => ⟨_, _, J7, q6⟩
      | ret u =>
        obtain ⟨v6, σ6, H6, S6, r6, q6⟩ := hq
        exact fin S6 fun s7 J7 => ⟨_, _, _, J7, r6, q6⟩
    | false =>
      show wpAny _ X.A (handleBy (.ref a) X.env []) _ _ _
      refine wpAny_handleBy_nil ?_
      obtain ⟨k1, k2, k3, oe, vs, T, oT, ts', he, hz, hd, h1, hr⟩ := id fl3
      unfold PySem.passOn
      refine wpAny_bind (wpAny_field he hd h1 ?_)
      rw [if_neg (show ¬ ((Value.ref T == Value.none) = true) from by simp)]
      have up2 : wpAny (model X.prog X.w) X.A (setFlight (.ref a) X.env.frame) (fun _ s4 => wpAny (model X.prog X.w) X.A (throw (.ref a) : Sem Flow) (SP X pins D) X.xe s4) X.xe { s' with heap := h3 } := by
        rw [hfr0]
        refine HandSPX.setFlight_upZ fl3 fun h4 hh4 up4 => wpAny_throw (tko _ _ ?_)
        exact ⟨a, G, sI, pins, σ', H', .ref C, some dd, rfl, J, nb, (up.trans up3).trans up4, .inr (.inr (by rw [hst]; exact hh4)), na, os, ag, hno rfl⟩
      first
        | exact wpAny_bind (wpAny_pure (wpAny_bind up2))
        | exact wpAny_bind up2
  refine wpAny_mono ((hbd _ (X.pn ++ pins) xe1 tk1 PassesOwn.looking).run [] s σ H D (I.toTry _) hw) (fun f s1 hq => ?_) (fun e s1 he => he)
  cases f with
  | next =>
    obtain ⟨σ', H', J', q⟩ := hq
    exact wpAny_execs_nil ⟨σ', H', J'.ofTry okX, q⟩
  | brk =>
    obtain ⟨σ', H', J', q⟩ := hq
    exact ⟨σ', H', J'.ofTry okX, q⟩
  | cont =>
    obtain ⟨σ', H', J', q⟩ := hq
    exact ⟨σ', H', J'.ofTry okX, q⟩
  | ret u =>
    obtain ⟨v, σ', H', J', rv, q⟩ := hq
    exact ⟨v, σ', H', J'.ofTry okX, rv, q⟩
end
end Ev

set_option Elab.async false
set_option linter.all false
set_option autoImplicit false
set_option maxRecDepth 100000
set_option maxHeartbeats 1000000
namespace Ev
open PySem PySem.Spec L2

/-! ### the lambda that was handed over, exchanged -/
def Tb.at (B : Tb) (l : Option Lm) : Tb := { B with lm := l }
section
variable {B : Tb} {ρ : Pl} {n : Nat} {H : Hp} {s : S}
mutual
theorem Den.re (l : Option Lm) : ∀ {w : W} {v : V}, Den B ρ n H w v → Den (B.at l) ρ n H w v
  | _, _, .non => .non
  | _, _, .bl => .bl
  | _, _, .int => .int
  | _, _, .str => .str
  | _, _, .tup h t => .tup h (DenL.re l t)
  | _, _, .lst h t => .lst h (DenL.re l t)
  | _, _, .frl h t => .frl h (DenL.re l t)
  | _, _, .ref h => .ref h
  | _, _, .fn (g := g) => .fn (B := B.at l) (g := g)
  | _, _, .cls (c := c) => .cls (B := B.at l) (c := c)
  | _, _, .ty => .ty
  | _, _, .dct z => .dct z
  | _, _, .exn val h1 h2 h3 h4 => .exn (B := B.at l) val h1 h2 h3 fun f w q => Den.re l (h4 f w q)
theorem DenL.re (l : Option Lm) : ∀ {ws : List W} {vs : List V}, DenL B ρ n H ws vs → DenL (B.at l) ρ n H ws vs
  | _, _, .nil => .nil
  | _, _, .cons h t => .cons (Den.re l h) (DenL.re l t)
end
theorem Den.un {l : Option Lm} {w : W} {v : V} (h : Den (B.at l) ρ n H w v) : Den B ρ n H w v := h.re B.lm
theorem DenL.un {l : Option Lm} {w : List W} {v : List V} (h : DenL (B.at l) ρ n H w v) : DenL B ρ n H w v := h.re B.lm
theorem FsD.re (l : Option Lm) {fs : List (Nat × W)} {vfs : List (Str × V)} (h : FsD B ρ n H fs vfs) : FsD (B.at l) ρ n H fs vfs := Paired.mapP h fun _ _ z => ⟨z.1, z.2.re l⟩
theorem FsD.un {l : Option Lm} {fs : List (Nat × W)} {vfs : List (Str × V)} (h : FsD (B.at l) ρ n H fs vfs) : FsD B ρ n H fs vfs := Paired.mapP h fun _ _ z => ⟨z.1, z.2.un⟩
theorem Rel.re (l : Option Lm) (r : Rel B ρ s H) : Rel (B.at l) ρ s H := ⟨r.nd, r.inj, fun i o e => by
  have q := r.ob i o e
  cases o with
  | lst ws => obtain ⟨vs, a, b⟩ := q; exact ⟨vs, a, b.re l⟩
  | ins c fs => obtain ⟨dx, vfs, a, b⟩ := q; exact ⟨dx, vfs, a, FsD.re l b⟩, r.res, r.tb⟩
theorem Rel.un' {l : Option Lm} (r : Rel (B.at l) ρ s H) : Rel B ρ s H := r.re B.lm
theorem EnvX.re (l : Option Lm) {e : Env} {σ : St} (h : EnvX B ρ n H e σ) : EnvX (B.at l) ρ n H e σ := ⟨h.1, fun i w q => let ⟨v, a, b⟩ := h.2 i w q; ⟨v, a, b.re l⟩⟩
theorem Res.re (l : Option Lm) {r : R W} {Q : VK} {Z : XK} (h : Res B (DW B) ρ n H r Q Z) : Res (B.at l) (DW (B.at l)) ρ n H r Q Z := by
  cases r with
  | ok a s => exact fun ρ' H' v e q d => h ρ' H' v e q.un' d.un
  | exc c fs s => exact fun ρ' H' d vfs e q z f => h ρ' H' d vfs e q.un' z (FsD.un f)
  | fail => exact h
theorem Res.un {l : Option Lm} {r : R W} {Q : VK} {Z : XK} (h : Res (B.at l) (DW (B.at l)) ρ n H r Q Z) : Res B (DW B) ρ n H r Q Z := h.re B.lm
end

/-! ### lambdas: no parameter, or one with a number for it -/
def lamPar : Arguments → Option (List (Str × Int))
  | ⟨[], [], none, [], [], none, []⟩ => some []
  | ⟨[], [⟨a, none, _⟩], none, [], [], none, [.Constant (.int i) _ _]⟩ => some [(a, i)]
  | _ => none
/-- names of its own are none of N; the others are the maker's, or global -/
structure LamR (N : List Str) (sc scope : Scope) (bs : List (Str × Int)) : Prop where
  kind : scope.kind = .function
  co : scope.isCoroutine = false
  gen : scope.isGenerator = false
  own : ∀ y ∈ scope.names, y.2 ≠ .cell ∧ (y.2 = .local → y.1 ∉ N)
  free : ∀ y ∈ scope.names, y.2 = .free → sc.names.lookup y.1 = some .cell ∨ sc.names.lookup y.1 = some .free
  par : ∀ b ∈ bs, scope.names.lookup b.1 = some .local
def lamRB (N : List Str) (sc scope : Scope) (bs : List (Str × Int)) : Bool :=
  decide (scope.kind = .function) && !scope.isCoroutine && !scope.isGenerator && (scope.names.all fun y => !decide (y.2 = .cell) && (!decide (y.2 = .local) || !decide (y.1 ∈ N)) && (!decide (y.2 = .free) || decide (sc.names.lookup y.1 = some .cell) || decide (sc.names.lookup y.1 = some .free))) && bs.all fun b => decide (scope.names.lookup b.1 = some .local)
theorem lamR_by {N : List Str} {sc scope : Scope} {bs : List (Str × Int)} (h : lamRB N sc scope bs = true) : LamR N sc scope bs := by
  unfold lamRB at h
  simp only [Bool.and_eq_true, Bool.or_eq_true, Bool.not_eq_true', decide_eq_true_eq, decide_eq_false_iff_not, List.all_eq_true] at h
  obtain ⟨⟨⟨⟨h1, h2⟩, h3⟩, h4⟩, h5⟩ := h
  refine ⟨h1, h2, h3, fun y hy => ⟨(h4 y hy).1.1, fun e => (h4 y hy).1.2.elim (fun z => absurd e z) id⟩, fun y hy e => ?_, h5⟩
  exact (h4 y hy).2.elim (fun z => z.elim (fun z => absurd e z) .inl) .inr
theorem LamR.has {X : Cx} {N : List Str} {scope : Scope} {bs : List (Str × Int)} (L : LamR N X.env.scope scope bs) (ok : X.Ok) : ∀ y ∈ scope.names, y.2 = .free → ∃ c, X.env.cells.lookup y.1 = some c :=
  fun y hy e => ok.has _ ((L.free y hy e).imp id id)
/-- the numbers stand where the function's object says -/
def DfOk (h : Heap) (H : Hp) (fr : List Addr) (bs : List (Str × Int)) (dV : Value) : Prop :=
  ∃ us : List Value, Vals (bs.map fun b => V.int b.2) us ∧ ((us = [] ∧ dV = .none) ∨ ∃ t, dV = .ref t ∧ us ≠ [] ∧ h.get? t = some (PySem.W.kdv_tup us) ∧ H t = none ∧ t ∉ fr)
theorem lam_binds {params : Arguments} {bs : List (Str × Int)} {s : Shared} {q : Str} {body : Expr} {scope : Scope} {cl : List (Str × Addr)} {dV doc pm cdv ct : Value} {us : List Value} (hp : lamPar params = some bs)
    (r : Vals (bs.map fun b => V.int b.2) us) (d : (us = [] ∧ dV = .none) ∨ ∃ t, dV = .ref t ∧ us ≠ [] ∧ s.heap.get? t = some (PySem.W.kdv_tup us)) :
    BindsTo s (PySem.W.kdv_fn "<lambda>" q params (.expr body) scope cl dV doc pm cdv ct) ⟨[], []⟩ ((bs.map (·.1)).zip us) := by
  unfold lamPar at hp
  split at hp
  · cases hp
    cases r
    rcases d with ⟨_, rfl⟩ | ⟨_, _, z, _⟩
    · exact BindsTo.of_eq rfl
    · exact absurd rfl z
  · rename_i a pos i k p2
    cases hp
    cases r with
    | cons r1 r2 =>
      cases r2
      rcases d with ⟨z, _⟩ | ⟨t, rfl, _, e⟩
      · cases z
      · exact BindsTo.of_defaults (T := t) rfl e rfl rfl (by simp)
  · cases hp
section
variable {X : Cx} {pins : List (Addr × Obj)} {σ : St} {H HZ : Hp} {s s1 : Shared}
theorem far {h : Heap} {b P : Addr} {o : Obj} (e : h.get? P = some o) (hb : h.objs.size ≤ b) : b ≠ P := fun z => absurd (Heap.lt_size e) (Nat.not_lt.mpr (by rw [← z]; exact hb))
theorem young_nofr (I : Inv X pins σ H s) {f : Addr} (hf : s.heap.objs.size ≤ f) : f ∉ frs X.stack := fun z => by
  rcases List.mem_cons.mp (I.stkSub _ z) with e | e
  · have h1 := I.lt
    rw [← e] at h1
    exact absurd h1 (Nat.not_lt.mpr hf)
  · exact I.nofs hf e
abbrev lqual (X : Cx) : Str := X.env.qual ++ "<lambda>"
theorem lam_tail {T : List (Addr × Str)} {c P : Addr} {params : Arguments} {body : Expr} {scope : Scope} {pos : Pos} {bs : List (Str × Int)} {dV : Value} {E Q : Value → Shared → Prop} (I : Inv X pins σ H s) (TB : LamX.TabB X.base X.mg c P) (hcode : X.env.code = .ref c)
    (hm : (P, lqual X) ∈ T) (hu : ∀ p ∈ T, p.1 = P → p.2 = lqual X) (hT : LamX.Tabs T H) (hfree : ∀ y ∈ scope.names, y.2 = .free → ∃ c, X.env.cells.lookup y.1 = some c) (hd : DfOk s.heap H (frs X.stack) bs dV)
    (h : ∀ (f c' : Addr) (doc pm ctv : Value) (H1 : Hp) (s' : Shared), Inv X pins σ H1 s' → (∀ b, H1 b = none → H b = none) → LamX.ExtN H H1 → LamX.Tabs T H1 → s'.heap.get? f = some (PySem.W.kdv_obj "<lambda>" (lqual X) params (.expr body) scope (cloFrom X.env.cells scope.names []) dV doc pm c' ctv) →
      H1 f = none → f ∉ frs X.stack → H1 c' = some (LamX.CodeO c' (lqual X)) → DfOk s'.heap H1 (frs X.stack) bs dV → Q (.ref f) s') :
    wpAny (model X.prog X.w) X.A (makeTail "<lambda>" (lqual X) params (.expr body) scope X.env dV .none none pos pos.line) Q E s := by
  obtain ⟨ps, eP, ht, ha⟩ := hT _ hm
  have bP : s.heap.BuiltinsAt X.mg P := TB.bm.keeps I.bk
  have oP : s.heap.get? P = some { cls := .none, data := .fields ps } := I.hok P _ eP
  cases hc : codeAmong pos ps.toList with
  | none =>
    refine PySem.W.kdv_makeTail (mg := X.mg) (ps := ps) (closure_ok hfree) I.ok.glob (I.mod.glob.keeps I.bk) hcode (TB.code.keeps I.bk) oP ht hc TB.gP bP fun c' ctv doc h' tk hx hge hlt hrec htb => ?_
    obtain ⟨c2, oc, vs, t, e2, hoc, hdd, hv⟩ := hrec
    cases e2
    have hsz : s.heap.objs.size ≤ h'.objs.size := by omega
    have nC : H c' = none := I.hok.fresh hge
    have nPc : P ≠ c' := ne_of_none eP nC
    have J := LamX.inv_table (t' := tk) (more := #[rawInt pos.line, rawInt pos.col, .ref c']) (h' := h'.push (PySem.W.kdv_obj "<lambda>" (lqual X) params (.expr body) scope (cloFrom X.env.cells scope.names []) dV doc ((X.mg "__name__").getD .none) c' ctv)) I eP
      (fun b o n e => Heap.get?_push_of_some _ (hx b o n e)) (Heap.get?_push_of_some _ htb) hge ⟨oc, vs, t, Heap.get?_push_of_some _ hoc, hdd, hv⟩
    have hE : LamX.ExtN H (upd (upd H P (.tbl (ps ++ #[rawInt pos.line, rawInt pos.col, .ref c']))) c' (LamX.CodeO c' (lqual X))) := fun b o e n => by
      rw [upd_ne (ne_of_none e nC), upd_ne (fun z => n ps (Option.some.inj (e.symm.trans (by rw [z]; exact eP))))]; exact e
    have hN : ∀ b, upd (upd H P (.tbl (ps ++ #[rawInt pos.line, rawInt pos.col, .ref c']))) c' (LamX.CodeO c' (lqual X)) b = none → H b = none := fun b z => by
      by_cases q : b = c'
      · rw [q]; exact nC
      · rw [upd_ne q] at z
        by_cases q2 : b = P
        · rw [q2, upd_same] at z; cases z
        · rwa [upd_ne q2] at z
    have nf : ∀ b, s.heap.objs.size ≤ b → b ≠ c' → upd (upd H P (.tbl (ps ++ #[rawInt pos.line, rawInt pos.col, .ref c']))) c' (LamX.CodeO c' (lqual X)) b = none := fun b hb n => by
      rw [upd_ne n, upd_ne (far oP hb)]; exact I.hok.fresh hb
    have eL : (ps ++ #[rawInt pos.line, rawInt pos.col, .ref c']).toList = ps.toList ++ [rawInt pos.line, rawInt pos.col, .ref c'] := by simp
    refine h h'.objs.size c' doc ((X.mg "__name__").getD .none) ctv _ _ J hN hE (fun p hp => ?_) (Heap.get?_push_size _ rfl) (nf _ hsz (Nat.ne_of_gt hlt)) (young_nofr I hsz) upd_same ?_
    · by_cases hb : p.1 = P
      · rw [hu p hp hb, hb]
        refine ⟨_, by rw [upd_ne nPc, upd_same], by rw [eL]; exact PySem.TriplesOk_snoc _ _ _ _ ht, fun p' cv hcv => ?_⟩
        rw [eL] at hcv
        rcases LamX.among_app _ ht hcv with z | z
        · obtain ⟨c0, e1, e2⟩ := ha p' cv z
          exact ⟨c0, e1, hE _ _ e2 LamX.codeO_ne⟩
        · exact ⟨c', z, upd_same⟩
      · obtain ⟨ps', a1, a2, a3⟩ := hT p hp
        refine ⟨ps', by rw [upd_ne (ne_of_none a1 nC), upd_ne hb]; exact a1, a2, fun p' cv hcv => ?_⟩
        obtain ⟨c0, e1, e2⟩ := a3 p' cv hcv
        exact ⟨c0, e1, hE _ _ e2 LamX.codeO_ne⟩
    · obtain ⟨us, r, d⟩ := hd
      refine ⟨us, r, d.imp id fun ⟨t, e1, e2, e3, e4, e5⟩ => ⟨t, e1, e2, Heap.get?_push_of_some _ (hx _ _ (fun z => by rw [z, eP] at e4; cases e4) e3), ?_, e5⟩⟩
      rw [upd_ne (far e3 hge).symm, upd_ne (fun z => by rw [z, eP] at e4; cases e4)]; exact e4
  | some cv =>
    obtain ⟨c', e, hco⟩ := ha pos cv hc
    subst e
    refine PySem.W.kdv_makeTailHit (mg := X.mg) (ps := ps) (closure_ok hfree) I.ok.glob (I.mod.glob.keeps I.bk) hcode (TB.code.keeps I.bk) oP ht hc bP fun ctv doc h' tk hx hsz => ?_
    have J : Inv X pins σ H { s with heap := h'.push (PySem.W.kdv_obj "<lambda>" (lqual X) params (.expr body) scope (cloFrom X.env.cells scope.names []) dV doc ((X.mg "__name__").getD .none) c' ctv), toks := tk } := I.kept fun b o e => Heap.get?_push_of_some _ (hx b o e)
    refine h h'.objs.size c' doc _ ctv H _ J (fun _ z => z) (LamX.ExtN.refl H) hT (Heap.get?_push_size _ rfl) (I.hok.fresh hsz) (young_nofr I hsz) hco ?_
    obtain ⟨us, r, d⟩ := hd
    exact ⟨us, r, d.imp id fun ⟨t, e1, e2, e3, e4, e5⟩ => ⟨t, e1, e2, Heap.get?_push_of_some _ (hx _ _ e3), e4, e5⟩⟩
theorem lam_mk {T : List (Addr × Str)} {c P : Addr} {params : Arguments} {body : Expr} {scope : Scope} {pos : Pos} {bs : List (Str × Int)} {E Q : Value → Shared → Prop} (I : Inv X pins σ H s) (TB : LamX.TabB X.base X.mg c P) (hcode : X.env.code = .ref c)
    (hm : (P, lqual X) ∈ T) (hu : ∀ p ∈ T, p.1 = P → p.2 = lqual X) (hT : LamX.Tabs T H) (hp : lamPar params = some bs) (hfree : ∀ y ∈ scope.names, y.2 = .free → ∃ c, X.env.cells.lookup y.1 = some c)
    (h : ∀ (f c' : Addr) (dV doc pm ctv : Value) (H1 : Hp) (s' : Shared), Inv X pins σ H1 s' → (∀ b, H1 b = none → H b = none) → LamX.ExtN H H1 → LamX.Tabs T H1 → s'.heap.get? f = some (PySem.W.kdv_obj "<lambda>" (lqual X) params (.expr body) scope (cloFrom X.env.cells scope.names []) dV doc pm c' ctv) →
      H1 f = none → f ∉ frs X.stack → H1 c' = some (LamX.CodeO c' (lqual X)) → DfOk s'.heap H1 (frs X.stack) bs dV → Q (.ref f) s') :
    wpAny (model X.prog X.w) X.A (eval (.Lambda params body scope pos) X.env) Q E s := by
  have hp' := hp
  unfold lamPar at hp'
  split at hp'
  · cases hp'
    refine PySem.W.kla_eval rfl ?_
    rw [makeFunction_eq]
    simp only [List.zip_nil_right, List.filterMap_nil, List.isEmpty_nil, if_true, pure_bind]
    exact lam_tail I TB hcode hm hu hT hfree ⟨[], .nil, .inl ⟨rfl, rfl⟩⟩ (h · · .none)
  · rename_i a pos' i k p2
    cases hp'
    refine PySem.W.kdv_lam rfl rfl ?_
    refine PySem.W.kdv_all1 (thn ((pe_int (X := X) (i := i) (j := k) (pos := p2)).run pins s σ H (fun v H1 => v = .int i ∧ H1 = H) I ⟨rfl, rfl⟩) ?_)
    rintro u sB ⟨v, HB, J, rv, rfl, rfl⟩
    refine PySem.W.kdv_all0 ?_
    rw [makeFunction_eq]
    simp only [List.zip_nil_right, List.filterMap_nil, List.isEmpty_nil, List.isEmpty_cons, if_true, pure_bind, Bool.false_eq_true, if_false]
    refine wpAny_bind (wpAny_newTextTuple ?_)
    refine lam_tail (bs := [(a, i)]) (dV := .ref sB.heap.objs.size) (J.kept (h' := sB.heap.push (PySem.W.kdv_tup [u])) fun b o e => Heap.get?_push_of_some _ e) TB hcode hm hu hT hfree ?_ (h · · (.ref sB.heap.objs.size))
    exact ⟨[u], .cons rv .nil, .inr ⟨_, rfl, by simp, Heap.get?_push_size _ rfl, J.hok.fresh (Nat.le_refl _), young_nofr J (Nat.le_refl _)⟩⟩
  · cases hp'
end
end Ev

set_option Elab.async false
set_option linter.all false
set_option autoImplicit false
set_option maxRecDepth 100000
set_option maxHeartbeats 1000000
namespace Ev
open PySem PySem.Spec L2

section
variable {X : Cx} {pins : List (Addr × Obj)} {σ : L2.St} {H HZ : Hp} {s s1 : Shared}
/-- the lambda's frame -/
theorem lam_enter {A : Around} {outer : List PySem.Env} {E : XK} {scope : Scope} {f c' : Addr} {h₁ : Heap} {tk : Nat} {N : List Str} {bs : List (Str × Int)} {bi : List (Str × Value)} (hXN : N = X.N) (I : Inv X pins σ H s) (L : LamR N X.env.scope scope bs) (e0 : Env0 X.prog X.w X.K X.mg X.base A outer s1 HZ) (hd : A.handled = none)
    (un : Un (frs X.stack) [] H HZ s.heap s1.heap) (hns : h₁.Ns s1.heap.objs.size fun y => bi.reverse.lookup y) (kp : ∀ b o, s1.heap.get? b = some o → h₁.get? b = some o) :
    Inv (LamX.lamCx X A outer s1 HZ E scope f c') [] σ HZ { s1 with heap := h₁, toks := tk } := by
  subst hXN
  have free := L.has I.ok
  have back : ∀ {y c}, (cloFrom X.env.cells scope.names []).lookup y = some c → X.env.cells.lookup y = some c := fun {y c} e => by
    rcases cloFrom_mem (PySem.mem_of_lookup e) with hm | ⟨h1, h2⟩
    · cases hm
    · obtain ⟨c1, hc⟩ := free _ h1 rfl
      replace hc : X.env.cells.lookup y = some c1 := hc
      rw [hc, h2, hc]; rfl
  have look : ∀ {y}, scope.names.lookup y = some .free → ∃ c, (cloFrom X.env.cells scope.names []).lookup y = some c := fun {y} hl =>
    mem_lookup (cloFrom_has (cells := X.env.cells) (acc := []) (show (y, NameKind.free) ∈ scope.names from PySem.mem_of_lookup hl))
  have cellK : ∀ {c : Addr} {v : Option Value}, H c = none → s.heap.IsCell c v → h₁.IsCell c v := fun {c v} n ⟨o, ho, hdd⟩ => by
    obtain ⟨sl, q⟩ := un.any ho n (by simp)
    exact ⟨_, kp _ _ q, hdd⟩
  have noA : ∀ b : Addr, b ∉ (LamX.lamCx X A outer s1 HZ E scope f c').ex := fun b z => absurd (show b ∈ ([] : List Addr) from z) (by simp)
  have notC : ∀ {y}, scope.names.lookup y ≠ some .cell := fun {y} z => (L.own _ (PySem.mem_of_lookup z)).1 rfl
  constructor
  · refine ⟨e0.mod, L.kind, rfl, rfl, Nat.le_refl _, fun y z c e1 e2 => I.ok.inj y z c (back e1) (back e2), fun y hy => ?_, (fun y c z _ => nomatch (show false = true from z)), fun _ => hd, Around.frames_deeper e0.frames, .inr ⟨rfl, rfl⟩, fun b z => absurd z (noA b), e0.bs, e0.bsz, fun b _ _ => noA b, fun b z => absurd z (noA b), e0.funs, e0.frf⟩
    rcases (show scope.names.lookup y = some .cell ∨ scope.names.lookup y = some .free from hy) with hy | hy
    · exact absurd hy notC
    · exact look hy
  · rfl
  · exact e0.bare
  · exact Un.kept kp
  · refine ⟨_, hns, fun i y v e1 e2 e3 => ?_⟩
    rcases (show Vis scope y from e3) with k | k | k
    · exact absurd (List.mem_of_getElem? e1) ((L.own _ (PySem.mem_of_lookup k)).2 rfl)
    · exact absurd k notC
    · obtain ⟨m, hn, hl⟩ := I.loc
      obtain ⟨w', r, q⟩ := hl i y v e1 e2 ((L.free _ (PySem.mem_of_lookup k) rfl).elim (fun k => .inr (.inl k)) fun k => .inr (.inr k))
      obtain ⟨c2, h2⟩ := look k
      refine ⟨w', r, .inr ⟨.inr k, c2, h2, ?_⟩⟩
      have c1 := back h2
      rcases q with ⟨k', _⟩ | ⟨_, c3, e', z⟩
      · replace k' : X.env.scope.names.lookup y = some .local := k'
        rcases L.free _ (PySem.mem_of_lookup k) rfl with k2 | k2 <;> rw [show X.env.scope.names.lookup y = _ from k2] at k' <;> cases k'
      · rw [c1] at e'; cases e'
        exact cellK (I.freeC y _ c1) z
  · intro y c e
    obtain ⟨w', z⟩ := I.cell y c (back e)
    exact ⟨w', cellK (I.freeC y c (back e)) z⟩
  · exact e0.hok.fresh (Nat.le_refl _)
  · intro y c e
    obtain ⟨v, o, ho, hdd⟩ := I.cell y c (back e)
    exact un.free c o ho (I.freeC y c (back e)) (by simp)
  · exact fun q hq => absurd (show q ∈ ([] : List (Addr × Obj)) ++ [] from hq) (by simp)
  · exact e0.hok.kept kp
  · exact I.len
theorem lam_act {CXg : CXT} {Eg : XK} {Ng : List Str} {qg : Str} {sg : Scope} {g f c' : Addr} {cdg dV doc pm ctv : Value} {params : Arguments} {body : Expr} {scope : Scope} {k i : Nat} {a : Str} {bs : List (Str × Int)} {pn : List (Addr × Obj)} {xe : Value → Shared → Prop} {Zg : L2.St → XK} {tb : XK → TE} {p1 p2 : Pos}
    (I : Inv X pins σ H s) (L : LamR X.N X.env.scope scope bs) (hp : lamPar params = some bs) (hf : s.heap.get? f = some (PySem.W.kdv_obj "<lambda>" (lqual X) params (.expr body) scope (cloFrom X.env.cells scope.names []) dV doc pm c' ctv)) (hfn : H f = none) (hfr : f ∉ frs X.stack) (hdf : DfOk s.heap H (frs X.stack) bs dV)
    (tk : Takes ((cxOf CXg X.prog X.w X.K X.mg X.base Ng qg sg g cdg X.A X.stack s H Eg).tr pn xe) (WZ Zg)) (hr : Room (k + 1) (X.A.deeper (PyProof.Rows.envOfC qg sg s.heap.objs.size g cdg)))
    (hbody : ∀ (A : Around) (outer : List PySem.Env) (s : Shared) (H : Hp) (E : XK), Room k (A.deeper (LamX.lamEnv X scope s.heap.objs.size f c')) → PE (LamX.lamCx X A outer s H E scope f c') body (tb E))
    (hN : Ng[i]? = some a) (hv : Vis sg a) (hd : (a == ("__debug__" : Str)) = false) (hcd : (a == ("__classdict__" : Str)) = false) :
    PE ((cxOf CXg X.prog X.w X.K X.mg X.base Ng qg sg g cdg X.A X.stack s H Eg).tr pn xe) (.Call (.Name a p1) [] [] p2) (fun σZ HZ Q => σZ[i]? = some (some (.ref f)) ∧ HZ c' = some (LamX.CodeO c' (lqual X)) ∧ tb (Zg σZ) σ HZ Q) := by
  refine ⟨fun pinsZ sZ σZ HZ Q IZ ⟨hs, hc, ht⟩ => wpAny_Call_Name_kw (thn ((pe_var (pos := p1) hN hv hd hcd).run pinsZ sZ σZ HZ (fun v H1 => v = .ref f ∧ H1 = HZ) IZ ⟨.ref f, hs, rfl, rfl⟩) ?_)⟩
  rintro u sy ⟨v, H1, J, r1, rfl, rfl⟩
  obtain rfl : u = Value.ref f := r1
  have kp0 : ∀ b o, s.heap.get? b = some o → H b = none → b ∉ frs X.stack → sy.heap.get? b = some o := fun b o e n nf => J.base.keep b o e n nf fun z => nomatch (show b ∈ ([] : List Addr) from z)
  have of1 := kp0 f _ hf hfn hfr
  refine PySem.W.callWith_F0 ⟨_, _, _, _, of1⟩ ?_
  have un : Un (frs X.stack) [] H H1 s.heap sy.heap := J.base
  obtain ⟨⟨oc, vs, t, hoc, hdc, hvc⟩, _, _⟩ := J.hok c' _ hc
  obtain ⟨us, ru, du⟩ := hdf
  have bi := lam_binds (s := sy) (q := lqual X) (body := body) (scope := scope) (cl := cloFrom X.env.cells scope.names []) (dV := dV) (doc := doc) (pm := pm) (cdv := .ref c') (ct := ctv) hp ru (du.imp id fun ⟨t, e1, e2, e3, e4, e5⟩ => ⟨t, e1, e2, kp0 _ _ e3 e4 e5⟩)
  have loc : ∀ y ∈ (bs.map (·.1)).zip us, scope.names.lookup y.1 = some .local := fun ⟨y, z⟩ hy => by
    obtain ⟨b, hb, e⟩ := List.mem_map.mp (List.of_mem_zip hy).1
    rw [← e]; exact L.par b hb
  have rc : codeAny (model X.prog X.w) (X.A.deeper (PyProof.Rows.envOfC qg sg s.heap.objs.size g cdg)) (.call (.ref f) ⟨[], []⟩) (CR (L2.CX X.prog X.w) (PyProof.Rows.envOfC qg sg s.heap.objs.size g cdg :: X.stack) X.prog X.w H1 sy Q (Zg σZ)) sy := by
    refine PySem.W.kla_callFunE hr.depth of1 rfl L.co L.gen rfl ⟨c', oc, vs, t, rfl, hoc, hdc, hvc⟩ (bi _ _ _ _ (wpAny_newFunctionEnv (fun y hy => (L.own y hy).1) loc (fun h₁ hns hsb => ⟨J.nolimit.fresh _ hsb, ?_⟩) L.kind))
    show codeAny _ _ (.expr body (LamX.lamEnv X scope sy.heap.objs.size f c')) _ _
    have kp : ∀ b o, sy.heap.get? b = some o → h₁.get? b = some o := fun b o e => hsb.extBut b o (Nat.ne_of_lt (Heap.lt_size e)) (Heap.get?_push_of_some _ e)
    have G : Inv (LamX.lamCx X (X.A.deeper (PyProof.Rows.envOfC qg sg s.heap.objs.size g cdg)) (PyProof.Rows.envOfC qg sg s.heap.objs.size g cdg :: X.stack) sy H1 (Zg σZ) scope f c') [] σ H1 { sy with heap := h₁, toks := sy.toks + ((bs.map (·.1)).zip us).length } :=
      lam_enter rfl I L J.env0 hr.hd un hns kp
    refine PySem.W.kla_codeExpr (wpAny_mono ((hbody _ _ sy H1 (Zg σZ) (hr.deeper _)).run [] _ _ H1 Q G ht) ?_ fun e s' hq => hq)
    rintro v s' ⟨w', H', G', rv, q⟩
    exact ⟨w', H', G'.os, G'.bare, G'.base, G'.hok, rv, q⟩
  refine wpAny_call (codeAny_mono rc fun r s' hq => ?_)
  match r, hq with
  | .error e, hq => exact passAt tk σZ pinsZ H1 sy e s' J hq
  | .ok (.ret u), hq => exact J.after hq
  | .ok .next, hq => exact False.elim hq
  | .ok .brk, hq => exact False.elim hq
  | .ok .cont, hq => exact False.elim hq
end
end Ev

set_option Elab.async false
set_option linter.all false
set_option autoImplicit false
set_option maxRecDepth 100000
set_option maxHeartbeats 1000000
namespace Ev
open PySem PySem.Spec L2

section
variable {B : Tb} {ρ : Pl} {s : S} {H H1 : Hp}
theorem Rel.made (r : Rel B ρ s H) (dm : ∀ b, H1 b = none → H b = none) (eN : LamX.ExtN H H1) (tb : LamX.Tabs B.T H1) : Ext ρ s.size H ρ s.size H1 ∧ Rel B ρ s H1 := by
  have x : Ext ρ s.size H ρ s.size H1 := ⟨Nat.le_refl _, fun _ _ => rfl, fun a o h nt _ _ => eN a o h nt, fun _ h => h, fun _ h => .inl h, fun i h1 h2 => absurd h2 (Nat.not_lt.mpr h1), dm, fun a o _ h nt => eN a o h nt⟩
  refine ⟨x, r.nd, r.inj, fun i o e => (r.ob i o e).ext x ?_, fun a h => ⟨?_, (r.res a h).2⟩, tb⟩
  · obtain ⟨u, h, nt, _⟩ := r.kind (Rel.lt e)
    rw [h]; exact eN _ _ h nt
  · obtain ⟨o, h⟩ := (r.res a h).1
    cases q : H1 a with
    | none => rw [dm a q] at h; cases h
    | some o' => exact ⟨o', rfl⟩
end
/-- the value of the name that holds the lambda, called -/
def rdQ (B : Tb) (Z : St → XK) (th : S → R W) : TE := fun σ H Q => ∃ (ρ : Pl) (s : S) (e : Env), Rel B ρ s H ∧ EnvD B ρ s.size H e σ ∧ e[0]? = some (some .lam) ∧ Res B (DW B) ρ s.size H (th s) Q (Z σ)
/-- a def at f with one parameter that does, handed a lambda that does th, as h th says -/
def Hears (X : Cx) (B : Tb) (k : Nat) (f : Addr) (h : (S → R W) → S → R W) : Prop :=
  ∃ (fd : FuncData) (a : Str) (Ng : List Str) (qg : Str) (sg : Scope) (cdg : Value), Binds X.K fd [a] [] ∧ Ng[0]? = some a ∧ Vis sg a ∧ (a == ("__debug__" : Str)) = false ∧ (a == ("__classdict__" : Str)) = false ∧
    ∀ (A : Around) (outer : List PySem.Env) (s : Shared) (H : Hp) (Q : VK) (E : XK) (L : Lm) (th : S → R W), Room (k + 2) A → Env0 X.prog X.w X.K X.mg X.base A outer s H → BindsTo s fd ⟨[.ref L.f], []⟩ [(a, .ref L.f)] →
      (∀ (pn : List (Addr × Obj)) (xe : Value → Shared → Prop) (Z : St → XK), Takes ((cxOf (L2.CX X.prog X.w) X.prog X.w X.K X.mg X.base Ng qg sg f cdg A outer s H E).tr pn xe) (WZ Z) → Room (k + 1) (A.deeper (PyProof.Rows.envOfC qg sg s.heap.objs.size f cdg)) → ∀ p1 p2 : Pos,
        PE ((cxOf (L2.CX X.prog X.w) X.prog X.w X.K X.mg X.base Ng qg sg f cdg A outer s H E).tr pn xe) (.Call (.Name a p1) [] [] p2) (rdQ (B.at (some L)) Z th)) →
      (∃ (ρ : Pl) (st : S), Rel B ρ st H ∧ LamD (B.at (some L)) ρ st.size H (.ref L.f) ∧ Res B (DW B) ρ st.size H (h th st) Q E) →
      codeAny (model X.prog X.w) A (.call (.ref f) ⟨[.ref L.f], []⟩) (CR (L2.CX X.prog X.w) outer X.prog X.w H s Q E) s
/-- the table of code objects of the def that runs -/
def LamF (X : Cx) (B : Tb) : Prop := ∃ c P : Addr, X.env.code = .ref c ∧ LamX.TabB X.base X.mg c P ∧ (P, lqual X) ∈ B.T ∧ ∀ p ∈ B.T, p.1 = P → p.2 = lqual X
theorem takes_lam {X : Cx} {A : Around} {outer : List PySem.Env} {s : Shared} {H : Hp} {E : XK} {scope : Scope} {f c' : Addr} : Takes (LamX.lamCx X A outer s H E scope f c') (WZ fun _ => E) := takes_of rfl rfl rfl rfl
section
variable {X : Cx} {B : Tb} {Z : St → XK} {C : Ev.C}
theorem rx_hear {nm : Str} {g : Nat} {f : Addr} {k : Nat} {params : Arguments} {body : Expr} {scope : Scope} {bs : List (Str × Int)} {b : E} {dflt : Bool} {p lpos pos : Pos} (LF : LamF X B) (hg : Gl X nm) (hd : (nm == ("__debug__" : Str)) = false) (hm : X.mg nm = some (.ref f))
    (hk : PySem.W.keepIn X.K (.ref f) = true) (hr : Room (k + 2) X.A) (Hs : Hears X B k f (C.hear g)) (tk : Takes X (WZ Z)) (hp : lamPar params = some bs) (L : LamR X.N X.env.scope scope bs)
    (hb : ∀ (A : Around) (outer : List PySem.Env) (s : Shared) (H : Hp) (E : XK) (f c' : Addr), Room k (A.deeper (LamX.lamEnv X scope s.heap.objs.size f c')) → PE (LamX.lamCx X A outer s H E scope f c') body (rdE B (fun _ => E) (sem C.lower b).e)) :
    PEv X B Z C (.Call (.Name nm p) [.Lambda params body scope lpos] [] pos) (.hear nm g b dflt) := by
  refine ⟨fun pins s σ H Q I ⟨ρ, st, e, r, ed, h⟩ => ?_⟩
  replace h : Res B (DW B) ρ st.size H (if noLam e = true then C.hear g (fun s => (sem C.lower b).e e s) st else .fail) Q (Z σ) := h
  by_cases nl : noLam e = true
  · rw [if_pos nl] at h
    obtain ⟨c, P, hcode, TB, hmT, hu⟩ := LF
    refine wpAny_Call_Name_kw (ld_glob I hg hm ?_ hd)
    refine PySem.W.callWith_K (h₀ := X.base) I.ok.mod.kin hk ?_ (by rfl) (by rfl)
    show wpAny _ _ (spliced ((false, eval (.Lambda params body scope lpos) X.env) :: backTo pos (starEach [] X.env))) _ _ s
    refine Calls.spliced_cons (lam_mk I TB hcode hmT hu r.tb hp (L.has I.ok) ?_)
    intro ff c' dV doc pm ctv H1 s' I1 dm eN T1 hf hfn hfr hco hdf
    refine Calls.spliced_nil ⟨I1.kIn, ?_⟩
    obtain ⟨x1, r1⟩ := r.made dm eN T1
    obtain ⟨fd, a, Ng, qg, sg, cdg, hbd, hN, hv, hda, hca, run⟩ := Hs
    have apart : ∀ i, i < st.size → ρ i ≠ c' := fun i hi z => by
      obtain ⟨u, hu', _, nc⟩ := r1.kind hi
      rw [z, hco] at hu'
      exact nc _ (by rw [z]; exact (Option.some.inj hu').symm)
    have ld : LamD (B.at (some ⟨ff, c', lqual X, e, σ⟩)) ρ st.size H1 (.ref ff) := ⟨_, rfl, rfl, ⟨hco, apart⟩, ((ed.ext x1).envX nl).re _⟩
    have rc := run X.A X.stack s' H1 Q (Z σ) ⟨ff, c', lqual X, e, σ⟩ (fun s => (sem C.lower b).e e s) hr I1.env0 (hbd s' [.ref ff] I1.kIn rfl) (fun pn xe Zg tk' hr' p1 p2 => ?_) ⟨ρ, st, r1, ld, Res.from x1 h⟩
    · refine wpAny_call (codeAny_mono rc fun r s2 hq => ?_)
      match r, hq with
      | .error e, hq => exact passAt tk σ pins H1 s' e s2 I1 hq
      | .ok (.ret u), hq => exact I1.after hq
      | .ok .next, hq => exact False.elim hq
      | .ok .brk, hq => exact False.elim hq
      | .ok .cont, hq => exact False.elim hq
    · refine PE.weak (lam_act (i := 0) (tb := fun E => rdE B (fun _ => E) (sem C.lower b).e) I1 L hp hf hfn hfr hdf tk' hr' (fun A outer s H E hr2 => hb A outer s H E ff c' hr2) hN hv hda hca) ?_
      rintro σZ HZ QZ ⟨ρZ, sZ, eZ, rZ, edZ, e0, hZ⟩
      obtain ⟨v, hv', dv⟩ := edZ.2 0 _ e0
      rcases dv with dv | ⟨_, L', e1, e2, e3, e4⟩
      · cases dv
      · obtain rfl := Option.some.inj (show some (⟨ff, c', lqual X, e, σ⟩ : Lm) = some L' from e1)
        subst e2
        exact ⟨hv', e3.1, ρZ, sZ, e, rZ.un', (e4.re B.lm).envD, hZ.un⟩
  · rw [if_neg nl] at h
    exact (show False from h).elim
/-- the call of what was handed over, wherever in the body -/
def AskOk (X : Cx) (B : Tb) (C : Ev.C) : Prop := ∀ a, X.N[0]? = some a → Vis X.env.scope a → (a == ("__debug__" : Str)) = false → (a == ("__classdict__" : Str)) = false → ∀ (pn : List (Addr × Obj)) (xe : Value → Shared → Prop) (Z : St → XK), Takes (X.tr pn xe) (WZ Z) → ∀ p1 p2 : Pos, PE (X.tr pn xe) (.Call (.Name a p1) [] [] p2) (rdQ B Z C.ask)
theorem AskOk.none (h : C.ask = fun _ => .fail) : AskOk X B C := fun a _ _ _ _ pn xe Z _ p1 p2 => ⟨fun pins s σ H Q I ⟨ρ, st, e, r, ed, e0, hz⟩ => by
  rw [h] at hz
  exact (show False from hz).elim⟩
theorem AskOk.tr (h : AskOk X B C) (pn : List (Addr × Obj)) (xe : Value → Shared → Prop) : AskOk (X.tr pn xe) B C := fun a h1 h2 h3 h4 pn' xe' Z tk => h a h1 h2 h3 h4 pn' xe' Z tk
theorem sx_aska {N : List Str} {sc sto : Scope} {i : Nat} {a nm : Str} {p0 p1 p2 pos : Pos} (T : Sc X N sc sto) (ak : AskOk X B C) (tk : Takes X (WZ Z)) (h0 : N[0]? = some a) (hv : Vis X.env.scope a) (hd : (a == ("__debug__" : Str)) = false) (hcd : (a == ("__classdict__" : Str)) = false)
    (hi : N[i]? = some nm) (hl : isLoc sto nm = true) (hs : swapsWith (.Call (.Name a p1) [] [] p2) (some (.Name nm p0)) pos.line X.env = pure false) : PSv X B Z C (.Assign [.Name nm p0] (.Call (.Name a p1) [] [] p2) pos) (.aska i) := by
  obtain ⟨l1, l2⟩ := T.sto nm hl
  refine PS.weak (ps_set (by rw [T.hN]; exact T.nd) (by rw [T.hN]; exact hi) (by rw [T.scp]; exact l1) (ak a (by rw [T.hN]; exact h0) hv hd hcd X.pn X.xe Z tk p1 p2) hs (by rw [T.scp]; exact l2)) ?_
  rintro D σ H ⟨ρ, s, e, r, ed, h⟩
  replace h : ResS B ρ s.size H (match e[0]? with
    | some (some W.lam) => lift (C.ask s) e fun w s1 => .ok (.nx (e.set i (some w))) s1
    | _ => .fail) D Z := h
  split at h
  · rename_i he
    refine ⟨ρ, s, e, r, ed, he, (ResS.lift ed h).mono ?_⟩
    rintro v1 H1 ⟨ρ1, s1, w1, x1, r1, d1, h1⟩
    exact h1 ρ1 H1 _ Ext.refl r1 ((ed.ext x1).set d1)
  · exact (show False from h).elim
end
end Ev

set_option Elab.async false
set_option linter.all false
set_option autoImplicit false
set_option maxRecDepth 100000
namespace Ev
open PySem PySem.Spec L2

theorem upd_two {H : Hp} {p : Addr} {o o' : HO} : upd (upd H p o) p o' = upd H p o' := by
  funext b
  unfold upd
  split <;> rfl
section
variable {X : Cx} {B : Tb} {Z : St → XK} {C : Ev.C}
/-- a dict of one pair, never looked into -/
theorem rx_dct {k : Str} {i : Int} {j1 j2 : Nat} {p1 p2 pos : Pos} : PEv X B Z C (.Dict [some (.Constant (.str k) j1 p1)] [.Constant (.int i) j2 p2] pos) (.dct k i) := by
  refine PE.weak (pe_disp (pps_cons pe_str pe_int pps_nil) rfl rfl (by simp) (by simp)) ?_
  rintro σ H Q ⟨ρ, s, e, r, ed, h⟩ p hp
  refine ⟨upd_same, [(.inr k, .int i)], rfl, by simp, ?_⟩
  rw [upd_two]
  exact h ρ _ (.ref p) (Ext.laid hp) (r.laid hp) (.dct (Fz.laid r hp))
end
end Ev

set_option Elab.async false
set_option linter.all false
set_option autoImplicit false
set_option maxRecDepth 100000
namespace Ev
open PySem PySem.Spec L2

/-! ### equality of plain values -/
mutual
def W.beq : W → W → Bool
  | .non, .non => true
  | .bl a, .bl b => a == b
  | .int a, .int b => decide (a = b)
  | .str a, .str b => decide (a = b)
  | .tup a, .tup b => beqL a b
  | .lst a, .lst b => beqL a b
  | .fn a, .fn b => a == b
  | .cls a, .cls b => a == b
  | .ty a, .ty b => a == b
  | _, _ => false
def beqL : List W → List W → Bool
  | [], [] => true
  | a :: as, b :: bs => W.beq a b && beqL as bs
  | _, _ => false
end
mutual
theorem W.beq_eq : ∀ {a b : W}, W.beq a b = true → a = b
  | .non, b, h => by cases b <;> first | rfl | exact nomatch (show false = true from h)
  | .bl a, b, h => by cases b <;> first | exact nomatch (show false = true from h) | exact congrArg _ (beq_iff_eq.mp (show (a == _) = true from h))
  | .int a, b, h => by cases b <;> first | exact nomatch (show false = true from h) | exact congrArg _ (of_decide_eq_true (show decide (a = _) = true from h))
  | .str a, b, h => by cases b <;> first | exact nomatch (show false = true from h) | exact congrArg _ (of_decide_eq_true (show decide (a = _) = true from h))
  | .tup a, b, h => by cases b <;> first | exact nomatch (show false = true from h) | exact congrArg _ (beqL_eq (show beqL a _ = true from h))
  | .lst a, b, h => by cases b <;> first | exact nomatch (show false = true from h) | exact congrArg _ (beqL_eq (show beqL a _ = true from h))
  | .frl a, b, h => by cases b <;> exact nomatch (show false = true from h)
  | .ref a, b, h => by cases b <;> exact nomatch (show false = true from h)
  | .fn a, b, h => by cases b <;> first | exact nomatch (show false = true from h) | exact congrArg _ (beq_iff_eq.mp (show (a == _) = true from h))
  | .cls a, b, h => by cases b <;> first | exact nomatch (show false = true from h) | exact congrArg _ (beq_iff_eq.mp (show (a == _) = true from h))
  | .ty a, b, h => by cases b <;> first | exact nomatch (show false = true from h) | exact congrArg _ (beq_iff_eq.mp (show (a == _) = true from h))
  | .exn _ _, b, h => by cases b <;> exact nomatch (show false = true from h)
  | .dct, b, h => by cases b <;> exact nomatch (show false = true from h)
  | .lam, b, h => by cases b <;> exact nomatch (show false = true from h)
theorem beqL_eq : ∀ {a b : List W}, beqL a b = true → a = b
  | [], [], _ => rfl
  | [], _ :: _, h => nomatch (show false = true from h)
  | _ :: _, [], h => nomatch (show false = true from h)
  | x :: xs, y :: ys, h => by
    have h' : (W.beq x y && beqL xs ys) = true := h
    rw [Bool.and_eq_true] at h'
    rw [W.beq_eq h'.1, beqL_eq h'.2]
end

/-! ### what is known of the whole program -/
structure Sig where
  n : Nat
  ks : List Str
  ix : List Nat
  ds : List W
def Sig.beq (a b : Sig) : Bool := a.n == b.n && decide (a.ks = b.ks) && decide (a.ix = b.ix) && beqL a.ds b.ds
theorem Sig.beq_eq {a b : Sig} (h : Sig.beq a b = true) : a = b := by
  obtain ⟨n, ks, ix, ds⟩ := a
  obtain ⟨n', ks', ix', ds'⟩ := b
  have h' : (n == n' && decide (ks = ks') && decide (ix = ix') && beqL ds ds') = true := h
  rw [Bool.and_eq_true, Bool.and_eq_true, Bool.and_eq_true, beq_iff_eq, decide_eq_true_eq, decide_eq_true_eq] at h'
  obtain ⟨⟨⟨h1, h2⟩, h3⟩, h4⟩ := h'
  subst h1 h2 h3
  rw [beqL_eq h4]
/-- names of the module: data, built-ins, defs (plain calls, calls of a kind), classes (plain making, of a kind), methods of a kind, names of fields -/
structure Tab where
  gls : List (Str × W)
  bns : List Str
  fns : List (Str × Nat)
  fks : List (Str × Nat × Sig)
  mks : List (Str × Nat)
  mkk : List (Str × Nat × Sig)
  mts : List Str
  mtk : List (Str × Sig)
  tys : List (Str × Nat)
  rss : List (Str × Nat)
  fld : List Str
  hrs : List (Str × Nat)
  cts : List Nat
  lam : Bool
/-- where no lambda is made -/
def Tab.off (D : Tab) : Tab := { D with lam := false }
def Tab.on (D : Tab) (b : Bool) : Tab := { D with lam := b }
structure Facts0 (X : Cx) (B : Tb) (C : Ev.C) (D : Tab) : Prop where
  hK : B.K = X.K
  hu : X.A.units + 65 < cLine
  gls : ∀ q ∈ D.gls, ∃ v u, X.mg q.1 = some u ∧ RelV v u ∧ ∀ (ρ : Pl) (n : Nat) (H : Hp), Den B ρ n H q.2 v
  bns : ∀ x ∈ D.bns, X.mg x = none
  fns : ∀ q ∈ D.fns, X.mg q.1 = some (.ref (B.fa q.2)) ∧ ∃ k, Room k X.A ∧ Does X B k (B.fa q.2) (C.call q.2)
  fks : ∀ q ∈ D.fks, X.mg q.1 = some (.ref (B.fa q.2.1)) ∧ ∃ k, Room k X.A ∧ DoesK X B k (B.fa q.2.1) (C.call q.2.1) 0 q.2.2.n q.2.2.ks q.2.2.ix q.2.2.ds
  mks : ∀ q ∈ D.mks, X.mg q.1 = some (.ref (B.ca q.2)) ∧ ∃ (g : Nat) (f : Addr) (k : Nat), C.makes q.2 = some g ∧ Mk X.K (B.ca q.2) f ∧ Room (k + 1) X.A ∧ Does X B k f (C.init g)
  mkk : ∀ q ∈ D.mkk, X.mg q.1 = some (.ref (B.ca q.2.1)) ∧ ∃ (g : Nat) (f : Addr) (k : Nat), C.makes q.2.1 = some g ∧ Mk X.K (B.ca q.2.1) f ∧ Room (k + 1) X.A ∧ DoesK X B k f (C.init g) 1 q.2.2.n q.2.2.ks q.2.2.ix q.2.2.ds
  mts : ∀ m ∈ D.mts, m ∉ B.fn ∧ ∀ c g, (C.makes c).isSome = true → C.meth c m = some g → ∃ (f : Addr) (k : Nat), Meth X.K (B.ca c) m f ∧ Room k X.A ∧ Does X B k f (C.call g)
  mtk : ∀ q ∈ D.mtk, q.1 ∉ B.fn ∧ ∀ c g, (C.makes c).isSome = true → C.meth c q.1 = some g → ∃ (f : Addr) (k : Nat), Meth X.K (B.ca c) q.1 f ∧ Room k X.A ∧ DoesK X B k f (C.call g) 1 q.2.n q.2.ks q.2.ix q.2.ds
  tys : ∀ q ∈ D.tys, X.mg q.1 = some (.ref (B.ca q.2))
  rss : ∀ q ∈ D.rss, X.mg q.1 = some (.ref (B.ca q.2)) ∧ Room 1 X.A ∧ Raisable X.prog X.K B C q.2
  fld : B.fn = D.fld
  kls : ∀ c, (C.makes c).isSome = true → Kls X B c
  exs : ∀ c, (C.excf c).isSome = true → Exk X B c
  isa : Isa X B C
  cts : ∀ c ∈ D.cts, ∀ a r, (C.excf a).isSome = true → C.sub a c = some r → PySem.W.exmOne X.K (.ref (B.ca a)) (.ref (B.ca c)) = some r
structure Facts (X : Cx) (B : Tb) (C : Ev.C) (D : Tab) : Prop extends Facts0 X B C D where
  lam : D.lam = true → LamF X B ∧ ∃ k, Room (k + 2) X.A ∧ (∀ q ∈ D.hrs, X.mg q.1 = some (.ref (B.fa q.2)) ∧ PySem.W.keepIn X.K (.ref (B.fa q.2)) = true ∧ Hears X B k (B.fa q.2) (C.hear q.2)) ∧
    ∀ X' : Cx, X'.prog = X.prog → X'.w = X.w → X'.K = X.K → X'.mg = X.mg → X'.base = X.base → Room k X'.A → Facts0 X' B C.lower D.off
theorem Facts.ofLow {X : Cx} {B : Tb} {C : Ev.C} {D : Tab} (F : Facts0 X B C D.off) : Facts X B C D.off := ⟨F, fun h => nomatch (show false = true from h)⟩

/-! ### a term against the code it is of -/
structure Ck where
  e : Expr → Bool
  t : Expr → Bool
  w : Expr → Bool
  a : List Expr → Bool
  i : Expr → Expr → Bool
  p : Option Expr → Bool
  n : List Expr → Bool
  k : List Keyword → Bool
  u : Expr → Bool
  v : Expr → Expr → Bool
  tv : Expr → Expr → Bool
def no1 {α : Type} : α → Bool := fun _ => false
def no2 {α β : Type} : α → β → Bool := fun _ _ => false
/-- its test is its truth -/
def plainT : Expr → Bool
  | .UnaryOp .Not _ _ => false
  | .BoolOp _ _ _ => false
  | .IfExp _ _ _ _ => false
  | .Compare _ _ _ _ => false
  | _ => true
theorem plainT_of {x : Expr} (h : plainT x = true) {env : PySem.Env} {whole : Sem Value} : isTrue x env whole = (do let v ← whole; standAt x.pos; holding [v] (truthy v)) := by
  cases x with
  | UnaryOp o _ _ => cases o <;> first | rfl | exact nomatch (show false = true from h)
  | BoolOp _ _ _ => exact nomatch (show false = true from h)
  | IfExp _ _ _ _ => exact nomatch (show false = true from h)
  | Compare _ _ _ _ => exact nomatch (show false = true from h)
  | _ => rfl
def notSet : Expr → Bool
  | .Set _ _ _ => false
  | _ => true
theorem notSet_of {x : Expr} (h : notSet x = true) {env : PySem.Env} (v : Value) : foldedSetIterable x env v = pure v := by
  cases x <;> first | rfl | exact nomatch h
def Ck.ofE (f : Expr → Bool) : Ck where
  e := f
  t := fun x => plainT x && f x
  w := no1
  a := no1
  i := fun _ x => f x
  p := fun o => match o with
    | some x => f x
    | none => false
  n := fun xs => match xs with
    | [x] => plainT x && f x
    | _ => false
  k := no1
  u := no1
  v := no2
  tv := no2
def Ck.ofT (f t w : Expr → Bool) : Ck where
  e := f
  t := t
  w := w
  a := no1
  i := no2
  p := no1
  n := fun xs => match xs with
    | [x] => t x
    | _ => false
  k := no1
  u := no1
  v := no2
  tv := no2
def glB (sc : Scope) (x : Str) : Bool := decide (sc.names.lookup x = some .globalImplicit) && !(x == ("__debug__" : Str))
def visB (sc : Scope) (x : Str) : Bool := (sc.names.lookup x == some .local || sc.names.lookup x == some .cell || sc.names.lookup x == some .free) && !(x == ("__debug__" : Str)) && !(x == ("__classdict__" : Str))
def isNilE : E → Bool
  | .nil => true
  | _ => false
/-- no arguments, none told -/
def nilOk (xs : List Expr) (a : E) : Bool := !xs.isEmpty || isNilE a
def tyB (D : Tab) (sc : Scope) (x : Str) : Ty → Bool
  | .b n => bTys.contains n && decide (x = Str.ofString n) && decide (x ∈ D.bns) && glB sc x && !decide (x = "__name__")
  | .c y d => decide (x = y) && decide ((y, d) ∈ D.tys) && glB sc x && !decide (x = "__name__")
def tyNames (D : Tab) (sc : Scope) : List Expr → List Ty → Bool
  | [], [] => true
  | .Name x _ :: es, t :: ts => tyB D sc x t && tyNames D sc es ts
  | _, _ => false
def isTys (D : Tab) (sc : Scope) (ts : List Ty) (tn : Expr) (many : Bool) : Bool := match tn, many with
  | .Name c _, false => (match ts with
    | [t] => tyB D sc c t
    | _ => false)
  | .Tuple cs _ _, true => tyNames D sc cs ts
  | _, _ => false
def smNm (m : Sm) (nm : Str) : Bool := match m with
  | .split => decide (nm = "split")
  | .join => decide (nm = "join")
  | .append => decide (nm = "append")
  | _ => false
def ck (D : Tab) (N : List Str) : E → Scope → Scope → Ck
  | .k w, _, _ => .ofE fun x => match x, w with
    | .Constant .none _ _, .non => true
    | .Constant (.bool b) _ _, .bl c => b == c
    | .Constant (.int i) _ _, .int j => decide (i = j)
    | .Constant (.str s) _ _, .str t => decide (s = t)
    | _, _ => false
  | .v i, sc, _ => .ofE fun x => match x with
    | .Name nm _ => decide (N[i]? = some nm) && visB sc nm
    | _ => false
  | .gl y w, sc, _ => .ofE fun x => match x with
    | .Name nm _ => decide (nm = y) && glB sc nm && D.gls.any fun q => decide (q.1 = nm) && W.beq q.2 w
    | _ => false
  | .bin o a b, sc, st => .ofE fun x => match x with
    | .BinOp l op r _ => decide (op = o.py) && (ck D N a sc st).e l && (ck D N b sc st).e r
    | _ => false
  | .not_ a, sc, st => .ofT (fun x => match x with
    | .UnaryOp .Not y _ => (ck D N a sc st).e y
    | _ => false) (fun x => match x with
    | .UnaryOp .Not y _ => (ck D N a sc st).t y
    | _ => false) no1
  | .neg a, sc, st => .ofE fun x => match x with
    | .UnaryOp .USub y _ => (ck D N a sc st).e y
    | _ => false
  | .one a, sc, st => .ofT (fun x => match x with
    | .BoolOp _ [y] _ => (ck D N a sc st).e y
    | _ => false) no1 (fun x => match x with
    | .BoolOp _ [y] _ => (ck D N a sc st).t y
    | _ => false)
  | .and_ a b, sc, st =>
    let w : Expr → Bool := fun x => match x with
      | .BoolOp .And (y :: z :: r) p => (ck D N a sc st).t y && (ck D N b sc st).w (.BoolOp .And (z :: r) p)
      | _ => false
    .ofT (fun x => match x with
      | .BoolOp .And (y :: z :: r) p => (ck D N a sc st).e y && (ck D N b sc st).e (.BoolOp .And (z :: r) p)
      | _ => false) w w
  | .or_ a b, sc, st =>
    let w : Expr → Bool := fun x => match x with
      | .BoolOp .Or (y :: z :: r) p => (ck D N a sc st).t y && (ck D N b sc st).w (.BoolOp .Or (z :: r) p)
      | _ => false
    .ofT (fun x => match x with
      | .BoolOp .Or (y :: z :: r) p => (ck D N a sc st).e y && (ck D N b sc st).e (.BoolOp .Or (z :: r) p)
      | _ => false) w w
  | .ite t a b, sc, st => { Ck.ofE (fun x => match x with
    | .IfExp x y z _ => (ck D N t sc st).t x && (ck D N a sc st).e y && (ck D N b sc st).e z
    | _ => false) with t := no1, n := no1 }
  | .cmp o a b, sc, st =>
    let f : Expr → Bool := fun x => match x with
      | .Compare x [op] [y] _ => decide (op = o.py) && !(behindInMarks op y) && (ck D N a sc st).e x && (ck D N b sc st).e y
      | _ => false
    { Ck.ofE f with t := f, n := fun xs => match xs with
      | [x] => f x
      | _ => false }
  | .cmp2 o o' a b c, sc, st =>
    let f : Expr → Bool := fun x => match x with
      | .Compare x [op, op'] [y, z] _ => decide (op = o.py) && decide (op' = o'.py) && !(lastMarks [op, op'] [y, z]) && (ck D N a sc st).e x && (ck D N b sc st).e y && (ck D N c sc st).e z
      | _ => false
    { Ck.ofE f with t := f, n := fun xs => match xs with
      | [x] => f x
      | _ => false }
  | .call y g a, sc, st => .ofE fun x => match x with
    | .Call (.Name nm _) xs [] _ => decide (nm = y) && decide ((y, g) ∈ D.fns) && glB sc y && nilOk xs a && xs.all unstarred && (ck D N a sc st).a xs
    | _ => false
  | .callk y g n a b ks ix ds, sc, st => .ofE fun x => match x with
    | .Call (.Name nm _) xs kws _ => decide (nm = y) && (D.fks.any fun q => decide (q.1 = y) && (q.2.1 == g) && Sig.beq q.2.2 ⟨n, ks, ix, ds⟩) && glB sc y && nilOk xs a && decide (kwNm kws = some ks) && xs.all unstarred && (ck D N a sc st).a xs && (ck D N b sc st).k kws
    | _ => false
  | .mk y c a, sc, st => .ofE fun x => match x with
    | .Call (.Name nm _) xs [] _ => decide (nm = y) && decide ((y, c) ∈ D.mks) && glB sc y && nilOk xs a && xs.all unstarred && (ck D N a sc st).a xs
    | _ => false
  | .mkk y c n a b ks ix ds, sc, st => .ofE fun x => match x with
    | .Call (.Name nm _) xs kws _ => decide (nm = y) && (D.mkk.any fun q => decide (q.1 = y) && (q.2.1 == c) && Sig.beq q.2.2 ⟨n, ks, ix, ds⟩) && glB sc y && nilOk xs a && decide (kwNm kws = some ks) && xs.all unstarred && (ck D N a sc st).a xs && (ck D N b sc st).k kws
    | _ => false
  | .meth o m a, sc, st => .ofE fun x => match x with
    | .Call (.Attribute y nm ap) xs [] p => decide (nm = m) && decide (m ∈ D.mts) && baseOk y && (ck D N o sc st).e y && nilOk xs a && xs.all unstarred && decide (xs.length < 30) && (ap.endLine == p.line) && (ck D N a sc st).a xs
    | _ => false
  | .methk o m n a b ks ix ds, sc, st => .ofE fun x => match x with
    | .Call (.Attribute y nm ap) xs kws p => decide (nm = m) && (D.mtk.any fun q => decide (q.1 = m) && Sig.beq q.2 ⟨n, ks, ix, ds⟩) && baseOk y && (ck D N o sc st).e y && nilOk xs a && decide (kwNm kws = some ks) && xs.all unstarred && decide (xs.length + kws.length < 29) && (ap.endLine == p.line) && (ck D N a sc st).a xs && (ck D N b sc st).k kws
    | _ => false
  | .attr o f, sc, st => .ofE fun x => match x with
    | .Attribute y nm _ => decide (D.fld[f]? = some nm) && baseOk y && (ck D N o sc st).e y
    | _ => false
  | .sub o i, sc, st => .ofE fun x => match x with
    | .Subscript y z _ => notSlice z && (ck D N o sc st).e y && (ck D N i sc st).e z
    | _ => false
  | .slice o lo hi, sc, st => .ofE fun x => match x with
    | .Subscript y (.Slice l h none _) _ => (ck D N o sc st).e y && (ck D N lo sc st).p l && (ck D N hi sc st).p h
    | _ => false
  | .tup a, sc, st => { Ck.ofE (fun x => match x with
    | .Tuple xs _ _ => (ck D N a sc st).a xs
    | _ => false) with tv := fun x y => (ck D N a sc st).v x y }
  | .lst a, sc, st => .ofE fun x => match x with
    | .List xs _ => (ck D N a sc st).a xs
    | _ => false
  | .mls a, sc, st => .ofE fun x => match x with
    | .List xs _ => (ck D N a sc st).a xs
    | _ => false
  | .odd _, _, _ => .ofE fun _ => true
  | .comp p a b c, sc, st => .ofE fun x => match x with
    | .ListComp elt [⟨tg, it, ifs, as⟩] scope _ => decide (as = 0) && blkC N sc scope (ownOf N p) && (ckP N scope p).1 tg && notSet it && (ck D N b sc st).i tg it && (ck D.off N c (relS scope sc) scope).n ifs && (ck D.off N a (relS scope sc) scope).e elt
    | _ => false
  | .bi b a, sc, st => .ofE fun x => match x with
    | .Call (.Name nm _) (y :: ys) [] _ => decide (nm = b.nm) && decide (b.nm ∈ D.bns) && glB sc b.nm && (y :: ys).all unstarred && (ck D N a sc st).a (y :: ys)
    | _ => false
  | .isin a ts many, sc, st => .ofE fun x => match x with
    | .Call (.Name nm _) [y, tn] [] _ => decide (nm = "isinstance") && decide (("isinstance" : Str) ∈ D.bns) && glB sc "isinstance" && unstarred y && (ck D N a sc st).e y && !ts.isEmpty && decide (ts.length ≤ 100) && isTys D sc ts tn many
    | _ => false
  | .sm m o a, sc, st => .ofE fun x => match x with
    | .Call (.Attribute y nm ap) [z] [] p => smNm m nm && baseOk y && (ck D N o sc st).e y && unstarred z && (ap.endLine == p.line) && (ck D N a sc st).u z
    | _ => false
  | .rng a, sc, st => { Ck.ofE no1 with i := fun _ x => match x with
    | .Call (.Name nm _) [y] [] _ => decide (nm = "range") && decide (("range" : Str) ∈ D.bns) && glB sc "range" && unstarred y && (ck D N a sc st).u y
    | .Call (.Name nm _) [y, z] [] _ => decide (nm = "range") && decide (("range" : Str) ∈ D.bns) && glB sc "range" && unstarred y && unstarred z && (ck D N a sc st).v y z
    | _ => false }
  | .enum a, sc, st => { Ck.ofE no1 with i := fun tg x => match tg, x with
    | .Tuple _ _ _, .Call (.Name nm _) [y] [] _ => decide (nm = "enumerate") && decide (("enumerate" : Str) ∈ D.bns) && glB sc "enumerate" && unstarred y && (ck D N a sc st).e y
    | _, _ => false }
  | .hear y g b _, sc, _ => .ofE fun x => match x with
    | .Call (.Name nm _) [.Lambda params body scope _] [] _ => D.lam && decide (nm = y) && decide ((y, g) ∈ D.hrs) && glB sc y && (match lamPar params with
      | some bs => lamRB N sc scope bs
      | none => false) && (ck D.off N b scope { scope with names := [] }).e body
    | _ => false
  | .ask _, _, _ => .ofE no1
  | .dct k i, _, _ => .ofE fun x => match x with
    | .Dict [some (.Constant (.str k') _ _)] [.Constant (.int i') _ _] _ => decide (k = k') && decide (i = i')
    | _ => false
  | .nil, _, _ => { Ck.ofE no1 with a := fun xs => xs.isEmpty, p := fun o => o.isNone, n := fun xs => xs.isEmpty, k := fun xs => xs.isEmpty }
  | .cons a b, sc, st => { Ck.ofE no1 with
      a := fun xs => match xs with
        | x :: xs => unstarred x && (ck D N a sc st).e x && (ck D N b sc st).a xs
        | [] => false
      k := fun xs => match xs with
        | ⟨_, x, _⟩ :: xs => (ck D N a sc st).e x && (ck D N b sc st).k xs
        | [] => false
      u := fun x => (ck D N a sc st).e x && isNilE b
      v := fun x y => (ck D N a sc st).e x && (ck D N b sc st).u y }
end Ev

set_option Elab.async false
set_option linter.all false
set_option autoImplicit false
set_option maxRecDepth 100000
namespace Ev
open PySem PySem.Spec L2

structure SE (X : Cx) (B : Tb) (Z : St → XK) (C : Ev.C) (r : E) (c : Ck) : Prop where
  e : ∀ x, c.e x = true → PEv X B Z C x r
  t : ∀ x, c.t x = true → PTv X B Z C x r
  w : ∀ x, c.w x = true → PW X x (rdT B Z (sem C r).t)
  a : ∀ xs, c.a xs = true → PAv X B Z C xs r
  i : ∀ tg x, c.i tg x = true → PIv X B Z C tg x r
  p : ∀ o, c.p o = true → PO X o (rdP B Z (sem C r).p)
  n : ∀ xs, c.n xs = true → PTs X xs (rdT B Z (sem C r).n)
  k : ∀ ks, c.k ks = true → PKv X B Z C ks r
  u : ∀ x, c.u x = true → ∃ b, r = .cons b .nil ∧ PEv X B Z C x b
  v : ∀ x y, c.v x y = true → ∃ b d, r = .cons b (.cons d .nil) ∧ PEv X B Z C x b ∧ PEv X B Z C y d
  tv : ∀ x y, c.tv x y = true → ∃ b d, r = .tup (.cons b (.cons d .nil)) ∧ PEv X B Z C x b ∧ PEv X B Z C y d

section
variable {X : Cx} {B : Tb} {Z : St → XK} {C : Ev.C} {a b c : E} {x y z : Expr} {pos : Pos} {D : Tab} {N : List Str} {sc sto : Scope}
theorem SE.mkE {f : Expr → Bool} {g : Env → S → R W} (hK : B.K = X.K) (hM : sem C a = M.ofE g) (hf : ∀ x, f x = true → PEv X B Z C x a) : SE X B Z C a (Ck.ofE f) := by
  have ht : ∀ x, (plainT x && f x) = true → PTv X B Z C x a := fun x h => by
    rw [Bool.and_eq_true] at h
    exact tx_of hK (hf x h.2) (fun whole => plainT_of h.1) (fun e s => by rw [hM]; rfl)
  refine ⟨hf, ht, fun x h => ff h, fun x h => ff h, fun tg x h => ix_of hK (hf x h) (fun e s => by rw [hM]; rfl), fun o h => ?_, fun xs h => ?_, fun x h => ff h, fun x h => ff h, fun x y h => ff h, fun x y h => ff h⟩
  · cases o with
    | none => exact ff h
    | some x => exact ox_some (hf x h) (fun e s => by rw [hM]; rfl)
  · match xs, h with
    | [x], h => exact nx_one (ht x h) (fun e s => by rw [hM]; rfl)
    | [], h => exact ff h
    | _ :: _ :: _, h => exact ff h
theorem SE.mkT {f t w : Expr → Bool} (hf : ∀ x, f x = true → PEv X B Z C x a) (ht : ∀ x, t x = true → PTv X B Z C x a) (hw : ∀ x, w x = true → PW X x (rdT B Z (sem C a).t)) (hn : ∀ e s, (sem C a).n e s = (sem C a).t e s) : SE X B Z C a (Ck.ofT f t w) := by
  refine ⟨hf, ht, hw, fun x h => ff h, fun tg x h => ff h, fun o h => ff h, fun xs h => ?_, fun x h => ff h, fun x h => ff h, fun x y h => ff h, fun x y h => ff h⟩
  match xs, h with
  | [x], h => exact nx_one (ht x h) hn
  | [], h => exact ff h
  | _ :: _ :: _, h => exact ff h
theorem gl_of {x : Str} (T : Sc X N sc sto) (h : glB sc x = true) : Gl X x ∧ (x == ("__debug__" : Str)) = false := by
  unfold glB at h
  rw [Bool.and_eq_true, decide_eq_true_eq, Bool.not_eq_true'] at h
  refine ⟨?_, h.2⟩
  show X.env.scope.names.lookup x = _
  rw [T.scp]
  exact h.1
theorem vis_of {x : Str} (T : Sc X N sc sto) (h : visB sc x = true) : Vis X.env.scope x ∧ (x == ("__debug__" : Str)) = false ∧ (x == ("__classdict__" : Str)) = false := by
  unfold visB at h
  rw [Bool.and_eq_true, Bool.and_eq_true, Bool.or_eq_true, Bool.or_eq_true, beq_iff_eq, beq_iff_eq, beq_iff_eq, Bool.not_eq_true', Bool.not_eq_true'] at h
  refine ⟨?_, h.1.2, h.2⟩
  rw [T.scp]
  exact h.1.1.elim (fun z => z.elim .inl fun z => .inr (.inl z)) fun z => .inr (.inr z)
theorem nilOk_of {xs : List Expr} (h : nilOk xs a = true) : xs = [] → a = .nil := fun e => by
  subst e
  have h' : isNilE a = true := h
  cases a <;> first | rfl | exact ff h'
theorem tyNm_of {t : Ty} {nm : Str} (F : Facts X B C D) (T : Sc X N sc sto) (h : tyB D sc nm t = true) : nm = tyName t ∧ TyNm X B t := by
  cases t with
  | b n =>
    have h' : (bTys.contains n && decide (nm = Str.ofString n) && decide (nm ∈ D.bns) && glB sc nm && !decide (nm = "__name__")) = true := h
    simp only [Bool.and_eq_true, decide_eq_true_eq, Bool.not_eq_true', decide_eq_false_iff_not] at h'
    obtain ⟨⟨⟨⟨h1, h2⟩, h3⟩, h4⟩, h5⟩ := h'
    subst h2
    obtain ⟨g1, g2⟩ := gl_of T h4
    exact ⟨rfl, g1, g2, h5, F.bns _ h3, by simpa using h1⟩
  | c y d =>
    have h' : (decide (nm = y) && decide ((y, d) ∈ D.tys) && glB sc nm && !decide (nm = "__name__")) = true := h
    simp only [Bool.and_eq_true, decide_eq_true_eq, Bool.not_eq_true', decide_eq_false_iff_not] at h'
    obtain ⟨⟨⟨h1, h2⟩, h3⟩, h4⟩ := h'
    subst h1
    obtain ⟨g1, g2⟩ := gl_of T h3
    exact ⟨rfl, g1, g2, h4, F.tys _ h2⟩
theorem tyNames_of (F : Facts X B C D) (T : Sc X N sc sto) : ∀ {xs : List Expr} {ts : List Ty}, tyNames D sc xs ts = true → ∃ ps : List Pos, xs = namesOf ts ps ∧ ts.length = ps.length ∧ ∀ t ∈ ts, TyNm X B t
  | [], [], _ => ⟨[], rfl, rfl, fun t ht => absurd ht (by simp)⟩
  | [], _ :: _, h => ff h
  | x :: xs, [], h => by cases x <;> exact ff h
  | x :: xs, t :: ts, h => by
    cases x <;> first | exact ff h | skip
    rename_i nm p
    have h' : (tyB D sc nm t && tyNames D sc xs ts) = true := h
    rw [Bool.and_eq_true] at h'
    obtain ⟨ps, e1, e2, e3⟩ := tyNames_of F T h'.2
    obtain ⟨n1, n2⟩ := tyNm_of F T h'.1
    subst n1 e1
    exact ⟨p :: ps, rfl, by simp [e2], fun t' ht => (List.mem_cons.mp ht).elim (fun z => z ▸ n2) (e3 t')⟩
end

section
variable {B : Tb} {C : Ev.C} {D : Tab} {N : List Str}
theorem Facts0.same {X X' : Cx} (F : Facts0 X B C D) (h1 : X'.prog = X.prog) (h2 : X'.w = X.w) (h3 : X'.K = X.K) (h4 : X'.mg = X.mg) (h5 : X'.base = X.base) (h6 : X'.A = X.A) : Facts0 X' B C D := by
  obtain ⟨a1, a2, a3, a4, a5, a6, _, _, _, _, _, _, _, _, _, _, _⟩ := X
  obtain ⟨b1, b2, b3, b4, b5, b6, _, _, _, _, _, _, _, _, _, _, _⟩ := X'
  dsimp only at h1 h2 h3 h4 h5 h6
  subst h1 h2 h3 h4 h5 h6
  refine ⟨F.hK, F.hu, F.gls, F.bns, fun q h => ?_, fun q h => ?_, fun q h => ?_, fun q h => ?_, fun m h => ?_, fun q h => ?_, F.tys, F.rss, F.fld, fun c h => ?_, fun c h => ?_, ?_, F.cts⟩
  · obtain ⟨e, k, r, d⟩ := F.fns q h
    exact ⟨e, k, r, ⟨d.ok, d.kp⟩⟩
  · obtain ⟨e, k, r, d⟩ := F.fks q h
    exact ⟨e, k, r, ⟨d.ok, d.kp⟩⟩
  · obtain ⟨e, g, f, k, e2, m, r, d⟩ := F.mks q h
    exact ⟨e, g, f, k, e2, m, r, ⟨d.ok, d.kp⟩⟩
  · obtain ⟨e, g, f, k, e2, m, r, d⟩ := F.mkk q h
    exact ⟨e, g, f, k, e2, m, r, ⟨d.ok, d.kp⟩⟩
  · obtain ⟨e, z⟩ := F.mts m h
    refine ⟨e, fun c g h1 h2 => ?_⟩
    obtain ⟨f, k, m, r, d⟩ := z c g h1 h2
    exact ⟨f, k, m, r, ⟨d.ok, d.kp⟩⟩
  · obtain ⟨e, z⟩ := F.mtk q h
    refine ⟨e, fun c g h1 h2 => ?_⟩
    obtain ⟨f, k, m, r, d⟩ := z c g h1 h2
    exact ⟨f, k, m, r, ⟨d.ok, d.kp⟩⟩
  · obtain ⟨e, z⟩ := F.kls c h
    exact ⟨e, z⟩
  · obtain ⟨e, z⟩ := F.exs c h
    exact ⟨e, z⟩
  · obtain ⟨z1, z2, z3, z4, z5, z6, z7, z8⟩ := F.isa
    exact ⟨z1, z2, z3, z4, z5, z6, z7, z8⟩
theorem Facts.same {X X' : Cx} (F : Facts X B C D) (h1 : X'.prog = X.prog) (h2 : X'.w = X.w) (h3 : X'.K = X.K) (h4 : X'.mg = X.mg) (h5 : X'.base = X.base) (h6 : X'.A = X.A) : Facts X' B C D.off := by
  have G : Facts0 X B C D.off := ⟨F.hK, F.hu, F.gls, F.bns, F.fns, F.fks, F.mks, F.mkk, F.mts, F.mtk, F.tys, F.rss, F.fld, F.kls, F.exs, F.isa, F.cts⟩
  exact .ofLow (G.same h1 h2 h3 h4 h5 h6)
theorem Facts.tr {X : Cx} (F : Facts X B C D) (pn : List (Addr × Obj)) (xe : Value → Shared → Prop) : Facts (X.tr pn xe) B C D :=
  ⟨F.toFacts0.same rfl rfl rfl rfl rfl rfl, fun h => let ⟨l, k, r, hs, low⟩ := F.lam h; ⟨l, k, r, hs, low⟩⟩
theorem nm_call {nm y : Str} {xs : List Expr} {Pr : Prop} : True := trivial
theorem se : ∀ (a : E) {C : Ev.C} {D : Tab} {X : Cx} {Z : St → XK} {sc sto : Scope}, Facts X B C D → Sc X N sc sto → X.calm = true → Takes X (WZ Z) → SE X B Z C a (ck D N a sc sto)
  | .k w, C, D, X, Z, sc, sto, F, T, hc, tk => SE.mkE F.hK rfl fun x h => by
    cases x <;> first | exact ff h | skip
    rename_i cst j pos
    cases cst <;> cases w <;> first | exact ff h | skip
    · exact rx_non
    · rename_i b1 b2
      obtain rfl := beq_iff_eq.mp (show (b1 == b2) = true from h)
      exact rx_bl
    · rename_i b1 b2
      obtain rfl := of_decide_eq_true (show decide (b1 = b2) = true from h)
      exact rx_int
    · rename_i b1 b2
      obtain rfl := of_decide_eq_true (show decide (b1 = b2) = true from h)
      exact rx_str
  | .v i, C, D, X, Z, sc, sto, F, T, hc, tk => SE.mkE F.hK rfl fun x h => by
    cases x <;> first | exact ff h | skip
    rename_i nm p
    have h' : (decide (N[i]? = some nm) && visB sc nm) = true := h
    rw [Bool.and_eq_true, decide_eq_true_eq] at h'
    obtain ⟨v1, v2, v3⟩ := vis_of T h'.2
    exact rx_var (by rw [T.hN]; exact h'.1) v1 v2 v3
  | .gl y w, C, D, X, Z, sc, sto, F, T, hc, tk => SE.mkE F.hK rfl fun x h => by
    cases x <;> first | exact ff h | skip
    rename_i nm p
    have h' : (decide (nm = y) && glB sc nm && D.gls.any fun q => decide (q.1 = nm) && W.beq q.2 w) = true := h
    rw [Bool.and_eq_true, Bool.and_eq_true, decide_eq_true_eq, List.any_eq_true] at h'
    obtain ⟨⟨rfl, h2⟩, q, hq, h3⟩ := h'
    rw [Bool.and_eq_true, decide_eq_true_eq] at h3
    obtain ⟨rfl, h4⟩ := h3
    obtain ⟨g1, g2⟩ := gl_of T h2
    exact rx_gl ⟨g1, g2, by rw [← W.beq_eq h4]; exact F.gls q hq⟩
  | .bin o a b, C, D, X, Z, sc, sto, F, T, hc, tk => SE.mkE F.hK rfl fun x h => by
    cases x <;> first | exact ff h | skip
    rename_i l op r p
    have h' : (decide (op = o.py) && (ck D N a sc sto).e l && (ck D N b sc sto).e r) = true := h
    rw [Bool.and_eq_true, Bool.and_eq_true, decide_eq_true_eq] at h'
    obtain ⟨⟨rfl, h2⟩, h3⟩ := h'
    exact rx_bin F.hK ((se a F T hc tk).e _ h2) ((se b F T hc tk).e _ h3)
  | .not_ a, C, D, X, Z, sc, sto, F, T, hc, tk => SE.mkT (fun x h => by
      cases x <;> first | exact ff h | skip
      rename_i op y p
      cases op <;> first | exact ff h | skip
      exact rx_not F.hK ((se a F T hc tk).e _ h)) (fun x h => by
      cases x <;> first | exact ff h | skip
      rename_i op y p
      cases op <;> first | exact ff h | skip
      exact tx_not ((se a F T hc tk).t _ h)) (fun x h => ff h) (fun e s => rfl)
  | .neg a, C, D, X, Z, sc, sto, F, T, hc, tk => SE.mkE F.hK rfl fun x h => by
    cases x <;> first | exact ff h | skip
    rename_i op y p
    cases op <;> first | exact ff h | skip
    exact rx_neg ((se a F T hc tk).e _ h)
  | .one a, C, D, X, Z, sc, sto, F, T, hc, tk => SE.mkT (fun x h => by
      cases x <;> first | exact ff h | skip
      rename_i op ys p
      match ys, h with
      | [y], h => exact rx_one ((se a F T hc tk).e _ h)
      | [], h => exact ff h
      | _ :: _ :: _, h => exact ff h) (fun x h => ff h) (fun x h => by
      cases x <;> first | exact ff h | skip
      rename_i op ys p
      match ys, h with
      | [y], h => exact wx_one ((se a F T hc tk).t _ h)
      | [], h => exact ff h
      | _ :: _ :: _, h => exact ff h) (fun e s => rfl)
  | .and_ a b, C, D, X, Z, sc, sto, F, T, hc, tk => by
    have hw : ∀ x, (ck D N (.and_ a b) sc sto).w x = true → PW X x (rdT B Z (sem C (.and_ a b)).t) := fun x h => by
      cases x <;> first | exact ff h | skip
      rename_i op ys p
      cases op <;> first | exact ff h | skip
      match ys, h with
      | y :: z :: r, h =>
        have h' : ((ck D N a sc sto).t y && (ck D N b sc sto).w (.BoolOp .And (z :: r) p)) = true := h
        rw [Bool.and_eq_true] at h'
        exact wx_and ((se a F T hc tk).t _ h'.1) ((se b F T hc tk).w _ h'.2)
      | [], h => exact ff h
      | [_], h => exact ff h
    refine SE.mkT (fun x h => ?_) (fun x h => (hw x h).pt) hw (fun e s => rfl)
    cases x <;> first | exact ff h | skip
    rename_i op ys p
    cases op <;> first | exact ff h | skip
    match ys, h with
    | y :: z :: r, h =>
      have h' : ((ck D N a sc sto).e y && (ck D N b sc sto).e (.BoolOp .And (z :: r) p)) = true := h
      rw [Bool.and_eq_true] at h'
      exact rx_and F.hK ((se a F T hc tk).e _ h'.1) ((se b F T hc tk).e _ h'.2)
    | [], h => exact ff h
    | [_], h => exact ff h
  | .or_ a b, C, D, X, Z, sc, sto, F, T, hc, tk => by
    have hw : ∀ x, (ck D N (.or_ a b) sc sto).w x = true → PW X x (rdT B Z (sem C (.or_ a b)).t) := fun x h => by
      cases x <;> first | exact ff h | skip
      rename_i op ys p
      cases op <;> first | exact ff h | skip
      match ys, h with
      | y :: z :: r, h =>
        have h' : ((ck D N a sc sto).t y && (ck D N b sc sto).w (.BoolOp .Or (z :: r) p)) = true := h
        rw [Bool.and_eq_true] at h'
        exact wx_or ((se a F T hc tk).t _ h'.1) ((se b F T hc tk).w _ h'.2)
      | [], h => exact ff h
      | [_], h => exact ff h
    refine SE.mkT (fun x h => ?_) (fun x h => (hw x h).pt) hw (fun e s => rfl)
    cases x <;> first | exact ff h | skip
    rename_i op ys p
    cases op <;> first | exact ff h | skip
    match ys, h with
    | y :: z :: r, h =>
      have h' : ((ck D N a sc sto).e y && (ck D N b sc sto).e (.BoolOp .Or (z :: r) p)) = true := h
      rw [Bool.and_eq_true] at h'
      exact rx_or F.hK ((se a F T hc tk).e _ h'.1) ((se b F T hc tk).e _ h'.2)
    | [], h => exact ff h
    | [_], h => exact ff h
  | .ite t a b, C, D, X, Z, sc, sto, F, T, hc, tk => by
    have he : ∀ x, (ck D N (.ite t a b) sc sto).e x = true → PEv X B Z C x (.ite t a b) := fun x h => by
      cases x <;> first | exact ff h | skip
      rename_i x1 x2 x3 p
      have h' : ((ck D N t sc sto).t x1 && (ck D N a sc sto).e x2 && (ck D N b sc sto).e x3) = true := h
      rw [Bool.and_eq_true, Bool.and_eq_true] at h'
      exact rx_ite ((se t F T hc tk).t _ h'.1.1) ((se a F T hc tk).e _ h'.1.2) ((se b F T hc tk).e _ h'.2)
    have k := SE.mkE (a := .ite t a b) F.hK rfl he
    exact ⟨k.e, fun x h => ff h, k.w, k.a, k.i, k.p, fun x h => ff h, k.k, k.u, k.v, k.tv⟩
  | .cmp o a b, C, D, X, Z, sc, sto, F, T, hc, tk => by
    have go : ∀ x, (ck D N (.cmp o a b) sc sto).e x = true → PEv X B Z C x (.cmp o a b) ∧ PTv X B Z C x (.cmp o a b) := fun x h => by
      cases x <;> first | exact ff h | skip
      rename_i x1 ops ys p
      match ops, ys, h with
      | [op], [y], h =>
        have h' : (decide (op = o.py) && !(behindInMarks op y) && (ck D N a sc sto).e x1 && (ck D N b sc sto).e y) = true := h
        rw [Bool.and_eq_true, Bool.and_eq_true, Bool.and_eq_true, decide_eq_true_eq, Bool.not_eq_true'] at h'
        obtain ⟨⟨⟨rfl, h2⟩, h3⟩, h4⟩ := h'
        exact ⟨rx_cmp F.hK F.hu h2 ((se a F T hc tk).e _ h3) ((se b F T hc tk).e _ h4), tx_cmp F.hK F.hu h2 ((se a F T hc tk).e _ h3) ((se b F T hc tk).e _ h4)⟩
      | [], _, h => exact ff h
      | _ :: _ :: _, _, h => exact ff h
      | [_], [], h => exact ff h
      | [_], _ :: _ :: _, h => exact ff h
    have k := SE.mkE (a := .cmp o a b) F.hK rfl fun x h => (go x h).1
    refine ⟨k.e, fun x h => (go x h).2, k.w, k.a, k.i, k.p, fun xs h => ?_, k.k, k.u, k.v, k.tv⟩
    match xs, h with
    | [x], h => exact nx_one (go x h).2 (fun e s => rfl)
    | [], h => exact ff h
    | _ :: _ :: _, h => exact ff h
  | .cmp2 o o' a b c, C, D, X, Z, sc, sto, F, T, hc, tk => by
    have go : ∀ x, (ck D N (.cmp2 o o' a b c) sc sto).e x = true → PEv X B Z C x (.cmp2 o o' a b c) ∧ PTv X B Z C x (.cmp2 o o' a b c) := fun x h => by
      cases x <;> first | exact ff h | skip
      rename_i x1 ops ys p
      match ops, ys, h with
      | [op, op'], [y, z], h =>
        have h' : (decide (op = o.py) && decide (op' = o'.py) && !(lastMarks [op, op'] [y, z]) && (ck D N a sc sto).e x1 && (ck D N b sc sto).e y && (ck D N c sc sto).e z) = true := h
        simp only [Bool.and_eq_true, decide_eq_true_eq, Bool.not_eq_true'] at h'
        obtain ⟨⟨⟨⟨⟨rfl, rfl⟩, h2⟩, h3⟩, h4⟩, h5⟩ := h'
        exact ⟨rx_cmp2 F.hK F.hu h2 ((se a F T hc tk).e _ h3) ((se b F T hc tk).e _ h4) ((se c F T hc tk).e _ h5), tx_cmp2 F.hK F.hu h2 ((se a F T hc tk).e _ h3) ((se b F T hc tk).e _ h4) ((se c F T hc tk).e _ h5)⟩
      | [], _, h => exact ff h
      | [_], _, h => exact ff h
      | _ :: _ :: _ :: _, _, h => exact ff h
      | [_, _], [], h => exact ff h
      | [_, _], [_], h => exact ff h
      | [_, _], _ :: _ :: _ :: _, h => exact ff h
    have k := SE.mkE (a := .cmp2 o o' a b c) F.hK rfl fun x h => (go x h).1
    refine ⟨k.e, fun x h => (go x h).2, k.w, k.a, k.i, k.p, fun xs h => ?_, k.k, k.u, k.v, k.tv⟩
    match xs, h with
    | [x], h => exact nx_one (go x h).2 (fun e s => rfl)
    | [], h => exact ff h
    | _ :: _ :: _, h => exact ff h
  | .call y g a, C, D, X, Z, sc, sto, F, T, hc, tk => SE.mkE F.hK rfl fun x h => by
    cases x <;> first | exact ff h | skip
    rename_i fx xs kws p
    cases fx <;> first | exact ff h | skip
    rename_i nm p1
    cases kws with
    | cons _ _ => exact ff h
    | nil =>
      have h' : (decide (nm = y) && decide ((y, g) ∈ D.fns) && glB sc y && nilOk xs a && xs.all unstarred && (ck D N a sc sto).a xs) = true := h
      rw [Bool.and_eq_true, Bool.and_eq_true, Bool.and_eq_true, Bool.and_eq_true, Bool.and_eq_true, decide_eq_true_eq, decide_eq_true_eq] at h'
      obtain ⟨⟨⟨⟨⟨rfl, h2⟩, h3⟩, h4⟩, h5⟩, h6⟩ := h'
      obtain ⟨g1, g2⟩ := gl_of T h3
      obtain ⟨m1, k, r, d⟩ := F.fns _ h2
      cases xs with
      | nil =>
        obtain rfl := nilOk_of h4 rfl
        exact rx_call0 d r g1 g2 m1 tk
      | cons x0 xs => exact rx_call d r g1 g2 m1 tk ((se a F T hc tk).a _ h6) h5
  | .callk y g n a b ks ix ds, C, D, X, Z, sc, sto, F, T, hc, tk => SE.mkE F.hK rfl fun x h => by
    cases x <;> first | exact ff h | skip
    rename_i fx xs kws p
    cases fx <;> first | exact ff h | skip
    rename_i nm p1
    have h' : (decide (nm = y) && (D.fks.any fun q => decide (q.1 = y) && (q.2.1 == g) && Sig.beq q.2.2 ⟨n, ks, ix, ds⟩) && glB sc y && nilOk xs a && decide (kwNm kws = some ks) && xs.all unstarred && (ck D N a sc sto).a xs && (ck D N b sc sto).k kws) = true := h
    rw [Bool.and_eq_true, Bool.and_eq_true, Bool.and_eq_true, Bool.and_eq_true, Bool.and_eq_true, Bool.and_eq_true, Bool.and_eq_true, decide_eq_true_eq, List.any_eq_true, decide_eq_true_eq] at h'
    obtain ⟨⟨⟨⟨⟨⟨⟨rfl, q, hq, h2⟩, h3⟩, h4⟩, h5⟩, h6⟩, h7⟩, h8⟩ := h'
    rw [Bool.and_eq_true, Bool.and_eq_true, decide_eq_true_eq, beq_iff_eq] at h2
    obtain ⟨⟨e1, e2⟩, e3⟩ := h2
    obtain ⟨g1, g2⟩ := gl_of T h3
    obtain ⟨m1, k, r, d⟩ := F.fks _ hq
    obtain ⟨q1, q2, q3⟩ := q
    dsimp only at e1 e2 e3 m1 d
    subst e1 e2
    obtain rfl := Sig.beq_eq e3
    exact rx_callk d r g1 g2 m1 tk ((se a F T hc tk).a _ h7) ((se b F T hc tk).k _ h8) h6 (nilOk_of h4) h5
  | .mk y c a, C, D, X, Z, sc, sto, F, T, hc, tk => SE.mkE F.hK rfl fun x h => by
    cases x <;> first | exact ff h | skip
    rename_i fx xs kws p
    cases fx <;> first | exact ff h | skip
    rename_i nm p1
    cases kws with
    | cons _ _ => exact ff h
    | nil =>
      have h' : (decide (nm = y) && decide ((y, c) ∈ D.mks) && glB sc y && nilOk xs a && xs.all unstarred && (ck D N a sc sto).a xs) = true := h
      rw [Bool.and_eq_true, Bool.and_eq_true, Bool.and_eq_true, Bool.and_eq_true, Bool.and_eq_true, decide_eq_true_eq, decide_eq_true_eq] at h'
      obtain ⟨⟨⟨⟨⟨rfl, h2⟩, h3⟩, h4⟩, h5⟩, h6⟩ := h'
      obtain ⟨g1, g2⟩ := gl_of T h3
      obtain ⟨m1, g, f, k, e2, m, r, d⟩ := F.mks _ h2
      exact rx_mk ⟨g, f, k, e2, m, r, d⟩ g1 g2 m1 tk ((se a F T hc tk).a _ h6) h5 (nilOk_of h4)
  | .mkk y c n a b ks ix ds, C, D, X, Z, sc, sto, F, T, hc, tk => SE.mkE F.hK rfl fun x h => by
    cases x <;> first | exact ff h | skip
    rename_i fx xs kws p
    cases fx <;> first | exact ff h | skip
    rename_i nm p1
    have h' : (decide (nm = y) && (D.mkk.any fun q => decide (q.1 = y) && (q.2.1 == c) && Sig.beq q.2.2 ⟨n, ks, ix, ds⟩) && glB sc y && nilOk xs a && decide (kwNm kws = some ks) && xs.all unstarred && (ck D N a sc sto).a xs && (ck D N b sc sto).k kws) = true := h
    rw [Bool.and_eq_true, Bool.and_eq_true, Bool.and_eq_true, Bool.and_eq_true, Bool.and_eq_true, Bool.and_eq_true, Bool.and_eq_true, decide_eq_true_eq, List.any_eq_true, decide_eq_true_eq] at h'
    obtain ⟨⟨⟨⟨⟨⟨⟨rfl, q, hq, h2⟩, h3⟩, h4⟩, h5⟩, h6⟩, h7⟩, h8⟩ := h'
    rw [Bool.and_eq_true, Bool.and_eq_true, decide_eq_true_eq, beq_iff_eq] at h2
    obtain ⟨⟨e1, e2⟩, e3⟩ := h2
    obtain ⟨g1, g2⟩ := gl_of T h3
    obtain ⟨m1, gg, f, k, ee, m, r, d⟩ := F.mkk _ hq
    obtain ⟨q1, q2, q3⟩ := q
    dsimp only at e1 e2 e3 m1 d ee m
    subst e1 e2
    obtain rfl := Sig.beq_eq e3
    exact rx_mkk ⟨gg, f, k, ee, m, r, d⟩ g1 g2 m1 tk ((se a F T hc tk).a _ h7) ((se b F T hc tk).k _ h8) h6 (nilOk_of h4) h5
  | .meth o m a, C, D, X, Z, sc, sto, F, T, hc, tk => SE.mkE F.hK rfl fun x h => by
    cases x <;> first | exact ff h | skip
    rename_i fx xs kws p
    cases fx <;> first | exact ff h | skip
    rename_i y nm ap
    cases kws with
    | cons _ _ => exact ff h
    | nil =>
      have h' : (decide (nm = m) && decide (m ∈ D.mts) && baseOk y && (ck D N o sc sto).e y && nilOk xs a && xs.all unstarred && decide (xs.length < 30) && (ap.endLine == p.line) && (ck D N a sc sto).a xs) = true := h
      rw [Bool.and_eq_true, Bool.and_eq_true, Bool.and_eq_true, Bool.and_eq_true, Bool.and_eq_true, Bool.and_eq_true, Bool.and_eq_true, Bool.and_eq_true, decide_eq_true_eq, decide_eq_true_eq] at h'
      obtain ⟨⟨⟨⟨⟨⟨⟨⟨rfl, h2⟩, h3⟩, h4⟩, h5⟩, h6⟩, h7⟩, h8⟩, h9⟩ := h'
      obtain ⟨n1, n2⟩ := F.mts _ h2
      exact rx_meth F.kls n2 n1 tk ((se o F T hc tk).e _ h4) h3 ((se a F T hc tk).a _ h9) h6 h7 h8 (nilOk_of h5)
  | .methk o m n a b ks ix ds, C, D, X, Z, sc, sto, F, T, hc, tk => SE.mkE F.hK rfl fun x h => by
    cases x <;> first | exact ff h | skip
    rename_i fx xs kws p
    cases fx <;> first | exact ff h | skip
    rename_i y nm ap
    have h' : (decide (nm = m) && (D.mtk.any fun q => decide (q.1 = m) && Sig.beq q.2 ⟨n, ks, ix, ds⟩) && baseOk y && (ck D N o sc sto).e y && nilOk xs a && decide (kwNm kws = some ks) && xs.all unstarred && decide (xs.length + kws.length < 29) && (ap.endLine == p.line) && (ck D N a sc sto).a xs && (ck D N b sc sto).k kws) = true := h
    rw [Bool.and_eq_true, Bool.and_eq_true, Bool.and_eq_true, Bool.and_eq_true, Bool.and_eq_true, Bool.and_eq_true, Bool.and_eq_true, Bool.and_eq_true, Bool.and_eq_true, Bool.and_eq_true, decide_eq_true_eq, List.any_eq_true, decide_eq_true_eq] at h'
    obtain ⟨⟨⟨⟨⟨⟨⟨⟨⟨⟨rfl, q, hq, h2⟩, h3⟩, h4⟩, h5⟩, h6⟩, h7⟩, h8⟩, h9⟩, h10⟩, h11⟩ := h'
    rw [Bool.and_eq_true, decide_eq_true_eq] at h2
    obtain ⟨e1, e3⟩ := h2
    obtain ⟨n1, n2⟩ := F.mtk _ hq
    obtain ⟨q1, q3⟩ := q
    dsimp only at e1 e3 n1 n2
    subst e1
    obtain rfl := Sig.beq_eq e3
    exact rx_methk F.kls n2 n1 tk ((se o F T hc tk).e _ h4) h3 ((se a F T hc tk).a _ h10) ((se b F T hc tk).k _ h11) h7 h8 h9 (nilOk_of h5) h6
  | .attr o f, C, D, X, Z, sc, sto, F, T, hc, tk => SE.mkE F.hK rfl fun x h => by
    cases x <;> first | exact ff h | skip
    rename_i y nm p
    have h' : (decide (D.fld[f]? = some nm) && baseOk y && (ck D N o sc sto).e y) = true := h
    rw [Bool.and_eq_true, Bool.and_eq_true, decide_eq_true_eq] at h'
    obtain ⟨⟨h1, h2⟩, h3⟩ := h'
    exact rx_attr F.kls F.exs (by rw [F.fld]; exact h1) ((se o F T hc tk).e _ h3) h2
  | .sub o i, C, D, X, Z, sc, sto, F, T, hc, tk => SE.mkE F.hK rfl fun x h => by
    cases x <;> first | exact ff h | skip
    rename_i y z p
    have h' : (notSlice z && (ck D N o sc sto).e y && (ck D N i sc sto).e z) = true := h
    rw [Bool.and_eq_true, Bool.and_eq_true] at h'
    exact rx_sub F.hK ((se o F T hc tk).e _ h'.1.2) ((se i F T hc tk).e _ h'.2) h'.1.1
  | .slice o lo hi, C, D, X, Z, sc, sto, F, T, hc, tk => SE.mkE F.hK rfl fun x h => by
    cases x <;> first | exact ff h | skip
    rename_i y z p
    cases z <;> first | exact ff h | skip
    rename_i l u st p2
    cases st with
    | some _ => exact ff h
    | none =>
      have h' : ((ck D N o sc sto).e y && (ck D N lo sc sto).p l && (ck D N hi sc sto).p u) = true := h
      rw [Bool.and_eq_true, Bool.and_eq_true] at h'
      exact rx_slice F.hK ((se o F T hc tk).e _ h'.1.1) ((se lo F T hc tk).p _ h'.1.2) ((se hi F T hc tk).p _ h'.2)
  | .tup a, C, D, X, Z, sc, sto, F, T, hc, tk => by
    have k := SE.mkE (a := .tup a) F.hK rfl (f := (ck D N (.tup a) sc sto).e) fun x h => by
      cases x <;> first | exact ff h | skip
      exact rx_tup ((se a F T hc tk).a _ h)
    refine ⟨k.e, k.t, k.w, k.a, k.i, k.p, k.n, k.k, k.u, k.v, fun x y h => ?_⟩
    obtain ⟨b, d, rfl, h1, h2⟩ := (se a F T hc tk).v x y h
    exact ⟨b, d, rfl, h1, h2⟩
  | .lst a, C, D, X, Z, sc, sto, F, T, hc, tk => SE.mkE F.hK rfl fun x h => by
    cases x <;> first | exact ff h | skip
    exact rx_lst ((se a F T hc tk).a _ h)
  | .mls a, C, D, X, Z, sc, sto, F, T, hc, tk => SE.mkE F.hK rfl fun x h => by
    cases x <;> first | exact ff h | skip
    exact rx_mls ((se a F T hc tk).a _ h)
  | .odd y, C, D, X, Z, sc, sto, F, T, hc, tk => SE.mkE F.hK rfl fun x h => ⟨fun pins st σ H Q I ⟨ρ, s, e, r, ed, h⟩ => h.elim⟩
  | .comp p a b c, C, D, X, Z, sc, sto, F, T, hc, tk => SE.mkE F.hK rfl fun x h => by
    cases x <;> first | exact ff h | skip
    rename_i elt gs scope pos
    match gs, h with
    | [⟨tg, it, ifs, as⟩], h =>
      have h' : (decide (as = 0) && blkC N sc scope (ownOf N p) && (ckP N scope p).1 tg && notSet it && (ck D N b sc sto).i tg it && (ck D.off N c (relS scope sc) scope).n ifs && (ck D.off N a (relS scope sc) scope).e elt) = true := h
      rw [Bool.and_eq_true, Bool.and_eq_true, Bool.and_eq_true, Bool.and_eq_true, Bool.and_eq_true, Bool.and_eq_true, decide_eq_true_eq] at h'
      obtain ⟨⟨⟨⟨⟨⟨h0, h1⟩, h2⟩, h3⟩, h4⟩, h5⟩, h6⟩ := h'
      subst h0
      exact rx_comp F.hK hc T h1 h2 ((se b F T hc tk).i _ _ h4) (fun s H Dd cl fp => (se c (X := X.blk s H scope (compEnvC scope cl Dd X.env) fp) (F.same rfl rfl rfl rfl rfl rfl) T.blk hc LamX.takes0).n _ h5) (fun s H Dd cl fp => (se a (X := X.blk s H scope (compEnvC scope cl Dd X.env) fp) (F.same rfl rfl rfl rfl rfl rfl) T.blk hc LamX.takes0).e _ h6) (notSet_of h3)
    | [], h => exact ff h
    | ⟨_, _, _, _⟩ :: _ :: _, h => exact ff h
  | .bi b a, C, D, X, Z, sc, sto, F, T, hc, tk => SE.mkE F.hK rfl fun x h => by
    cases x <;> first | exact ff h | skip
    rename_i fx xs kws p
    cases fx <;> first | exact ff h | skip
    rename_i nm p1
    cases xs with
    | nil => cases kws <;> exact ff h
    | cons y ys =>
      cases kws with
      | cons _ _ => exact ff h
      | nil =>
        have h' : (decide (nm = b.nm) && decide (b.nm ∈ D.bns) && glB sc b.nm && (y :: ys).all unstarred && (ck D N a sc sto).a (y :: ys)) = true := h
        rw [Bool.and_eq_true, Bool.and_eq_true, Bool.and_eq_true, Bool.and_eq_true, decide_eq_true_eq, decide_eq_true_eq] at h'
        obtain ⟨⟨⟨⟨rfl, h2⟩, h3⟩, h4⟩, h5⟩ := h'
        exact rx_bi F.hK hc (gl_of T h3).1 (F.bns _ h2) ((se a F T hc tk).a _ h5) h4
  | .isin a ts many, C, D, X, Z, sc, sto, F, T, hc, tk => SE.mkE F.hK rfl fun x h => by
    cases x <;> first | exact ff h | skip
    rename_i fx xs kws p
    cases fx <;> first | exact ff h | skip
    rename_i nm p1
    match xs, kws, h with
    | [y, tn], [], h =>
      have h' : (decide (nm = "isinstance") && decide (("isinstance" : Str) ∈ D.bns) && glB sc "isinstance" && unstarred y && (ck D N a sc sto).e y && !ts.isEmpty && decide (ts.length ≤ 100) && isTys D sc ts tn many) = true := h
      rw [Bool.and_eq_true, Bool.and_eq_true, Bool.and_eq_true, Bool.and_eq_true, Bool.and_eq_true, Bool.and_eq_true, Bool.and_eq_true, decide_eq_true_eq, decide_eq_true_eq] at h'
      obtain ⟨⟨⟨⟨⟨⟨⟨rfl, h2⟩, h3⟩, h4⟩, h5⟩, h6⟩, h7⟩, h8⟩ := h'
      cases many with
      | false =>
        cases tn <;> first | exact ff h8 | skip
        rename_i c p2
        clear h
        match ts, h8 with
        | [t], h8 =>
          obtain ⟨rfl, n2⟩ := tyNm_of F T (show tyB D sc c t = true from h8)
          exact rx_isin1 F.hK F.isa (gl_of T h3).1 (F.bns _ h2) ((se a F T hc tk).e _ h5) n2 h4
        | [], h8 => exact ff h8
        | _ :: _ :: _, h8 => exact ff h8
      | true =>
        cases tn <;> first | exact ff h8 | skip
        rename_i cs kk p2
        obtain ⟨ps, rfl, e2, e3⟩ := tyNames_of F T (show tyNames D sc cs ts = true from h8)
        exact rx_isinN F.hK F.isa (gl_of T h3).1 (F.bns _ h2) ((se a F T hc tk).e _ h5) e2 (fun z => by rw [z] at h6; exact ff h6) h7 e3 h4
    | [], _, h => exact ff h
    | [_], _, h => exact ff h
    | _ :: _ :: _ :: _, _, h => exact ff h
    | [_, _], _ :: _, h => exact ff h
  | .sm m o a, C, D, X, Z, sc, sto, F, T, hc, tk => SE.mkE F.hK rfl fun x h => by
    cases x <;> first | exact ff h | skip
    rename_i fx xs kws p
    cases fx <;> first | exact ff h | skip
    rename_i y nm ap
    match xs, kws, h with
    | [z], [], h =>
      have h' : (smNm m nm && baseOk y && (ck D N o sc sto).e y && unstarred z && (ap.endLine == p.line) && (ck D N a sc sto).u z) = true := h
      rw [Bool.and_eq_true, Bool.and_eq_true, Bool.and_eq_true, Bool.and_eq_true, Bool.and_eq_true] at h'
      obtain ⟨⟨⟨⟨⟨h1, h2⟩, h3⟩, h4⟩, h5⟩, h6⟩ := h'
      obtain ⟨b, rfl, hb⟩ := (se a F T hc tk).u z h6
      cases m <;> first | exact ff h1 | skip
      · obtain rfl := of_decide_eq_true h1
        exact rx_split ((se o F T hc tk).e _ h3) h2 hb h4 h5
      · obtain rfl := of_decide_eq_true h1
        exact rx_join F.hK ((se o F T hc tk).e _ h3) h2 hb h4 h5
      · obtain rfl := of_decide_eq_true h1
        exact rx_append F.hK ((se o F T hc tk).e _ h3) h2 hb h4 h5
    | [], _, h => exact ff h
    | _ :: _ :: _, _, h => exact ff h
    | [_], _ :: _, h => exact ff h
  | .rng a, C, D, X, Z, sc, sto, F, T, hc, tk => by
    refine ⟨fun x h => ff h, fun x h => ?_, fun x h => ff h, fun x h => ff h, fun tg x h => ?_, fun o h => ?_, fun xs h => ?_, fun x h => ff h, fun x h => ff h, fun x y h => ff h, fun x y h => ff h⟩
    · exact ff ((Bool.and_false _).symm.trans h)
    · cases x <;> first | exact ff h | skip
      rename_i fx xs kws p
      cases fx <;> first | exact ff h | skip
      rename_i nm p1
      match xs, kws, h with
      | [y], [], h =>
        have h' : (decide (nm = "range") && decide (("range" : Str) ∈ D.bns) && glB sc "range" && unstarred y && (ck D N a sc sto).u y) = true := h
        rw [Bool.and_eq_true, Bool.and_eq_true, Bool.and_eq_true, Bool.and_eq_true, decide_eq_true_eq, decide_eq_true_eq] at h'
        obtain ⟨⟨⟨⟨rfl, h2⟩, h3⟩, h4⟩, h5⟩ := h'
        obtain ⟨b, rfl, hb⟩ := (se a F T hc tk).u y h5
        exact ix_rng1 (gl_of T h3).1 (F.bns _ h2) hb h4
      | [y, z], [], h =>
        have h' : (decide (nm = "range") && decide (("range" : Str) ∈ D.bns) && glB sc "range" && unstarred y && unstarred z && (ck D N a sc sto).v y z) = true := h
        rw [Bool.and_eq_true, Bool.and_eq_true, Bool.and_eq_true, Bool.and_eq_true, Bool.and_eq_true, decide_eq_true_eq, decide_eq_true_eq] at h'
        obtain ⟨⟨⟨⟨⟨rfl, h2⟩, h3⟩, h4⟩, h4'⟩, h5⟩ := h'
        obtain ⟨b, d, rfl, hb, hd⟩ := (se a F T hc tk).v y z h5
        exact ix_rng2 (gl_of T h3).1 (F.bns _ h2) hb hd h4 h4'
      | [], _, h => exact ff h
      | _ :: _ :: _ :: _, _, h => exact ff h
      | [_], _ :: _, h => exact ff h
      | [_, _], _ :: _, h => exact ff h
    · cases o <;> exact ff h
    · match xs, h with
      | [x], h => exact ff ((Bool.and_false _).symm.trans h)
      | [], h => exact ff h
      | _ :: _ :: _, h => exact ff h
  | .enum a, C, D, X, Z, sc, sto, F, T, hc, tk => by
    refine ⟨fun x h => ff h, fun x h => ?_, fun x h => ff h, fun x h => ff h, fun tg x h => ?_, fun o h => ?_, fun xs h => ?_, fun x h => ff h, fun x h => ff h, fun x y h => ff h, fun x y h => ff h⟩
    · exact ff ((Bool.and_false _).symm.trans h)
    · cases tg <;> first | exact ff h | skip
      rename_i es kk tp
      cases x <;> first | exact ff h | skip
      rename_i fx xs kws p
      cases fx <;> first | exact ff h | skip
      rename_i nm p1
      match xs, kws, h with
      | [y], [], h =>
        have h' : (decide (nm = "enumerate") && decide (("enumerate" : Str) ∈ D.bns) && glB sc "enumerate" && unstarred y && (ck D N a sc sto).e y) = true := h
        rw [Bool.and_eq_true, Bool.and_eq_true, Bool.and_eq_true, Bool.and_eq_true, decide_eq_true_eq, decide_eq_true_eq] at h'
        obtain ⟨⟨⟨⟨rfl, h2⟩, h3⟩, h4⟩, h5⟩ := h'
        exact ix_enum F.hK (gl_of T h3).1 (F.bns _ h2) ((se a F T hc tk).e _ h5) h4
      | [], _, h => exact ff h
      | _ :: _ :: _, _, h => exact ff h
      | [_], _ :: _, h => exact ff h
    · cases o <;> exact ff h
    · match xs, h with
      | [x], h => exact ff ((Bool.and_false _).symm.trans h)
      | [], h => exact ff h
      | _ :: _ :: _, h => exact ff h
  | .hear y g b d, C, D, X, Z, sc, sto, F, T, hc, tk => SE.mkE F.hK rfl fun x h => by
    cases x <;> first | exact ff h | skip
    rename_i fx xs kws pos
    cases fx <;> first | exact ff h | skip
    rename_i nm p
    match xs, kws, h with
    | [], _, h => exact ff h
    | [x], _ :: _, h => cases x <;> exact ff h
    | x :: _ :: _, _ :: _, h => cases x <;> exact ff h
    | x :: _ :: _, [], h => cases x <;> exact ff h
    | [x], [], h =>
      cases x <;> first | exact ff h | skip
      rename_i params body scope lpos
      have h' : (D.lam && decide (nm = y) && decide ((y, g) ∈ D.hrs) && glB sc y && (match lamPar params with
        | some bs => lamRB N sc scope bs
        | none => false) && (ck D.off N b scope { scope with names := [] }).e body) = true := h
      rw [Bool.and_eq_true, Bool.and_eq_true, Bool.and_eq_true, Bool.and_eq_true, Bool.and_eq_true, decide_eq_true_eq, decide_eq_true_eq] at h'
      obtain ⟨⟨⟨⟨⟨h1, rfl⟩, h3⟩, h4⟩, h5⟩, h6⟩ := h'
      obtain ⟨LF, k, hr, hrs, low⟩ := F.lam h1
      obtain ⟨m1, m2, m3⟩ := hrs _ h3
      obtain ⟨g1, g2⟩ := gl_of T h4
      cases hp : lamPar params with
      | none => rw [hp] at h5; exact ff h5
      | some bs =>
        rw [hp] at h5
        refine rx_hear LF g1 g2 m1 m2 hr m3 tk hp (lamR_by (by rw [T.hN, T.scp]; exact h5)) fun A outer s H E f c' hr2 => ?_
        exact (se b (C := C.lower) (D := D.off) (X := LamX.lamCx X A outer s H E scope f c') (Z := fun _ => E) (.ofLow (low _ rfl rfl rfl rfl rfl hr2)) (sto := { scope with names := [] }) ⟨T.hN, T.nd, rfl, fun x hx => ff hx⟩ rfl takes_lam).e _ h6
  | .dct k i, C, D, X, Z, sc, sto, F, T, hc, tk => SE.mkE F.hK rfl fun x h => by
    split at h
    · rename_i k' j1 p1 i' j2 p2 pos
      rw [Bool.and_eq_true, decide_eq_true_eq, decide_eq_true_eq] at h
      obtain ⟨rfl, rfl⟩ := h
      exact rx_dct
    · exact ff h
  | .ask i, C, D, X, Z, sc, sto, F, T, hc, tk => by
    refine ⟨fun x h => ff h, fun x h => ff ((Bool.and_false _).symm.trans h), fun x h => ff h, fun x h => ff h, fun tg x h => ff h, fun o h => ?_, fun xs h => ?_, fun x h => ff h, fun x h => ff h, fun x y h => ff h, fun x y h => ff h⟩
    · cases o <;> exact ff h
    · match xs, h with
      | [x], h => exact ff ((Bool.and_false _).symm.trans h)
      | [], h => exact ff h
      | _ :: _ :: _, h => exact ff h
  | .nil, C, D, X, Z, sc, sto, F, T, hc, tk => by
    refine ⟨fun x h => ff h, fun x h => ff ((Bool.and_false _).symm.trans h), fun x h => ff h, fun xs h => ?_, fun tg x h => ff h, fun o h => ?_, fun xs h => ?_, fun xs h => ?_, fun x h => ff h, fun x y h => ff h, fun x y h => ff h⟩
    · cases xs with
      | nil => exact ax_nil
      | cons _ _ => exact ff h
    · cases o with
      | none => exact ox_nil
      | some _ => exact ff h
    · cases xs with
      | nil => exact nx_nil
      | cons _ _ => exact ff h
    · cases xs with
      | nil => exact kx_nil
      | cons _ _ => exact ff h
  | .cons a b, C, D, X, Z, sc, sto, F, T, hc, tk => by
    have hu : ∀ x, (ck D N (.cons a b) sc sto).u x = true → ∃ b', E.cons a b = .cons b' .nil ∧ PEv X B Z C x b' := fun x h => by
      have h' : ((ck D N a sc sto).e x && isNilE b) = true := h
      rw [Bool.and_eq_true] at h'
      cases b <;> first | exact ff h'.2 | skip
      exact ⟨a, rfl, (se a F T hc tk).e _ h'.1⟩
    refine ⟨fun x h => ff h, fun x h => ff ((Bool.and_false _).symm.trans h), fun x h => ff h, fun xs h => ?_, fun tg x h => ff h, fun o h => ?_, fun xs h => ?_, fun xs h => ?_, hu, fun x y h => ?_, fun x y h => ff h⟩
    · cases xs with
      | nil => exact ff h
      | cons x xs =>
        have h' : (unstarred x && (ck D N a sc sto).e x && (ck D N b sc sto).a xs) = true := h
        rw [Bool.and_eq_true, Bool.and_eq_true] at h'
        exact ax_cons ((se a F T hc tk).e _ h'.1.2) ((se b F T hc tk).a _ h'.2) (star_plain h'.1.1 _ _)
    · cases o <;> exact ff h
    · match xs, h with
      | [x], h => exact ff ((Bool.and_false _).symm.trans h)
      | [], h => exact ff h
      | _ :: _ :: _, h => exact ff h
    · match xs, h with
      | ⟨nm, x, kp⟩ :: xs, h =>
        have h' : ((ck D N a sc sto).e x && (ck D N b sc sto).k xs) = true := h
        rw [Bool.and_eq_true] at h'
        exact kx_cons ((se a F T hc tk).e _ h'.1) ((se b F T hc tk).k _ h'.2)
      | [], h => exact ff h
    · have h' : ((ck D N a sc sto).e x && (ck D N b sc sto).u y) = true := h
      rw [Bool.and_eq_true] at h'
      obtain ⟨b', rfl, hb⟩ := (se b F T hc tk).u y h'.2
      exact ⟨a, b', rfl, (se a F T hc tk).e _ h'.1, hb⟩
end
end Ev

set_option Elab.async false
set_option linter.all false
set_option autoImplicit false
set_option maxRecDepth 100000
namespace Ev
open PySem PySem.Spec L2

/-! ### in an except suite: names, constants, attributes, displays -/
structure Hot (X : Cx) (B : Tb) (C : Ev.C) (D : Tab) : Prop where
  hK : B.K = X.K
  fld : B.fn = D.fld
  kls : ∀ c, (C.makes c).isSome = true → Kls X B c
  exs : ∀ c, (C.excf c).isSome = true → Exk X B c
def ckH (D : Tab) (N : List Str) (sc : Scope) : E → (Expr → Bool) × (List Expr → Bool)
  | .k w => ((ck D N (.k w) sc sc).e, no1)
  | .v i => ((ck D N (.v i) sc sc).e, no1)
  | .attr o f => (fun x => match x with
    | .Attribute y nm _ => decide (D.fld[f]? = some nm) && baseOk y && (ckH D N sc o).1 y
    | _ => false, no1)
  | .tup a => (fun x => match x with
    | .Tuple xs _ _ => (ckH D N sc a).2 xs
    | _ => false, no1)
  | .lst a => (fun x => match x with
    | .List xs _ => (ckH D N sc a).2 xs
    | _ => false, no1)
  | .nil => (no1, fun xs => xs.isEmpty)
  | .cons a b => (no1, fun xs => match xs with
    | x :: xs => unstarred x && (ckH D N sc a).1 x && (ckH D N sc b).2 xs
    | [] => false)
  | _ => (no1, no1)
section
variable {X : Cx} {B : Tb} {Z : St → XK} {C : Ev.C} {D : Tab} {N : List Str} {sc sto : Scope}
theorem hot_k {w : W} {x : Expr} (h : (ck D N (.k w) sc sto).e x = true) : PEv X B Z C x (.k w) := by
  cases x <;> first | exact ff h | skip
  rename_i cst j pos
  cases cst <;> cases w <;> first | exact ff h | skip
  · exact rx_non
  · rename_i b1 b2
    obtain rfl := beq_iff_eq.mp (show (b1 == b2) = true from h)
    exact rx_bl
  · rename_i b1 b2
    obtain rfl := of_decide_eq_true (show decide (b1 = b2) = true from h)
    exact rx_int
  · rename_i b1 b2
    obtain rfl := of_decide_eq_true (show decide (b1 = b2) = true from h)
    exact rx_str
theorem hot_v {i : Nat} {x : Expr} (T : Sc X N sc sto) (h : (ck D N (.v i) sc sc).e x = true) : PEv X B Z C x (.v i) := by
  cases x <;> first | exact ff h | skip
  rename_i nm p
  have h' : (decide (N[i]? = some nm) && visB sc nm) = true := h
  rw [Bool.and_eq_true, decide_eq_true_eq] at h'
  obtain ⟨v1, v2, v3⟩ := vis_of T h'.2
  exact rx_var (by rw [T.hN]; exact h'.1) v1 v2 v3
theorem seH (F : Hot X B C D) (T : Sc X N sc sto) : ∀ (a : E), (∀ x, (ckH D N sc a).1 x = true → PEv X B Z C x a) ∧ ∀ xs, (ckH D N sc a).2 xs = true → PAv X B Z C xs a
  | .k w => ⟨fun x h => hot_k (D := D) (N := N) (sc := sc) (sto := sc) h, fun xs h => ff h⟩
  | .v i => ⟨fun x h => hot_v (D := D) T h, fun xs h => ff h⟩
  | .attr o f => ⟨fun x h => by
      cases x <;> first | exact ff h | skip
      rename_i y nm p
      have h' : (decide (D.fld[f]? = some nm) && baseOk y && (ckH D N sc o).1 y) = true := h
      rw [Bool.and_eq_true, Bool.and_eq_true, decide_eq_true_eq] at h'
      obtain ⟨⟨h1, h2⟩, h3⟩ := h'
      exact rx_attr F.kls F.exs (by rw [F.fld]; exact h1) ((seH F T o).1 _ h3) h2, fun xs h => ff h⟩
  | .tup a => ⟨fun x h => by
      cases x <;> first | exact ff h | skip
      exact rx_tup ((seH F T a).2 _ h), fun xs h => ff h⟩
  | .lst a => ⟨fun x h => by
      cases x <;> first | exact ff h | skip
      exact rx_lst ((seH F T a).2 _ h), fun xs h => ff h⟩
  | .nil => ⟨fun x h => ff h, fun xs h => by
      cases xs with
      | nil => exact ax_nil
      | cons _ _ => exact ff h⟩
  | .cons a b => ⟨fun x h => ff h, fun xs h => by
      cases xs with
      | nil => exact ff h
      | cons x xs =>
        have h' : (unstarred x && (ckH D N sc a).1 x && (ckH D N sc b).2 xs) = true := h
        rw [Bool.and_eq_true, Bool.and_eq_true] at h'
        exact ax_cons ((seH F T a).1 _ h'.1.2) ((seH F T b).2 _ h'.2) (star_plain h'.1.1 _ _)⟩
  | .gl _ _ | .bin _ _ _ | .not_ _ | .neg _ | .and_ _ _ | .or_ _ _ | .one _ | .ite _ _ _ | .cmp _ _ _ | .cmp2 _ _ _ _ _ | .call _ _ _ | .callk _ _ _ _ _ _ _ _ | .mk _ _ _ | .mkk _ _ _ _ _ _ _ _ | .meth _ _ _ | .methk _ _ _ _ _ _ _ _ | .sub _ _ | .slice _ _ _ | .mls _ | .odd _ | .comp _ _ _ _ | .bi _ _ | .isin _ _ _ | .sm _ _ _ | .rng _ | .enum _ | .hear _ _ _ _ | .ask _ | .dct _ _ => ⟨fun x h => ff h, fun xs h => ff h⟩
end
end Ev

set_option Elab.async false
set_option linter.all false
set_option autoImplicit false
set_option maxRecDepth 100000
namespace Ev
open PySem PySem.Spec L2

section
variable {X : Cx} {B : Tb} {Z : St → XK} {C : Ev.C}
theorem ResS.gone {ρ : Pl} {n0 n : Nat} {H : Hp} {r : RS} {D : Ends} (h : ResS B ρ n0 H (r.gone n) D Z) : ResS B ρ n0 H r (goneD n D) Z0 := by
  match r, h with
  | .ok (.nx e) s, h => exact fun ρ' H' σ x q ed => h ρ' H' _ x q ed.unset
  | .ok (.bk e) s, h => exact fun ρ' H' σ x q ed => h ρ' H' _ x q ed.unset
  | .ok (.ct e) s, h => exact fun ρ' H' σ x q ed => h ρ' H' _ x q ed.unset
  | .ok (.rt w) s, h => exact h
  | .exc _ _ _ _, h => exact h.elim
  | .fail, h => exact h
theorem Den.caught {ρ : Pl} {n : Nat} {H : Hp} {c : Nat} {fs : List (Nat × W)} {a d : Addr} {vfs : List (Str × V)} (nd : B.fn.Nodup) (h1 : Fz ρ n H a (exk a (B.ca c) d)) (h2 : Fz ρ n H d (.xd vfs)) (hf : FsD B ρ n H fs vfs) : Den B ρ n H (.exn c fs) (.ref a) := by
  have key : ∀ (f : Nat) (w : W), fs.lookup f = some w → ∃ x, B.fn[f]? = some x := by
    intro f w
    clear h1 h2
    induction hf with
    | nil => intro h; cases h
    | cons hh tt ih =>
      rename_i p q fs' vfs'
      intro h
      obtain ⟨g, w0⟩ := p
      by_cases e : f = g
      · exact ⟨q.1, by rw [e]; exact hh.1⟩
      · have z : (f == g) = false := beq_eq_false_iff_ne.mpr e
        simp only [List.lookup, z] at h
        exact ih h
  refine .exn (fun f => match B.fn[f]? with
    | some x => (vfs.lookup x).getD .non
    | none => .non) h1 h2 (fun f w e => ?_) (fun f w e => ?_)
  · obtain ⟨x, hx⟩ := key f w e
    obtain ⟨v, hv, _⟩ := (hf.lookup nd hx).1 w e
    exact ⟨x, hx, by rw [hx]; show vfs.lookup x = some ((vfs.lookup x).getD .non); rw [hv]; rfl⟩
  · obtain ⟨x, hx⟩ := key f w e
    obtain ⟨v, hv, dv⟩ := (hf.lookup nd hx).1 w e
    rw [hx]
    show Den B ρ n H w ((vfs.lookup x).getD .non)
    rw [hv]
    exact dv
/-- a reading's wish as a statement's -/
def ZW (W : WX) : St → XK := fun σ c d H => W c d σ H
theorem sx_try {N : List Str} {sc sto : Scope} {x n : Str} {c i : Nat} {body suite : List Stmt} {s0 : Stmt} {b t : T} {np pos pos' : Pos} (T0 : Sc X N sc sto) (hst : X.stack = X.env :: X.outer) (hfr : X.env.frame = some X.env.locals) (hex : X.ex = [])
    (hi : N[i]? = some n) (hl : sc.names.lookup n = some .local) (hc : Names X x (.ref (B.ca c))) (tk : Takes X (WZ Z))
    (exm : ∀ a r, (C.excf a).isSome = true → C.sub a c = some r → PySem.W.exmOne X.K (.ref (B.ca a)) (.ref (B.ca c)) = some r)
    (hb : ∀ (W : WX) (pn : List (Addr × Obj)) (xe : Value → Shared → Prop), Takes (X.tr pn xe) W → PassesOwn (model X.prog X.w) X.A X.env xe → PSsv (X.tr pn xe) B (ZW W) C body b)
    (hs : ∀ (a : Addr) (pn : List (Addr × Obj)), PSsv (X.suite a pn) B Z0 C (s0 :: suite) t) :
    PSv X B Z C (.Try body [.ExceptHandler (some (.Name x np)) (some n) (s0 :: suite) pos'] [] [] pos) (.tryk b x c i t) := by
  refine PS.weak (ps_tryT (tb := fun W => rdB B (ZW W) (evB C b)) (ts := fun _ _ _ => rdB B Z0 (evB C t)) hst hfr hex (by rw [T0.hN]; exact T0.nd) (by rw [T0.hN]; exact hi) (by show X.env.scope.names.lookup n = _; rw [T0.scp]; exact hl) hc tk hb (fun a _ _ pn => hs a pn)) ?_
  rintro D σ H ⟨ρ, s, e, r, ed, h⟩
  refine ⟨ρ, s, e, r, ed, ?_⟩
  have h' : ResS B ρ s.size H (match evB C b e s with
    | .ok f s1 => .ok f s1
    | .exc d fs e1 s1 => if (C.excf d).isSome then (match C.sub d c with
      | some true => (evB C t (e1.set i (some (.exn d fs))) s1).gone i
      | some false => .exc d fs e1 s1
      | none => .fail) else .fail
    | .fail => .fail) D Z := h
  revert h'
  generalize evB C b e s = res
  intro h'
  match res, h' with
  | .ok (.nx _) _, h' => exact h'
  | .ok (.bk _) _, h' => exact h'
  | .ok (.ct _) _, h' => exact h'
  | .ok (.rt _) _, h' => exact h'
  | .fail, h' => exact h'
  | .exc d fs e1 s1, h' =>
    replace h' : ResS B ρ s.size H (if (C.excf d).isSome then (match C.sub d c with
      | some true => (evB C t (e1.set i (some (.exn d fs))) s1).gone i
      | some false => .exc d fs e1 s1
      | none => .fail) else .fail) D Z := h'
    by_cases hx : (C.excf d).isSome = true
    · rw [if_pos hx] at h'
      intro ρ' H' σ' dd vfs x' r' ed' z1 z2
      cases q : C.sub d c with
      | none => rw [q] at h'; exact (show False from h').elim
      | some bb =>
        rw [q] at h'
        refine ⟨bb, B.ca d, dd, rfl, rfl, exm d bb hx q, fun hbb a ha => ?_, fun hbb => ?_⟩
        · subst hbb
          have xl : Ext ρ' s1.size H' ρ' s1.size (upd H' a (exk a (B.ca d) dd)) := Ext.laid ha
          have rl := r'.laid (o := exk a (B.ca d) dd) ha
          have den : Den B ρ' s1.size (upd H' a (exk a (B.ca d) dd)) (.exn d fs) (.ref a) := Den.caught r'.nd (Fz.laid r' ha) (z1.ext xl) (z2.ext xl)
          exact ⟨ρ', s1, _, rl, (ed'.ext xl).set den, ResS.gone (ResS.from (x'.trans xl) h')⟩
        · subst hbb
          exact h' ρ' H' σ' dd vfs x' r' ed' z1 z2
    · rw [if_neg hx] at h'
      exact (show False from h').elim
end
end Ev

set_option Elab.async false
set_option linter.all false
set_option autoImplicit false
set_option maxRecDepth 100000
namespace Ev
open PySem PySem.Spec L2

def ckT (D : Tab) (N : List Str) : Tg → Scope → Scope → (Expr → Bool) × (List Expr → Bool)
  | .pt p, sc, st => ((ckP N st p).1, no1)
  | .tup ts, sc, st => (fun e => match e with
    | .Tuple es _ _ => (ckT D N ts sc st).2 es
    | _ => false, no1)
  | .nil, sc, st => (no1, fun es => es.isEmpty)
  | .cons a b, sc, st => (no1, fun es => match es with
    | e :: es => unstarred e && (ckT D N a sc st).1 e && (ckT D N b sc st).2 es
    | [] => false)
  | .attr o f, sc, st => (fun e => match e with
    | .Attribute y nm _ => decide (D.fld[f]? = some nm) && (ck D N o sc st).e y
    | _ => false, no1)
  | .sub o i, sc, st => (fun e => match e with
    | .Subscript y z _ => notSlice z && (ck D N o sc st).e y && (ck D N i sc st).e z
    | _ => false, no1)
theorem asg_un {e : Expr} {es : List Expr} {env : PySem.Env} (h : unstarred e = true) : assignEach (e :: es) env = (false, assign e env) :: assignEach es env := by
  cases e <;> first | rfl | exact ff h
section
variable {X : Cx} {B : Tb} {Z : St → XK} {C : Ev.C} {D : Tab} {N : List Str} {sc sto : Scope}
theorem asgT_all {env : PySem.Env} : ∀ {t : Tg} {es : List Expr}, (ckT D N t sc sto).2 es = true → (assignEach es env).length = es.length ∧ (assignEach es env).findIdx? (·.1) = none
  | .pt _, _, h => ff h
  | .tup _, _, h => ff h
  | .attr _ _, _, h => ff h
  | .sub _ _, _, h => ff h
  | .nil, [], _ => ⟨rfl, rfl⟩
  | .nil, _ :: _, h => ff h
  | .cons a b, [], h => ff h
  | .cons a b, e :: es, h => by
    have h' : (unstarred e && (ckT D N a sc sto).1 e && (ckT D N b sc sto).2 es) = true := h
    rw [Bool.and_eq_true, Bool.and_eq_true] at h'
    obtain ⟨l, f⟩ := asgT_all (t := b) (env := env) h'.2
    rw [asg_un h'.1.1]
    refine ⟨by simp [l], ?_⟩
    rw [List.findIdx?_cons]
    simp [f]
theorem asgT_len : ∀ {t : Tg} {es : List Expr}, (ckT D N t sc sto).2 es = true → ∀ ws e s, (∃ e1 s1, asgW C t ws e s = .ok e1 s1) → ws.length = es.length
  | .pt _, _, h, _, _, _, _ => ff h
  | .tup _, _, h, _, _, _, _ => ff h
  | .attr _ _, _, h, _, _, _, _ => ff h
  | .sub _ _, _, h, _, _, _, _ => ff h
  | .nil, _ :: _, h, _, _, _, _ => ff h
  | .nil, [], _, [], _, _, _ => rfl
  | .nil, [], _, w :: ws, e, s, ⟨e1, s1, q⟩ => nomatch (show (R.fail : R Env) = .ok e1 s1 from q)
  | .cons a b, [], h, _, _, _, _ => ff h
  | .cons a b, x :: es, h, [], e, s, ⟨e1, s1, q⟩ => nomatch (show (R.fail : R Env) = .ok e1 s1 from q)
  | .cons a b, x :: es, h, w :: ws, e, s, ⟨e1, s1, q⟩ => by
    have h' : (unstarred x && (ckT D N a sc sto).1 x && (ckT D N b sc sto).2 es) = true := h
    rw [Bool.and_eq_true, Bool.and_eq_true] at h'
    have q' : (asgW C a [w] e s).bind (fun e1 s1 => asgW C b ws e1 s1) = .ok e1 s1 := q
    cases q1 : asgW C a [w] e s with
    | fail => rw [q1] at q'; cases q'
    | exc _ _ _ => rw [q1] at q'; cases q'
    | ok e2 s2 =>
      rw [q1] at q'
      simp [asgT_len (t := b) h'.2 ws e2 s2 ⟨e1, s1, q'⟩]
theorem pg_tg (F : Facts X B C D) (T : Sc X N sc sto) (hc : X.calm = true) (tk : Takes X (WZ Z)) : ∀ (t : Tg), (∀ e, (ckT D N t sc sto).1 e = true → PG X e (fun v => gT B C t [v])) ∧ ∀ es, (ckT D N t sc sto).2 es = true → PGs X es (gT B C t)
  | .pt p => ⟨fun e h => pg_ptT ((pg_pt F.hK hc T p).1 e h), fun es h => ff h⟩
  | .tup t => ⟨fun e h => by
      cases e <;> first | exact ff h | skip
      rename_i es kk q
      have h' : (ckT D N t sc sto).2 es = true := h
      obtain ⟨l, f⟩ := asgT_all (env := X.env) h'
      exact pg_tupT F.hK hc ((pg_tg F T hc tk t).2 es h') l f (asgT_len h'), fun es h => ff h⟩
  | .attr o f => ⟨fun e h => by
      cases e <;> first | exact ff h | skip
      rename_i y nm q
      have h' : (decide (D.fld[f]? = some nm) && (ck D N o sc sto).e y) = true := h
      rw [Bool.and_eq_true, decide_eq_true_eq] at h'
      exact pg_attr F.kls (by rw [F.fld]; exact h'.1) ((se o F T hc tk).e _ h'.2), fun es h => ff h⟩
  | .sub o i => ⟨fun e h => by
      cases e <;> first | exact ff h | skip
      rename_i y z q
      have h' : (notSlice z && (ck D N o sc sto).e y && (ck D N i sc sto).e z) = true := h
      rw [Bool.and_eq_true, Bool.and_eq_true] at h'
      exact pg_subT F.hK ((se o F T hc tk).e _ h'.1.2) ((se i F T hc tk).e _ h'.2) h'.1.1, fun es h => ff h⟩
  | .nil => ⟨fun e h => ff h, fun es h => by
      cases es with
      | nil => exact pgs_nilT
      | cons _ _ => exact ff h⟩
  | .cons a b => ⟨fun e h => ff h, fun es h => by
      cases es with
      | nil => exact ff h
      | cons x xs =>
        have h' : (unstarred x && (ckT D N a sc sto).1 x && (ckT D N b sc sto).2 xs) = true := h
        rw [Bool.and_eq_true, Bool.and_eq_true] at h'
        exact pgs_consT ((pg_tg F T hc tk a).1 x h'.1.2) ((pg_tg F T hc tk b).2 xs h'.2) (by rw [asg_un h'.1.1]; rfl)⟩
end
/-! ### statements -/
def swB (sc : Scope) (x t : Expr) : Bool := !isComp x || match t with
  | .Name nm _ => !(sc.names.lookup nm == some .local)
  | _ => true
theorem swB_of {sc : Scope} {x t : Expr} {l : Nat} {env : PySem.Env} (hs : env.scope = sc) (h : swB sc x t = true) : swapsWith x (some t) l env = pure false := by
  unfold swB at h
  rw [Bool.or_eq_true, Bool.not_eq_true'] at h
  rcases h with h | h
  · exact sw_plain h
  · cases t <;> first | exact sw_tgt rfl | skip
    exact sw_cell (by rw [hs]; simpa using h)
/-- an assignment of any plain kind -/
def asg1 (D : Tab) (N : List Str) (tg : Tg) (a : E) (sc st : Scope) (t x : Expr) : Bool := (ckT D N tg sc st).1 t && unstarred t && (ck D N a sc st).e x && swB sc x t && swNone t x sc
/-- a name, a comprehension of the same line -/
def asg2 (D : Tab) (N : List Str) (tg : Tg) (a : E) (sc st : Scope) (t x : Expr) : Bool := match tg, a, t, x with
  | .pt (.n i), .comp p el it c, .Name nm py, .ListComp elt [⟨tgt, itx, ifs, as⟩] scope pos => decide (N[i]? = some nm) && decide (sc.names.lookup nm = some .local) && decide (sc.kind = .function) && (py.line == pos.line) && !(scope.names.any fun (n, k) => n == nm && (k == .local || k == .cell)) &&
      (decide (as = 0) && blkC N sc scope (ownOf N p) && (ckP N scope p).1 tgt && notSet itx && (ck D N it sc st).i tgt itx && (ck D.off N c (relS scope sc) scope).n ifs && (ck D.off N el (relS scope sc) scope).e elt)
  | _, _, _, _ => false
/-- two names -/
def asg3 (D : Tab) (N : List Str) (tg : Tg) (a : E) (sc st : Scope) (t x : Expr) : Bool := match tg, t, x with
  | .pt (.t (.cons (.n i) (.cons (.n j) .nil))), .Tuple [.Name nx px, .Name ny py] _ _, .Tuple [y, z] _ _ => decide (N[i]? = some nx) && decide (N[j]? = some ny) && decide (sc.names.lookup nx = some .local) && decide (sc.names.lookup ny = some .local) && decide (sc.kind = .function) &&
      (px.line == py.line) && !(nx == ny) && unstarred y && unstarred z && !([y, z].all (foldedForSure 8)) && !([y, z].all (constantsAlone 8)) && (ck D N a sc st).tv y z
  | _, _, _ => false
/-- in an except suite -/
def csH (D : Tab) (N : List Str) (sc st : Scope) : T → (Stmt → Bool) × (List Stmt → Bool)
  | .nil => (no1, fun l => l.isEmpty)
  | .cons a b => (no1, fun l => match l with
    | s :: l => (csH D N sc st a).1 s && (csH D N sc st b).2 l
    | [] => false)
  | .asg (.pt (.n i)) a => (fun s => match s with
    | .Assign [.Name nm _] x _ => decide (N[i]? = some nm) && isLoc st nm && !isComp x && (ckH D N sc a).1 x
    | _ => false, no1)
  | .ret a => (fun s => match s with
    | .Return (some x) _ => (ckH D N sc a).1 x
    | .Return none _ => (match a with
      | .k .non => true
      | _ => false)
    | _ => false, no1)
  | .pass => (fun s => match s with
    | .Pass _ => true
    | _ => false, no1)
  | _ => (no1, no1)
def cs (D : Tab) (N : List Str) : T → Scope → Scope → (Stmt → Bool) × (List Stmt → Bool)
  | .nil, sc, st => (no1, fun l => l.isEmpty)
  | .cons a b, sc, st => (no1, fun l => match l with
    | s :: l => (cs D N a sc st).1 s && (cs D N b sc st).2 l
    | [] => false)
  | .asg tg a, sc, st => (fun s => match s with
    | .Assign [t] x _ => asg1 D N tg a sc st t x || asg2 D N tg a sc st t x || asg3 D N tg a sc st t x
    | _ => false, no1)
  | .aug i o a, sc, st => (fun s => match s with
    | .AugAssign (.Name nm _) op x _ => decide (N[i]? = some nm) && isLoc st nm && decide (op = o.py) && (ck D N a sc st).e x
    | _ => false, no1)
  | .auga x f o a, sc, st => (fun s => match s with
    | .AugAssign (.Attribute y nm _) op z _ => decide (D.fld[f]? = some nm) && decide (op = o.py) && (ck D N x sc st).e y && (ck D N a sc st).e z
    | _ => false, no1)
  | .ex a, sc, st => (fun s => match s with
    | .Expr x _ => !isComp x && (ck D N a sc st).e x
    | _ => false, no1)
  | .ite c a b, sc, st => (fun s => match s with
    | .If x p q _ => (ck D N c sc st).t x && (cs D N a sc st).2 p && (cs D N b sc st).2 q
    | _ => false, no1)
  | .whl c b, sc, st => (fun s => match s with
    | .While x p [] _ => (ck D N c sc st).t x && (cs D N b sc st).2 p
    | _ => false, no1)
  | .for_ p a b, sc, st => (fun s => match s with
    | .For tg x q [] _ => (ckP N st p).1 tg && notSet x && (ck D N a sc st).i tg x && (cs D N b sc st).2 q
    | _ => false, no1)
  | .ret a, sc, st => (fun s => match s with
    | .Return (some x) _ => (ck D N a sc st).e x
    | .Return none _ => (match a with
      | .k .non => true
      | _ => false)
    | _ => false, no1)
  | .raise y c a, sc, st => (fun s => match s with
    | .Raise (some (.Call (.Name nm _) (x :: xs) [] _)) none _ => decide (nm = y) && decide ((y, c) ∈ D.rss) && glB sc y && (x :: xs).all unstarred && (ck D N a sc st).a (x :: xs)
    | _ => false, no1)
  | .tryk b y c n t, sc, st => (fun s => match s with
    | .Try body [.ExceptHandler (some (.Name x _)) (some nm) (s0 :: suite) _] [] [] _ => decide (x = y) && decide ((y, c) ∈ D.tys) && decide (c ∈ D.cts) && glB sc y && decide (N[n]? = some nm) && decide (sc.names.lookup nm = some .local) && (cs D N b sc st).2 body && (csH D N sc st t).2 (s0 :: suite)
    | _ => false, no1)
  | .aska i, sc, st => (fun s => match s with
    | .Assign [.Name nm _] (.Call (.Name a _) [] [] _) _ => decide (N[0]? = some a) && visB sc a && decide (N[i]? = some nm) && isLoc st nm
    | _ => false, no1)
  | .brk, sc, st => (fun s => match s with
    | .Break _ => true
    | _ => false, no1)
  | .cnt, sc, st => (fun s => match s with
    | .Continue _ => true
    | _ => false, no1)
  | .pass, sc, st => (fun s => match s with
    | .Pass _ => true
    | .Expr (.Constant (.str _) _ _) _ => true
    | _ => false, no1)
  | .odd, sc, st => (fun _ => true, fun _ => true)
section
variable {X : Cx} {B : Tb} {Z : St → XK} {C : Ev.C} {D : Tab} {N : List Str} {sc sto : Scope}
theorem sx_asg1 {tg : Tg} {a : E} {t x : Expr} {pos : Pos} (F : Facts X B C D) (T : Sc X N sc sto) (hc : X.calm = true) (tk : Takes X (WZ Z)) (h : asg1 D N tg a sc sto t x = true) : PSv X B Z C (.Assign [t] x pos) (.asg tg a) := by
  unfold asg1 at h
  rw [Bool.and_eq_true, Bool.and_eq_true, Bool.and_eq_true, Bool.and_eq_true] at h
  obtain ⟨⟨⟨⟨h1, h2⟩, h3⟩, h4⟩, h5⟩ := h
  exact sx_asg ((se a F T hc tk).e _ h3) ((pg_tg F T hc tk tg).1 t h1) (swB_of T.scp h4) (sw_none (by rw [T.scp]; exact h5)) (by rw [asg_un h2]; rfl)
theorem sx_asg2 {tg : Tg} {a : E} {t x : Expr} {pos : Pos} (F : Facts X B C D) (T : Sc X N sc sto) (hc : X.calm = true) (tk : Takes X (WZ Z)) (h : asg2 D N tg a sc sto t x = true) : PSv X B Z C (.Assign [t] x pos) (.asg tg a) := by
  cases tg <;> first | exact ff h | skip
  rename_i p0
  cases p0 <;> first | exact ff h | skip
  rename_i i
  cases a <;> first | exact ff h | skip
  rename_i p el it c
  cases t <;> first | exact ff h | skip
  rename_i nm py
  cases x <;> first | exact ff h | skip
  rename_i elt gs scope p2
  match gs, h with
  | [], h => exact ff h
  | ⟨_, _, _, _⟩ :: _ :: _, h => exact ff h
  | [⟨tgt, itx, ifs, as⟩], h =>
    have h' : (decide (N[i]? = some nm) && decide (sc.names.lookup nm = some .local) && decide (sc.kind = .function) && (py.line == p2.line) && !(scope.names.any fun (n, k) => n == nm && (k == .local || k == .cell)) &&
      (decide (as = 0) && blkC N sc scope (ownOf N p) && (ckP N scope p).1 tgt && notSet itx && (ck D N it sc sto).i tgt itx && (ck D.off N c (relS scope sc) scope).n ifs && (ck D.off N el (relS scope sc) scope).e elt)) = true := h
    simp only [Bool.and_eq_true, decide_eq_true_eq, Bool.not_eq_true'] at h'
    obtain ⟨⟨⟨⟨⟨h1, h2⟩, h3⟩, h4⟩, h5⟩, ⟨⟨⟨⟨⟨⟨g0, g1⟩, g2⟩, g3⟩, g4⟩, g5⟩, g6⟩⟩ := h'
    subst g0
    refine sx_asgLc (sx_comp F.hK hc T h1 h2 (sw_true (by rw [T.scp]; exact h3) (by rw [T.scp]; exact h2) h4 h5) g1 g2 ((se it F T hc tk).i _ _ g4) (fun s H Dd cl fp => (se c (X := X.blk s H scope (compEnvC scope cl Dd X.env) fp) (F.same rfl rfl rfl rfl rfl rfl) T.blk hc LamX.takes0).n _ g5) (fun s H Dd cl fp => (se el (X := X.blk s H scope (compEnvC scope cl Dd X.env) fp) (F.same rfl rfl rfl rfl rfl rfl) T.blk hc LamX.takes0).e _ g6) (notSet_of g3))
theorem sx_asg3 {tg : Tg} {a : E} {t x : Expr} {pos : Pos} (F : Facts X B C D) (T : Sc X N sc sto) (hc : X.calm = true) (tk : Takes X (WZ Z)) (h : asg3 D N tg a sc sto t x = true) : PSv X B Z C (.Assign [t] x pos) (.asg tg a) := by
  unfold asg3 at h
  split at h
  · rename_i i j nx px ny py k1 k2 y z k3 k4
    simp only [Bool.and_eq_true, decide_eq_true_eq, Bool.not_eq_true'] at h
    obtain ⟨⟨⟨⟨⟨⟨⟨⟨⟨⟨⟨h1, h2⟩, h3⟩, h4⟩, h5⟩, h6⟩, h7⟩, h8⟩, h9⟩, h10⟩, h11⟩, h12⟩ := h
    obtain ⟨b, d, rfl, hb, hd⟩ := (se a F T hc tk).tv y z h12
    exact sx_par T hc h1 h2 h3 h4 h5 h6 h7 h8 h9 h10 h11 hb hd
  · exact ff h
theorem ssH (F : Hot X B C D) (T : Sc X N sc sto) : ∀ (t : Ev.T), (∀ s, (csH D N sc sto t).1 s = true → PSv X B Z C s t) ∧ ∀ l, (csH D N sc sto t).2 l = true → PSsv X B Z C l t
  | .nil => ⟨fun s h => ff h, fun l h => by
      cases l with
      | nil => exact sx_nil
      | cons _ _ => exact ff h⟩
  | .cons a b => ⟨fun s h => ff h, fun l h => by
      cases l with
      | nil => exact ff h
      | cons s l =>
        have h' : ((csH D N sc sto a).1 s && (csH D N sc sto b).2 l) = true := h
        rw [Bool.and_eq_true] at h'
        exact sx_cons ((ssH F T a).1 s h'.1) ((ssH F T b).2 l h'.2)⟩
  | .asg (.pt (.n i)) a => ⟨fun s h => by
      unfold csH at h
      dsimp only at h
      split at h
      · rename_i nm p2 x p
        have h' : (decide (N[i]? = some nm) && isLoc sto nm && !isComp x && (ckH D N sc a).1 x) = true := h
        rw [Bool.and_eq_true, Bool.and_eq_true, Bool.and_eq_true, decide_eq_true_eq, Bool.not_eq_true'] at h'
        obtain ⟨⟨⟨h1, h2⟩, h3⟩, h4⟩ := h'
        obtain ⟨l1, l2⟩ := T.sto nm h2
        exact sx_asgLc (ps_set (by rw [T.hN]; exact T.nd) (by rw [T.hN]; exact h1) (by rw [T.scp]; exact l1) ((seH F T a).1 _ h4) (sw_plain h3) (by rw [T.scp]; exact l2))
      · exact ff h, fun l h => ff h⟩
  | .ret a => ⟨fun s h => by
      cases s <;> first | exact ff h | skip
      rename_i o p
      cases o with
      | some x => exact sx_ret ((seH F T a).1 _ h)
      | none =>
        cases a <;> first | exact ff h | skip
        rename_i w
        cases w <;> first | exact ff h | skip
        exact sx_retN, fun l h => ff h⟩
  | .pass => ⟨fun s h => by
      cases s <;> first | exact ff h | exact sx_pass, fun l h => ff h⟩
  | .asg (.pt (.t _)) _ | .asg (.pt .nil) _ | .asg (.pt (.cons _ _)) _ | .asg (.tup _) _ | .asg .nil _ | .asg (.cons _ _) _ | .asg (.attr _ _) _ | .asg (.sub _ _) _ | .aug _ _ _ | .auga _ _ _ _ | .ex _ | .ite _ _ _ | .whl _ _ | .for_ _ _ _ | .raise _ _ _ | .tryk _ _ _ _ _ | .aska _ | .brk | .cnt | .odd => ⟨fun s h => ff h, fun l h => ff h⟩
/-- the frame of a def -/
structure Lv (X : Cx) : Prop where
  st : X.stack = X.env :: X.outer
  fr : X.env.frame = some X.env.locals
  ex : X.ex = []
theorem Facts0.hot (F : Facts0 X B C D) (a : Addr) (pn : List (Addr × Obj)) : Hot (X.suite a pn) B C D := ⟨F.hK, F.fld, fun c h => let ⟨e, z⟩ := F.kls c h; ⟨e, z⟩, fun c h => let ⟨e, z⟩ := F.exs c h; ⟨e, z⟩⟩
theorem ss : ∀ (t : Ev.T) {X : Cx} {Z : St → XK}, Facts X B C D → Sc X N sc sto → X.calm = true → PassesOwn (model X.prog X.w) X.A X.env X.xe → Takes X (WZ Z) → Lv X → AskOk X B C → (∀ s, (cs D N t sc sto).1 s = true → PSv X B Z C s t) ∧ ∀ l, (cs D N t sc sto).2 l = true → PSsv X B Z C l t
  | .nil, X, Z, F, T, hc, hp, tk, lv, ak => ⟨fun s h => ff h, fun l h => by
      cases l with
      | nil => exact sx_nil
      | cons _ _ => exact ff h⟩
  | .cons a b, X, Z, F, T, hc, hp, tk, lv, ak => ⟨fun s h => ff h, fun l h => by
      cases l with
      | nil => exact ff h
      | cons s l =>
        have h' : ((cs D N a sc sto).1 s && (cs D N b sc sto).2 l) = true := h
        rw [Bool.and_eq_true] at h'
        exact sx_cons ((ss a F T hc hp tk lv ak).1 s h'.1) ((ss b F T hc hp tk lv ak).2 l h'.2)⟩
  | .asg tg a, X, Z, F, T, hc, hp, tk, lv, ak => ⟨fun s h => by
      cases s <;> first | exact ff h | skip
      rename_i ts x p
      match ts, h with
      | [], h => exact ff h
      | _ :: _ :: _, h => exact ff h
      | [t], h =>
        have h' : (asg1 D N tg a sc sto t x || asg2 D N tg a sc sto t x || asg3 D N tg a sc sto t x) = true := h
        rw [Bool.or_eq_true, Bool.or_eq_true] at h'
        rcases h' with (h' | h') | h'
        · exact sx_asg1 F T hc tk h'
        · exact sx_asg2 F T hc tk h'
        · exact sx_asg3 F T hc tk h', fun l h => ff h⟩
  | .aug i o a, X, Z, F, T, hc, hp, tk, lv, ak => ⟨fun s h => by
      cases s <;> first | exact ff h | skip
      rename_i t op x p
      cases t <;> first | exact ff h | skip
      rename_i nm p2
      have h' : (decide (N[i]? = some nm) && isLoc sto nm && decide (op = o.py) && (ck D N a sc sto).e x) = true := h
      rw [Bool.and_eq_true, Bool.and_eq_true, Bool.and_eq_true, decide_eq_true_eq, decide_eq_true_eq] at h'
      obtain ⟨⟨⟨h1, h2⟩, rfl⟩, h4⟩ := h'
      exact sx_aug T h1 h2 ((se a F T hc tk).e _ h4), fun l h => ff h⟩
  | .auga x f o a, X, Z, F, T, hc, hp, tk, lv, ak => ⟨fun s h => by
      cases s <;> first | exact ff h | skip
      rename_i t op z p
      cases t <;> first | exact ff h | skip
      rename_i y nm p2
      have h' : (decide (D.fld[f]? = some nm) && decide (op = o.py) && (ck D N x sc sto).e y && (ck D N a sc sto).e z) = true := h
      rw [Bool.and_eq_true, Bool.and_eq_true, Bool.and_eq_true, decide_eq_true_eq, decide_eq_true_eq] at h'
      obtain ⟨⟨⟨h1, rfl⟩, h3⟩, h4⟩ := h'
      exact sx_auga F.kls (by rw [F.fld]; exact h1) ((se x F T hc tk).e _ h3) ((se a F T hc tk).e _ h4), fun l h => ff h⟩
  | .ex a, X, Z, F, T, hc, hp, tk, lv, ak => ⟨fun s h => by
      cases s <;> first | exact ff h | skip
      rename_i x p
      have h' : (!isComp x && (ck D N a sc sto).e x) = true := h
      rw [Bool.and_eq_true, Bool.not_eq_true'] at h'
      exact sx_ex ((se a F T hc tk).e _ h'.2) h'.1, fun l h => ff h⟩
  | .ite c a b, X, Z, F, T, hc, hp, tk, lv, ak => ⟨fun s h => by
      cases s <;> first | exact ff h | skip
      rename_i x p q pos
      have h' : ((ck D N c sc sto).t x && (cs D N a sc sto).2 p && (cs D N b sc sto).2 q) = true := h
      rw [Bool.and_eq_true, Bool.and_eq_true] at h'
      exact sx_ite ((se c F T hc tk).t _ h'.1.1) ((ss a F T hc hp tk lv ak).2 p h'.1.2) ((ss b F T hc hp tk lv ak).2 q h'.2), fun l h => ff h⟩
  | .whl c b, X, Z, F, T, hc, hp, tk, lv, ak => ⟨fun s h => by
      cases s <;> first | exact ff h | skip
      rename_i x p q pos
      cases q with
      | cons _ _ => exact ff h
      | nil =>
        have h' : ((ck D N c sc sto).t x && (cs D N b sc sto).2 p) = true := h
        rw [Bool.and_eq_true] at h'
        exact sx_whl hp ((se c F T hc tk).t _ h'.1) ((ss b F T hc hp tk lv ak).2 p h'.2), fun l h => ff h⟩
  | .for_ p a b, X, Z, F, T, hc, hp, tk, lv, ak => ⟨fun s h => by
      cases s <;> first | exact ff h | skip
      rename_i tg x q r pos
      cases r with
      | cons _ _ => exact ff h
      | nil =>
        have h' : ((ckP N sto p).1 tg && notSet x && (ck D N a sc sto).i tg x && (cs D N b sc sto).2 q) = true := h
        rw [Bool.and_eq_true, Bool.and_eq_true, Bool.and_eq_true] at h'
        exact sx_for hp hc ((se a F T hc tk).i _ _ h'.1.2) ((pg_pt F.hK hc T p).1 tg h'.1.1.1) ((ss b F T hc hp tk lv ak).2 q h'.2) (notSet_of h'.1.1.2), fun l h => ff h⟩
  | .ret a, X, Z, F, T, hc, hp, tk, lv, ak => ⟨fun s h => by
      cases s <;> first | exact ff h | skip
      rename_i o p
      cases o with
      | some x => exact sx_ret ((se a F T hc tk).e _ h)
      | none =>
        cases a <;> first | exact ff h | skip
        rename_i w
        cases w <;> first | exact ff h | skip
        exact sx_retN, fun l h => ff h⟩
  | .raise y c a, X, Z, F, T, hc, hp, tk, lv, ak => ⟨fun s h => by
      cases s <;> first | exact ff h | skip
      rename_i ex ca pos
      cases ex <;> first | exact ff h | skip
      rename_i x
      cases x <;> first | exact ff h | skip
      rename_i fx xs kws p2
      cases fx <;> first | exact ff h | skip
      rename_i nm p
      match xs, kws, ca, h with
      | [], _, _, h => exact ff h
      | _ :: _, _ :: _, _, h => exact ff h
      | _ :: _, [], some _, h => exact ff h
      | x :: xs, [], none, h =>
        have h' : (decide (nm = y) && decide ((y, c) ∈ D.rss) && glB sc y && (x :: xs).all unstarred && (ck D N a sc sto).a (x :: xs)) = true := h
        rw [Bool.and_eq_true, Bool.and_eq_true, Bool.and_eq_true, Bool.and_eq_true, decide_eq_true_eq, decide_eq_true_eq] at h'
        obtain ⟨⟨⟨⟨rfl, h2⟩, h3⟩, h4⟩, h5⟩ := h'
        obtain ⟨m1, r, R⟩ := F.rss _ h2
        obtain ⟨g1, g2⟩ := gl_of T h3
        exact sx_raise R r hc tk g1 g2 m1 ((se a F T hc tk).a _ h5) h4, fun l h => ff h⟩
  | .tryk b y c n t, X, Z, F, T, hc, hp, tk, lv, ak => ⟨fun s h => by
      unfold cs at h
      dsimp only at h
      split at h
      · rename_i body x p3 nm s0 suite p2 pos
        have h' : (decide (x = y) && decide ((y, c) ∈ D.tys) && decide (c ∈ D.cts) && glB sc y && decide (N[n]? = some nm) && decide (sc.names.lookup nm = some .local) && (cs D N b sc sto).2 body && (csH D N sc sto t).2 (s0 :: suite)) = true := h
        simp only [Bool.and_eq_true, decide_eq_true_eq] at h'
        obtain ⟨⟨⟨⟨⟨⟨⟨rfl, h2⟩, h3⟩, h4⟩, h5⟩, h6⟩, h7⟩, h8⟩ := h'
        obtain ⟨g1, g2⟩ := gl_of T h4
        exact sx_try T lv.st lv.fr lv.ex h5 h6 ⟨g1, g2, .inl (F.tys _ h2)⟩ tk (F.cts c h3)
          (fun W pn xe tk' hp' => (ss b (X := X.tr pn xe) (Z := ZW W) (F.tr pn xe) ⟨T.hN, T.nd, T.scp, T.sto⟩ hc hp' tk' ⟨lv.st, lv.fr, lv.ex⟩ (ak.tr pn xe)).2 _ h7)
          (fun a pn => (ssH (F.toFacts0.hot a pn) ⟨T.hN, T.nd, T.scp, T.sto⟩ t).2 _ h8)
      · exact ff h, fun l h => ff h⟩
  | .aska i, X, Z, F, T, hc, hp, tk, lv, ak => ⟨fun s h => by
      unfold cs at h
      dsimp only at h
      split at h
      · rename_i nm p2 a p4 p3 p
        have h' : (decide (N[0]? = some a) && visB sc a && decide (N[i]? = some nm) && isLoc sto nm) = true := h
        simp only [Bool.and_eq_true, decide_eq_true_eq] at h'
        obtain ⟨⟨⟨h1, h2⟩, h3⟩, h4⟩ := h'
        obtain ⟨v1, v2, v3⟩ := vis_of T h2
        exact sx_aska T ak tk h1 v1 v2 v3 h3 h4 (sw_plain rfl)
      · exact ff h, fun l h => ff h⟩
  | .brk, X, Z, F, T, hc, hp, tk, lv, ak => ⟨fun s h => by
      cases s <;> first | exact ff h | exact sx_brk, fun l h => ff h⟩
  | .cnt, X, Z, F, T, hc, hp, tk, lv, ak => ⟨fun s h => by
      cases s <;> first | exact ff h | exact sx_cnt, fun l h => ff h⟩
  | .pass, X, Z, F, T, hc, hp, tk, lv, ak => ⟨fun s h => by
      cases s <;> first | exact ff h | exact sx_pass | skip
      rename_i x p
      cases x <;> first | exact ff h | skip
      rename_i c j q
      cases c <;> first | exact ff h | exact sx_doc, fun l h => ff h⟩
  | .odd, X, Z, F, T, hc, hp, tk, lv, ak => ⟨fun s h => ⟨fun pins st σ H D I ⟨ρ, s, e, r, ed, h⟩ => h.elim⟩, fun l h => ⟨fun pins st σ H D I ⟨ρ, s, e, r, ed, h⟩ => h.elim⟩⟩
end
end Ev

set_option Elab.async false
set_option linter.all false
set_option autoImplicit false
set_option maxRecDepth 100000
namespace Ev
open PySem PySem.Spec L2

/-- a def as the row has it -/
structure Cd where
  x : Str
  qual : Str
  params : Arguments
  body : List Stmt
  scope : Scope
  N : List Str
  ps : List Str
/-- what is true of the whole program, whatever runs; lf: in which defs lambdas are made -/
structure Whole (P : Program) (w : World) (K : PySem.W.Frag) (mg : Str → Option Value) (B : Tb) (Pg : Prog) (D : Tab) (lf : Nat → Bool) (cd : Nat → Cd) (fd : Nat → FuncData) : Prop where
  hK : B.K = K
  df : ∀ g d, Pg.defs[g]? = some d → (∃ dvs kws, FunD K (cd g).x (cd g).qual (cd g).params (cd g).body (cd g).scope dvs kws (B.fa g) (fd g)) ∧ FnScope (cd g).N (cd g).ps (cd g).scope ∧ d.np = (cd g).ps.length ∧ (cd g).N.length = d.np + d.nl ∧ (cs (D.on (lf g)) (cd g).N d.body (cd g).scope (cd g).scope).2 (cd g).body = true
  gls : ∀ q ∈ D.gls, ∃ v u, mg q.1 = some u ∧ RelV v u ∧ ∀ (ρ : Pl) (n : Nat) (H : Hp), Den B ρ n H q.2 v
  bns : ∀ x ∈ D.bns, mg x = none
  fns : ∀ q ∈ D.fns, mg q.1 = some (.ref (B.fa q.2)) ∧ (Pg.defs[q.2]?).isSome = true ∧ Binds K (fd q.2) (cd q.2).ps []
  fks : ∀ q ∈ D.fks, mg q.1 = some (.ref (B.fa q.2.1)) ∧ (Pg.defs[q.2.1]?).isSome = true ∧ ∃ dv, Bnd K (fd q.2.1) (cd q.2.1).ps 0 q.2.2.n q.2.2.ks q.2.2.ix dv ∧ Dfl B q.2.2.ds dv
  mks : ∀ q ∈ D.mks, mg q.1 = some (.ref (B.ca q.2)) ∧ ∃ g, Pg.makes q.2 = some g ∧ Mk K (B.ca q.2) (B.fa g) ∧ (Pg.defs[g]?).isSome = true ∧ Binds K (fd g) (cd g).ps []
  mkk : ∀ q ∈ D.mkk, mg q.1 = some (.ref (B.ca q.2.1)) ∧ ∃ g, Pg.makes q.2.1 = some g ∧ Mk K (B.ca q.2.1) (B.fa g) ∧ (Pg.defs[g]?).isSome = true ∧ ∃ dv, Bnd K (fd g) (cd g).ps 1 q.2.2.n q.2.2.ks q.2.2.ix dv ∧ Dfl B q.2.2.ds dv
  mts : ∀ m ∈ D.mts, m ∉ B.fn ∧ ∀ c g, (Pg.makes c).isSome = true → Pg.meth c m = some g → Meth K (B.ca c) m (B.fa g) ∧ (Pg.defs[g]?).isSome = true ∧ Binds K (fd g) (cd g).ps []
  mtk : ∀ q ∈ D.mtk, q.1 ∉ B.fn ∧ ∀ c g, (Pg.makes c).isSome = true → Pg.meth c q.1 = some g → Meth K (B.ca c) q.1 (B.fa g) ∧ (Pg.defs[g]?).isSome = true ∧ ∃ dv, Bnd K (fd g) (cd g).ps 1 q.2.n q.2.ks q.2.ix dv ∧ Dfl B q.2.ds dv
  tys : ∀ q ∈ D.tys, mg q.1 = some (.ref (B.ca q.2))
  rss : ∀ q ∈ D.rss, mg q.1 = some (.ref (B.ca q.2)) ∧ ∀ (c1 c2 c3 c4 : Nat → List W → S → R W) (he : Nat → (S → R W) → S → R W) (ak : S → R W), Raisable P K B (ctxOf Pg c1 c2 c3 c4 he ak) q.2
  fld : B.fn = D.fld
  kls : ∀ (X : Cx) (c : Nat), X.K = K → (Pg.makes c).isSome = true → Kls X B c
  exs : ∀ (X : Cx) (c : Nat), X.K = K → (Pg.excf c).isSome = true → Exk X B c
  isa : ∀ (X : Cx) (c1 c2 c3 c4 : Nat → List W → S → R W) (he : Nat → (S → R W) → S → R W) (ak : S → R W), X.K = K → Isa X B (ctxOf Pg c1 c2 c3 c4 he ak)
  cts : ∀ c ∈ D.cts, ∀ a r, (Pg.excf a).isSome = true → Pg.sub a c = some r → PySem.W.exmOne K (.ref (B.ca a)) (.ref (B.ca c)) = some r
  hrs : ∀ q ∈ D.hrs, mg q.1 = some (.ref (B.fa q.2)) ∧ (Pg.defs[q.2]?).isSome = true ∧ Binds K (fd q.2) (cd q.2).ps [] ∧ lf q.2 = false ∧ ∃ a : Str, (cd q.2).ps = [a] ∧ (a == ("__debug__" : Str)) = false ∧ (a == ("__classdict__" : Str)) = false
/-- the tables of code objects of the defs in which lambdas are made -/
def LamT (mg : Str → Option Value) (base : Heap) (B : Tb) (lf : Nat → Bool) (cd : Nat → Cd) (fd : Nat → FuncData) : Prop :=
  ∀ g, lf g = true → ∃ c P : Addr, (fd g).code = .ref c ∧ LamX.TabB base mg c P ∧ (P, (cd g).qual ++ ".<locals>." ++ "<lambda>") ∈ B.T ∧ ∀ p ∈ B.T, p.1 = P → p.2 = (cd g).qual ++ ".<locals>." ++ "<lambda>"
def AllF (P : Program) (w : World) (K : PySem.W.Frag) (mg : Str → Option Value) (base : Heap) (B : Tb) (Pg : Prog) (cd : Nat → Cd) (fd : Nat → FuncData) (k : Nat) : Prop :=
  ∀ g, (Pg.defs[g]?).isSome = true → FnOk P w K mg base (L2.CX P w) k (B.fa g) (fd g) (cd g).ps (spF B (callF Pg k g))
def AllH (P : Program) (w : World) (K : PySem.W.Frag) (mg : Str → Option Value) (base : Heap) (B : Tb) (Pg : Prog) (D : Tab) (k : Nat) : Prop :=
  ∀ q ∈ D.hrs, ∀ X : Cx, X.prog = P → X.w = w → X.K = K → X.mg = mg → X.base = base → Hears X B k (B.fa q.2) (hearF Pg (k + 2) q.2)
section
variable {P : Program} {w : World} {K : PySem.W.Frag} {mg : Str → Option Value} {base : Heap} {B : Tb} {Pg : Prog} {D : Tab} {lf : Nat → Bool} {cd : Nat → Cd} {fd : Nat → FuncData}
theorem AllF.re {k : Nat} (a : AllF P w K mg base B Pg cd fd k) (l : Option Lm) : AllF P w K mg base (B.at l) Pg cd fd k := fun g h => (a g h).imp fun vs H Q E ⟨ρ, s, ws, r, d, q⟩ => ⟨ρ, s, ws, r.un', d.un, q.un⟩
theorem Whole.kp (Wh : Whole P w K mg B Pg D lf cd fd) {g : Nat} (h : (Pg.defs[g]?).isSome = true) : PySem.W.keepIn K (.ref (B.fa g)) = true := by
  obtain ⟨d, e⟩ := Option.isSome_iff_exists.mp h
  obtain ⟨⟨_, _, F⟩, _⟩ := Wh.df g d e
  exact F.kp
theorem Whole.facts (Wh : Whole P w K mg B Pg D lf cd fd) {X : Cx} {k : Nat} {c3 c4 : Nat → List W → S → R W} {he : Nat → (S → R W) → S → R W} {ak : S → R W} (hP : X.prog = P) (hw : X.w = w) (hK : X.K = K) (hmg : X.mg = mg) (hb : X.base = base) (hr : Room (k + 1) X.A) (a1 : AllF P w K mg base B Pg cd fd (k + 1)) (a0 : AllF P w K mg base B Pg cd fd k) :
    Facts0 X B (ctxOf Pg (callF Pg (k + 1)) (callF Pg k) c3 c4 he ak) D := by
  subst hP hw hmg hb
  subst hK
  have d1 : ∀ {g}, (Pg.defs[g]?).isSome = true → Binds X.K (fd g) (cd g).ps [] → Does X B (k + 1) (B.fa g) (callF Pg (k + 1) g) := fun {g} h b => ⟨⟨fd g, (cd g).ps, a1 g h, b⟩, Wh.kp h⟩
  have d0 : ∀ {g}, (Pg.defs[g]?).isSome = true → Binds X.K (fd g) (cd g).ps [] → Does X B k (B.fa g) (callF Pg k g) := fun {g} h b => ⟨⟨fd g, (cd g).ps, a0 g h, b⟩, Wh.kp h⟩
  refine ⟨Wh.hK, by have := hr.un; omega, Wh.gls, Wh.bns, fun q h => ?_, fun q h => ?_, fun q h => ?_, fun q h => ?_, fun m h => ?_, fun q h => ?_, Wh.tys, fun q h => ⟨(Wh.rss q h).1, hr.mono (Nat.succ_le_succ (Nat.zero_le k)), (Wh.rss q h).2 _ _ _ _ _ _⟩, Wh.fld, fun c h => Wh.kls X c rfl h, fun c h => Wh.exs X c rfl h, Wh.isa X _ _ _ _ _ _ rfl, Wh.cts⟩
  · obtain ⟨e, i, b⟩ := Wh.fns q h
    exact ⟨e, k + 1, hr, d1 i b⟩
  · obtain ⟨e, i, dv, b, df⟩ := Wh.fks q h
    exact ⟨e, k + 1, hr, ⟨⟨_, _, dv, a1 _ i, b, df⟩, Wh.kp i⟩⟩
  · obtain ⟨e, g, e2, m, i, b⟩ := Wh.mks q h
    exact ⟨e, g, _, k, e2, m, hr, d0 i b⟩
  · obtain ⟨e, g, e2, m, i, dv, b, df⟩ := Wh.mkk q h
    exact ⟨e, g, _, k, e2, m, hr, ⟨⟨_, _, dv, a0 _ i, b, df⟩, Wh.kp i⟩⟩
  · obtain ⟨e, z⟩ := Wh.mts m h
    refine ⟨e, fun c g h1 h2 => ?_⟩
    obtain ⟨m, i, b⟩ := z c g h1 h2
    exact ⟨_, k + 1, m, hr, d1 i b⟩
  · obtain ⟨e, z⟩ := Wh.mtk q h
    refine ⟨e, fun c g h1 h2 => ?_⟩
    obtain ⟨m, i, dv, b, df⟩ := z c g h1 h2
    exact ⟨_, k + 1, m, hr, ⟨⟨_, _, dv, a1 _ i, b, df⟩, Wh.kp i⟩⟩
theorem EnvD.start {ρ : Pl} {n : Nat} {H : Hp} {N : List Str} {ws : List W} {vs : List V} {nl : Nat} (d : DenL B ρ n H ws vs) (hl : N.length = ws.length + nl) : EnvD B ρ n H (ws.map some ++ List.replicate nl none) (L2.start N vs) := by
  have e : N.length - vs.length = nl := by rw [← d.length]; omega
  refine ⟨?_, fun i w q => ?_⟩
  · unfold L2.start
    simp [d.length, e]
  · by_cases c : i < ws.length
    · rw [List.getElem?_append_left (by simpa using c), List.getElem?_map] at q
      cases qi : ws[i]? with
      | none => rw [qi] at q; cases q
      | some w' =>
        rw [qi] at q
        cases q
        obtain ⟨v, hv, dv⟩ := d.get qi
        refine ⟨v, ?_, .inl dv⟩
        unfold L2.start
        rw [List.getElem?_append_left (by simpa [← d.length] using c), List.getElem?_map, hv]
        rfl
    · rw [List.getElem?_append_right (by simpa using c)] at q
      rw [List.getElem?_replicate] at q
      split at q
      · cases q
      · cases q
/-- what can't be never called -/
theorem fnOk_never {f : Addr} {fdd : FuncData} {ps : List Str} {k : Nat} {sp : Sp} (h : ∀ vs H Q E, ¬ sp vs H Q E) : FnOk P w K mg base (L2.CX P w) k f fdd ps sp := ⟨fun vs H Q E q => (h _ _ _ _ q).elim, fun A outer s H args us vs Q E hr e0 hb r q => (h _ _ _ _ q).elim⟩
theorem okC {CX : CXT} {x qual : Str} {params : Arguments} {body : List Stmt} {scope : Scope} {dvs : List V} {kws : List (Str × V)} {f : Addr} {fdd : FuncData} {N ps : List Str} {k : Nat} {sp : Sp} (F : FunD K x qual params body scope dvs kws f fdd) (S : FnScope N ps scope) (len : ∀ vs H Q E, sp vs H Q E → vs.length = ps.length)
    (hbody : ∀ (A : Around) (outer : List PySem.Env) (s : Shared) (H : Hp) (vs : List V) (Q : VK) (E : XK), Room k (A.deeper (PyProof.Rows.envOfC qual scope s.heap.objs.size f fdd.code)) → sp vs H Q E →
      ∃ t, PSs (cxOf CX P w K mg base N qual scope f fdd.code A outer s H E) body t ∧ t { nx := fun _ H' => Q .non H', rt := Q } (L2.start N vs) H) : FnOk P w K mg base CX (k + 1) f fdd ps sp := by
  obtain ⟨oc, od, dV, kV, doc, pm, an, cdv, ct, osl, rfl, lk, hcd, _, _⟩ := F.ex
  exact fn_of lk hcd S len fun A outer s H vs Q E hr hsp => hbody A outer s H vs Q E hr hsp
theorem res_out {ρ : Pl} {n : Nat} {H : Hp} {r : RS} {Q : VK} {E : XK} (h : Res B (DW B) ρ n H (outR r) Q E) : ResS B ρ n H r { nx := fun _ H' => Q .non H', rt := Q } fun _ => E := by
  match r, h with
  | .ok (.nx e1) s1, h => exact fun ρ' H' σ x r' ed => h ρ' H' .non x r' .non
  | .ok (.rt w1) s1, h => exact h
  | .ok (.bk e1) s1, h => exact h.elim
  | .ok (.ct e1) s1, h => exact h.elim
  | .exc c fs e1 s1, h => exact fun ρ' H' σ dd vfs x r' ed z1 z2 => h ρ' H' dd vfs x r' z1 z2
  | .fail, h => exact h.elim
theorem sc_of {CX : CXT} {N ps : List Str} {qual : Str} {scope : Scope} {f : Addr} {cdv : Value} {A : Around} {outer : List PySem.Env} {s : Shared} {H : Hp} {E : XK} (S : FnScope N ps scope) : Sc (cxOf CX P w K mg base N qual scope f cdv A outer s H E) N scope scope := ⟨rfl, S.nd, rfl, fun x hx => by
  unfold isLoc at hx
  rw [Bool.or_eq_true, beq_iff_eq, beq_iff_eq] at hx
  exact ⟨hx, .inl rfl⟩⟩
/-- the facts in a body at depth k + 4 -/
theorem Whole.factsK (Wh : Whole P w K mg B Pg D lf cd fd) (lt : LamT mg base B lf cd fd) {CX : CXT} {k g : Nat} {A : Around} {outer : List PySem.Env} {s : Shared} {H : Hp} {E : XK} {ak : S → R W} (hr : Room (k + 3) (A.deeper (PyProof.Rows.envOfC (cd g).qual (cd g).scope s.heap.objs.size (B.fa g) (fd g).code)))
    (a0 : AllF P w K mg base B Pg cd fd k) (a1 : AllF P w K mg base B Pg cd fd (k + 1)) (a2 : AllF P w K mg base B Pg cd fd (k + 2)) (a3 : AllF P w K mg base B Pg cd fd (k + 3)) (ah : lf g = true → AllH P w K mg base B Pg D (k + 1)) :
    Facts (cxOf CX P w K mg base (cd g).N (cd g).qual (cd g).scope (B.fa g) (fd g).code A outer s H E) B (ctxK Pg k ak) (D.on (lf g)) := by
  have F0 : Facts0 (cxOf CX P w K mg base (cd g).N (cd g).qual (cd g).scope (B.fa g) (fd g).code A outer s H E) B (ctxK Pg k ak) D := Wh.facts (k := k + 2) rfl rfl rfl rfl rfl hr a3 a2
  refine ⟨⟨F0.hK, F0.hu, F0.gls, F0.bns, F0.fns, F0.fks, F0.mks, F0.mkk, F0.mts, F0.mtk, F0.tys, F0.rss, F0.fld, F0.kls, F0.exs, F0.isa, F0.cts⟩, fun hl => ?_⟩
  replace hl : lf g = true := hl
  obtain ⟨c, T, e1, e2, e3, e4⟩ := lt g hl
  refine ⟨⟨c, T, e1, e2, e3, e4⟩, k + 1, hr, fun q hq => ?_, fun X' h1 h2 h3 h4 h5 hr' => ?_⟩
  · obtain ⟨m1, m2, _⟩ := Wh.hrs q hq
    exact ⟨m1, Wh.kp m2, ah hl q hq _ rfl rfl rfl rfl rfl⟩
  · have G : Facts0 X' B (ctxK Pg k ak).lower D := Wh.facts (k := k) h1 h2 h3 h4 h5 hr' a1 a0
    exact ⟨G.hK, G.hu, G.gls, G.bns, G.fns, G.fks, G.mks, G.mkk, G.mts, G.mtk, G.tys, G.rss, G.fld, G.kls, G.exs, G.isa, G.cts⟩
theorem stepF (Wh : Whole P w K mg B Pg D lf cd fd) (lt : LamT mg base B lf cd fd) {CX : CXT} {k g : Nat} (h : (Pg.defs[g]?).isSome = true)
    (a0 : AllF P w K mg base B Pg cd fd k) (a1 : AllF P w K mg base B Pg cd fd (k + 1)) (a2 : AllF P w K mg base B Pg cd fd (k + 2)) (a3 : AllF P w K mg base B Pg cd fd (k + 3)) (ah : AllH P w K mg base B Pg D (k + 1))
    (EE : XK → XK) (tkO : ∀ {N : List Str} {qual : Str} {scope : Scope} {f : Addr} {cdv : Value} {A : Around} {outer : List PySem.Env} {s : Shared} {H : Hp} {E : XK}, Takes (cxOf CX P w K mg base N qual scope f cdv A outer s H E) (WZ fun _ => EE E)) :
    FnOk P w K mg base CX (k + 4) (B.fa g) (fd g) (cd g).ps (fun vs H Q E => spF B (callF Pg (k + 4) g) vs H Q (EE E)) := by
  obtain ⟨d, hd⟩ := Option.isSome_iff_exists.mp h
  obtain ⟨⟨dvs, kws, F⟩, S, l1, l2, hck⟩ := Wh.df g d hd
  have els : ∀ {ws s ρ H Q E}, Res B (DW B) ρ s.size H (callF Pg (k + 4) g ws s) Q E → ws.length = d.np ∧ Res B (DW B) ρ s.size H (outR (evB (ctxK Pg k fun _ => .fail) d.body (ws.map some ++ List.replicate d.nl none) s)) Q E := fun {ws s ρ H Q E} q => by
    rw [callF_eq hd] at q
    exact ite_res q
  refine okC F S (fun vs H Q E ⟨ρ, s, ws, r, dn, q⟩ => ?_) (fun A outer s0 H vs Q E hr ⟨ρ, s, ws, r, dn, q⟩ => ?_)
  · rw [← dn.length, (els q).1, l1]
  · obtain ⟨q1, q2⟩ := els q
    exact ⟨rdB B (fun _ => EE E) (evB (ctxK Pg k fun _ => .fail) d.body), (ss d.body (Z := fun _ => EE E) (Wh.factsK lt hr a0 a1 a2 a3 fun _ => ah) (sc_of S) rfl (passes_of rfl) tkO ⟨rfl, rfl, rfl⟩ (.none rfl)).2 _ hck, ρ, s, _, r, EnvD.start dn (by rw [l2, q1]), res_out q2⟩
theorem stepH (WhA : ∀ l, Whole P w K mg (B.at l) Pg D lf cd fd) (lt : LamT mg base B lf cd fd) {k : Nat}
    (a0 : AllF P w K mg base B Pg cd fd k) (a1 : AllF P w K mg base B Pg cd fd (k + 1)) (a2 : AllF P w K mg base B Pg cd fd (k + 2)) (a3 : AllF P w K mg base B Pg cd fd (k + 3)) : AllH P w K mg base B Pg D (k + 2) := by
  rintro ⟨nm, g⟩ hq X rfl rfl rfl rfl rfl
  obtain ⟨m1, m2, bd, hlf, a, ea, x1, x2⟩ := (WhA none).hrs _ hq
  obtain ⟨d, hd⟩ := Option.isSome_iff_exists.mp m2
  obtain ⟨⟨dvs, kws, F⟩, S, l1, l2, hck⟩ := (WhA none).df g d hd
  dsimp only at ea bd hlf
  rw [ea] at S bd l1
  have n0 : (cd g).N[0]? = some a := by
    have z := S.pre
    cases e : (cd g).N with
    | nil => rw [e] at z; cases z
    | cons b r => rw [e] at z; cases z; rfl
  have va : Vis (cd g).scope a := (S.par a (by simp)).elim .inl fun z => .inr (.inl z)
  refine ⟨fd g, a, (cd g).N, (cd g).qual, (cd g).scope, (fd g).code, bd, n0, va, x1, x2, ?_⟩
  intro A outer s H Q E L th hr e0 hb ask ⟨ρ, st, r, ld, q⟩
  rw [hearF_eq hd] at q
  have q' : Res B (DW B) ρ st.size H (if d.np = 1 then outR (evB (ctxK Pg k th) d.body (some .lam :: List.replicate d.nl none) st) else .fail) Q E := q
  rw [if_pos (by rw [l1]; rfl)] at q'
  obtain ⟨oc, od, dV, kV, doc, pm, an, cdv, ct, osl, ef, lk, hcd, _, _⟩ := F.ex
  rw [ef] at lk hb
  have ec : (fd g).code = cdv := by rw [ef]
  rw [ec] at ask
  refine LamX.run_ofS (N := (cd g).N) (ps := [a]) (us := [.ref L.f]) (vs := [.ref L.f]) lk hcd S hr e0 hb (.cons rfl .nil) rfl fun hr' => ?_
  have W' := WhA (some L)
  have Fc : Facts (cxOf (L2.CX X.prog X.w) X.prog X.w X.K X.mg X.base (cd g).N (cd g).qual (cd g).scope (B.fa g) cdv A outer s H E) (B.at (some L)) (ctxK Pg k th) (D.on (lf g)) := by
    have z := W'.factsK (CX := L2.CX X.prog X.w) (outer := outer) (H := H) (E := E) (ak := th) (fun g hg => lt g hg) (g := g) (A := A) (s := s) (by rw [ec]; exact hr') (a0.re _) (a1.re _) (a2.re _) (a3.re _) (fun z => by rw [hlf] at z; cases z)
    rw [ec] at z
    exact z
  have ao : AskOk (cxOf (L2.CX X.prog X.w) X.prog X.w X.K X.mg X.base (cd g).N (cd g).qual (cd g).scope (B.fa g) cdv A outer s H E) (B.at (some L)) (ctxK Pg k th) := fun b h1 h2 h3 h4 pn xe Z tk p1 p2 => by
    obtain rfl : a = b := Option.some.inj (n0.symm.trans h1)
    exact ask pn xe Z tk hr' p1 p2
  have tko : Takes (cxOf (L2.CX X.prog X.w) X.prog X.w X.K X.mg X.base (cd g).N (cd g).qual (cd g).scope (B.fa g) cdv A outer s H E) (WZ fun _ => E) := takes_of rfl rfl rfl rfl
  have en : (cd g).N.length = 1 + d.nl := by rw [l2, l1]; rfl
  refine ⟨rdB (B.at (some L)) (fun _ => E) (evB (ctxK Pg k th) d.body), (ss d.body (Z := fun _ => E) Fc (sc_of S) rfl (passes_of rfl) tko ⟨rfl, rfl, rfl⟩ ao).2 _ hck, ρ, st, some .lam :: List.replicate d.nl none, r.re _, ⟨?_, fun i w e => ?_⟩, res_out (q'.re _)⟩
  · unfold L2.start
    simp [en]
  · cases i with
    | zero =>
      cases e
      exact ⟨.ref L.f, by unfold L2.start; simp, .inr ⟨rfl, ld⟩⟩
    | succ i =>
      rw [List.getElem?_cons_succ, List.getElem?_replicate] at e
      split at e <;> cases e
theorem hearNever {k : Nat} (WhA : ∀ l, Whole P w K mg (B.at l) Pg D lf cd fd) (h : ∀ g th s, hearF Pg (k + 2) g th s = .fail) : AllH P w K mg base B Pg D k := by
  rintro ⟨nm, g⟩ hq X rfl rfl rfl rfl rfl
  obtain ⟨m1, m2, bd, hlf, a, ea, x1, x2⟩ := (WhA none).hrs _ hq
  obtain ⟨d, hd⟩ := Option.isSome_iff_exists.mp m2
  obtain ⟨⟨dvs, kws, F⟩, S, l1, l2, hck⟩ := (WhA none).df g d hd
  dsimp only at ea bd
  rw [ea] at S bd
  refine ⟨fd g, a, (cd g).N, (cd g).qual, (cd g).scope, (fd g).code, bd, ?_, (S.par a (by simp)).elim .inl fun z => .inr (.inl z), x1, x2, ?_⟩
  · have z := S.pre
    cases e : (cd g).N with
    | nil => rw [e] at z; cases z
    | cons b r => rw [e] at z; cases z; rfl
  · intro A outer s H Q E L th hr e0 hb ask ⟨ρ, st, r, ld, q⟩
    rw [h] at q
    exact (show False from q).elim
theorem allOk (WhA : ∀ l, Whole P w K mg (B.at l) Pg D lf cd fd) (lt : LamT mg base B lf cd fd) : ∀ k, AllF P w K mg base B Pg cd fd k ∧ AllF P w K mg base B Pg cd fd (k + 1) ∧ AllF P w K mg base B Pg cd fd (k + 2) ∧ AllF P w K mg base B Pg cd fd (k + 3) ∧ AllH P w K mg base B Pg D (k + 1)
  | 0 => ⟨fun g h => fnOk_never fun vs H Q E ⟨ρ, s, ws, r, d, q⟩ => q.elim, fun g h => fnOk_never fun vs H Q E ⟨ρ, s, ws, r, d, q⟩ => q.elim, fun g h => fnOk_never fun vs H Q E ⟨ρ, s, ws, r, d, q⟩ => q.elim, fun g h => fnOk_never fun vs H Q E ⟨ρ, s, ws, r, d, q⟩ => q.elim, hearNever WhA fun _ _ _ => rfl⟩
  | k + 1 => by
    obtain ⟨a0, a1, a2, a3, ah⟩ := allOk WhA lt k
    refine ⟨a1, a2, a3, fun g h => stepF (WhA B.lm) lt h a0 a1 a2 a3 ah (fun E => E) (takes_of rfl rfl rfl rfl), stepH WhA lt a0 a1 a2 a3⟩
end
end Ev

set_option Elab.async false
set_option linter.all false
set_option autoImplicit false
set_option maxRecDepth 100000
namespace Ev
open PySem PySem.Spec L2

/-! ### a program, told -/
structure Desc where
  dd : List He.DefD
  df : List Df
  N : List (List Str)
  ps : List (List Str)
  cn : List Str
  mkO : List (Option Nat)
  mt : List (Nat × Str × Nat)
  exO : List (Option (List Nat))
  subL : List (Nat × Nat × Bool)
  insL : List (Nat × Nat × Bool)
  ownL : List Nat
  tab : Tab
  wf : Nat
  pl : List Nat
  kl : List (Nat × Nat × Sig)
  xi : List (Nat × He.DefD × Str × List (Str × Str)) := []
theorem at3_mem {l : List (Nat × Nat × Bool)} {a b : Nat} {r : Bool} (h : at3 l a b = some r) : (a, b, r) ∈ l := by
  unfold at3 at h
  cases q : l.find? fun q => q.1 == a && q.2.1 == b with
  | none => rw [q] at h; cases h
  | some z =>
    rw [q] at h
    cases Option.some.inj h
    have h1 := List.find?_some q
    rw [Bool.and_eq_true, beq_iff_eq, beq_iff_eq] at h1
    have h2 := List.mem_of_find?_eq_some q
    obtain ⟨z1, z2, z3⟩ := z
    obtain ⟨rfl, rfl⟩ := h1
    exact h2
theorem atM_mem {l : List (Nat × Str × Nat)} {c : Nat} {m : Str} {g : Nat} (h : atM l c m = some g) : (c, m, g) ∈ l := by
  unfold atM at h
  cases q : l.find? fun q => q.1 == c && decide (q.2.1 = m) with
  | none => rw [q] at h; cases h
  | some z =>
    rw [q] at h
    cases Option.some.inj h
    have h1 := List.find?_some q
    rw [Bool.and_eq_true, beq_iff_eq, decide_eq_true_eq] at h1
    have h2 := List.mem_of_find?_eq_some q
    obtain ⟨z1, z2, z3⟩ := z
    obtain ⟨rfl, rfl⟩ := h1
    exact h2
def Desc.prog (d : Desc) : Prog where
  defs := d.df
  meth := atM d.mt
  makes := optAt d.mkO
  excf := optAt d.exO
  sub := at3 d.subL
  insub := at3 d.insL
  own := fun c => d.ownL.contains c
  wf := d.wf
def Desc.fa (d : Desc) (K : PySem.W.Frag) (g : Nat) : Addr := match d.dd[g]? with
  | some q => He.fAd K q.at_
  | none => 0
def Desc.ca (d : Desc) (K : PySem.W.Frag) (c : Nat) : Addr := match d.cn[c]? with
  | some x => He.ga K x
  | none => 0
/-- in which defs lambdas are made -/
def Desc.lf (d : Desc) (g : Nat) : Bool := match d.df[g]? with
  | some f => f.lam
  | none => false
def Desc.lm (d : Desc) : List Nat := (List.range d.df.length).filter d.lf
def isInt : Value → Bool
  | .int _ _ => true
  | _ => false
def isStr : Value → Bool
  | .str _ _ => true
  | _ => false
def isBool : Value → Bool
  | .bool _ => true
  | _ => false
/-- the code object of a def, and its table -/
def tabOf (d : Desc) (K : PySem.W.Frag) (g : Nat) : Option (Addr × Addr) := match K.lookup (d.fa K g) with
  | some ⟨_, _, .func fd, _⟩ => (match fd.code with
    | .ref c => (match K.lookup c with
      | some ⟨.type cn, _, .fields vs, _⟩ => (match (vs[11]? : Option Value) with
        | some (.ref P) => if decide (cn = "code") && isStr (vs.getD 18 .none) && isInt (vs.getD 7 .none) && isBool (vs.getD 9 .none) && isInt (vs.getD 10 .none) && !decide (c = P) && (K.lookup P).isNone then some (c, P) else none
        | _ => none)
      | _ => none)
    | _ => none)
  | _ => none
def Desc.lq (d : Desc) (g : Nat) : Str := match d.dd[g]? with
  | some q => q.qual ++ ".<locals>." ++ "<lambda>"
  | none => ""
def Desc.T (d : Desc) (K : PySem.W.Frag) : List (Addr × Str) := d.lm.filterMap fun g => (tabOf d K g).map fun p => (p.2, d.lq g)
def Desc.cs (d : Desc) (K : PySem.W.Frag) : List (Addr × Addr) := d.lm.filterMap fun g => tabOf d K g
def emptyTab (o : Obj) : Bool := match o with
  | ⟨.none, none, .fields vs, sl⟩ => vs.size == 0 && sl.size == 0
  | _ => false
/-- each such def has its own table, empty -/
def Desc.tabsL (d : Desc) (K : PySem.W.Frag) (gf : Addr → Option Obj) : Bool := d.lm.all fun g => match tabOf d K g with
  | some p => (match gf p.2 with
    | some o => emptyTab o
    | none => false) && d.lm.all fun g' => g == g' || (match tabOf d K g' with
      | some p' => !decide (p'.2 = p.2)
      | none => true)
  | none => false
def Desc.tb (d : Desc) (K : PySem.W.Frag) (l : Option Lm := none) : Tb := ⟨K, d.fa K, d.ca K, d.tab.fld, d.T K, l⟩
/-! ### values of the module -/
mutual
def denB (B : Tb) : W → Value → Bool
  | .non, .none => true
  | .bl b, .bool c => b == c
  | .int i, .int j _ => decide (i = j)
  | .str x, .str y _ => decide (x = y)
  | .fn g, .ref a => decide (a = B.fa g)
  | .cls c, .ref a => decide (a = B.ca c)
  | .tup ws, .ref a => (match B.K.lookup a with
    | some ⟨.type c, _, .seq its _, _⟩ => decide (c = "tuple") && decide (its.size ≤ sizeLine) && denBL B ws its.toList
    | _ => false)
  | .frl ws, .ref a => (match B.K.lookup a with
    | some ⟨.type c, none, .seq its _, _⟩ => decide (c = "list") && decide (its.size ≤ sizeLine) && denBL B ws its.toList
    | _ => false)
  | _, _ => false
def denBL (B : Tb) : List W → List Value → Bool
  | [], [] => true
  | w :: ws, u :: us => denB B w u && denBL B ws us
  | _, _ => false
end
theorem lk_seq {K : PySem.W.Frag} {a : Addr} {P : String → Option Addr → Array Value → Bool} (h : (match K.lookup a with
    | some ⟨.type c, od, .seq its _, _⟩ => P c od its
    | _ => false) = true) : ∃ c od its n sl, K.lookup a = some ⟨.type c, od, .seq its n, sl⟩ ∧ P c od its = true := by
  split at h
  · rename_i c od its n sl q
    exact ⟨c, od, its, n, sl, q, h⟩
  · cases h
mutual
theorem denB_ok {B : Tb} : ∀ {w : W} {u : Value}, denB B w u = true → ∃ v, RelV v u ∧ ∀ (ρ : Pl) (n : Nat) (H : Hp), Den B ρ n H w v
  | .non, u, h => by cases u <;> first | exact ff h | exact ⟨.non, rfl, fun _ _ _ => .non⟩
  | .bl b, u, h => by
    cases u <;> first | exact ff h | skip
    obtain rfl := beq_iff_eq.mp (show (b == _) = true from h)
    exact ⟨.bl b, rfl, fun _ _ _ => .bl⟩
  | .int i, u, h => by
    cases u <;> first | exact ff h | skip
    obtain rfl := of_decide_eq_true (show decide (i = _) = true from h)
    exact ⟨.int i, ⟨_, rfl⟩, fun _ _ _ => .int⟩
  | .str i, u, h => by
    cases u <;> first | exact ff h | skip
    obtain rfl := of_decide_eq_true (show decide (i = _) = true from h)
    exact ⟨.str i, ⟨_, rfl⟩, fun _ _ _ => .str⟩
  | .fn g, u, h => by
    cases u <;> first | exact ff h | skip
    rename_i a
    obtain rfl := of_decide_eq_true (show decide (a = B.fa g) = true from h)
    exact ⟨.ref (B.fa g), rfl, fun _ _ _ => .fn⟩
  | .cls g, u, h => by
    cases u <;> first | exact ff h | skip
    rename_i a
    obtain rfl := of_decide_eq_true (show decide (a = B.ca g) = true from h)
    exact ⟨.ref (B.ca g), rfl, fun _ _ _ => .cls⟩
  | .tup ws, u, h => by
    cases u <;> first | exact ff h | skip
    rename_i a
    have h' : (match B.K.lookup a with
      | some ⟨.type c, _, .seq its _, _⟩ => decide (c = "tuple") && decide (its.size ≤ sizeLine) && denBL B ws its.toList
      | _ => false) = true := h
    split at h'
    · rename_i c od its n sl q
      rw [Bool.and_eq_true, Bool.and_eq_true, decide_eq_true_eq, decide_eq_true_eq] at h'
      obtain ⟨⟨rfl, h2⟩, h3⟩ := h'
      obtain ⟨vs, rv, dv⟩ := denBL_ok h3
      exact ⟨.ref a, rfl, fun ρ n' H => .tup (.inr ⟨_, its, n, q, rfl, rfl, h2, rv⟩) (dv ρ n' H)⟩
    · cases h'
  | .frl ws, u, h => by
    cases u <;> first | exact ff h | skip
    rename_i a
    have h' : (match B.K.lookup a with
      | some ⟨.type c, none, .seq its _, _⟩ => decide (c = "list") && decide (its.size ≤ sizeLine) && denBL B ws its.toList
      | _ => false) = true := h
    split at h'
    · rename_i c its n sl q
      rw [Bool.and_eq_true, Bool.and_eq_true, decide_eq_true_eq, decide_eq_true_eq] at h'
      obtain ⟨⟨rfl, h2⟩, h3⟩ := h'
      obtain ⟨vs, rv, dv⟩ := denBL_ok h3
      exact ⟨.ref a, rfl, fun ρ n' H => .frl (.inr ⟨_, its, n, q, rfl, rfl, rfl, h2, rv⟩) (dv ρ n' H)⟩
    · cases h'
  | .lst _, u, h => by cases u <;> exact ff h
  | .ref _, u, h => by cases u <;> exact ff h
  | .ty _, u, h => by cases u <;> exact ff h
  | .exn _ _, u, h => by cases u <;> exact ff h
  | .lam, u, h => by cases u <;> exact ff h
  | .dct, u, h => by cases u <;> exact ff h
theorem denBL_ok {B : Tb} : ∀ {ws : List W} {us : List Value}, denBL B ws us = true → ∃ vs, Vals vs us ∧ ∀ (ρ : Pl) (n : Nat) (H : Hp), DenL B ρ n H ws vs
  | [], [], _ => ⟨[], .nil, fun _ _ _ => .nil⟩
  | [], _ :: _, h => ff h
  | _ :: _, [], h => ff h
  | w :: ws, u :: us, h => by
    have h' : (denB B w u && denBL B ws us) = true := h
    rw [Bool.and_eq_true] at h'
    obtain ⟨v, r, d⟩ := denB_ok h'.1
    obtain ⟨vs, rs, ds⟩ := denBL_ok h'.2
    exact ⟨v :: vs, .cons r rs, fun ρ n H => .cons (d ρ n H) (ds ρ n H)⟩
end
/-! ### what K must say -/
def gloB (K : PySem.W.Frag) (x : Str) (a : Addr) : Bool := He.eqO (PySem.W.nsIn K mainGlobals x) (some (some (.ref a)))
def mkB (d : Desc) (K : PySem.W.Frag) (c : Nat) : Bool := match d.prog.makes c with
  | some g => decide (g < d.df.length) && PySem.W.makesIn K (d.ca K c) && He.eqO (PySem.W.findIn K (.ref (d.ca K c)) "__init__") (some (some (.ref (d.fa K g)))) && PySem.W.isFn K (.ref (d.fa K g)) && PySem.W.keepIn K (.ref (d.ca K c))
  | none => false
def mtB (d : Desc) (K : PySem.W.Frag) (m : Str) : Bool := !decide (m ∈ d.tab.fld) && d.mt.all fun q => !decide (q.2.1 = m) || !(d.prog.makes q.1).isSome || (decide (q.2.2 < d.df.length) && He.eqO (PySem.W.findIn K (.ref (d.ca K q.1)) m) (some (some (.ref (d.fa K q.2.2)))) && PySem.W.isFn K (.ref (d.fa K q.2.2)) && PySem.W.keepIn K (.ref (d.fa K q.2.2)))
def clsB (d : Desc) (K : PySem.W.Frag) (c : Nat) : Bool := PySem.W.plainGet K (d.ca K c) Str.empty && PySem.W.hasDictIn K (d.ca K c) && PySem.W.plainOver K (d.ca K c) && He.eqO (PySem.W.findIn K (.ref (d.ca K c)) "__setattr__") (some (some (.builtin "object.__setattr__"))) && d.tab.fld.all fun f => He.eqO (PySem.W.findIn K (.ref (d.ca K c)) f) (some none)
def ovB (d : Desc) (K : PySem.W.Frag) (c : Nat) : Bool := He.eqO (PySem.W.findIn K (.ref (d.ca K c)) "__class__") (some (some (.builtin "object.__class__"))) && decide (PySem.W.mroIn K (d.ca K c) (.type "object") = some true)
def exB (d : Desc) (K : PySem.W.Frag) (c : Nat) : Bool := xfB K (d.ca K c) && (d.tab.fld.all fun f => He.eqO (PySem.W.findIn K (.ref (d.ca K c)) f) (some none)) && ovB d K c && (PySem.W.clsIn K (d.ca K c)).isSome
def kitB1 (K : PySem.W.Frag) (a b : Value) (r : Bool) : Bool := decide (PySem.W.kitOne K a b = some r)
/-- a value that stands for one -/
def vval : V → Value
  | .non => .none
  | .bl b => .bool b
  | .int i => .int i 0
  | .str x => .str x 0
  | .ref a => .ref a
  | _ => .none
def dvPlain : He.Dv → Bool
  | .byt _ => false
  | .flt _ => false
  | .ty _ => false
  | _ => true
def dflAll (B : Tb) (K : PySem.W.Frag) : List W → List He.Dv → Bool
  | [], [] => true
  | w :: ws, v :: vs => dvPlain v && denB B w (vval (v.v K)) && dflAll B K ws vs
  | _, _ => false
def dflOk (d : Desc) (K : PySem.W.Frag) (q : Nat × Nat × Sig) : Bool := match d.dd[q.1]? with
  | some f => dflAll (d.tb K) K q.2.2.ds f.dfl
  | none => false
def Desc.chk (d : Desc) (K : PySem.W.Frag) : Bool :=
  (d.tab.gls.all fun q => match PySem.W.nsIn K mainGlobals q.1 with
    | some (some u) => denB (d.tb K) q.2 u
    | _ => false) &&
  (d.tab.bns.all fun x => He.eqO (PySem.W.nsIn K mainGlobals x) (some none)) &&
  (d.tab.fns.all fun q => decide (q.2 < d.df.length) && gloB K q.1 (d.fa K q.2)) &&
  (d.tab.fks.all fun q => decide (q.2.1 < d.df.length) && gloB K q.1 (d.fa K q.2.1)) &&
  (d.tab.mks.all fun q => gloB K q.1 (d.ca K q.2) && mkB d K q.2) &&
  (d.tab.mkk.all fun q => gloB K q.1 (d.ca K q.2.1) && mkB d K q.2.1) &&
  (d.tab.mts.all fun m => mtB d K m) &&
  (d.tab.mtk.all fun q => mtB d K q.1) &&
  (d.tab.tys.all fun q => gloB K q.1 (d.ca K q.2)) &&
  ((List.range d.mkO.length).all fun c => !(d.prog.makes c).isSome || (clsB d K c && ovB d K c && bTys.all fun n => kitB1 K (.ref (d.ca K c)) (.type n) false)) &&
  ((List.range d.exO.length).all fun c => !(d.prog.excf c).isSome || exB d K c) &&
  (d.ownL.all fun c => bAll.all fun a => kitB1 K (.type a) (.ref (d.ca K c)) false) &&
  (d.insL.all fun q => kitB1 K (.ref (d.ca K q.1)) (.ref (d.ca K q.2.1)) q.2.2) &&
  (d.subL.all fun q => kitB1 K (.ref (d.ca K q.1)) (.ref (d.ca K q.2.1)) q.2.2) &&
  He.eqO (PySem.W.specialIn K (.builtin "object.__class__") "__get__") (some (some (.builtin "getset_descriptor.__get__"))) &&
  decide (PySem.W.takesIn K (.builtin "object.__class__") = some true) &&
  (d.kl.all fun q => dflOk d K q) &&
  (d.subL.all fun q => !(d.tab.cts.contains q.2.1) || decide (PySem.W.exmOne K (.ref (d.ca K q.1)) (.ref (d.ca K q.2.1)) = some q.2.2)) &&
  (d.tab.hrs.all fun q => decide (q.2 < d.df.length) && gloB K q.1 (d.fa K q.2))
theorem all_of {α : Type} {l : List α} {f : α → Bool} (h : l.all f = true) {a : α} (m : a ∈ l) : f a = true := List.all_eq_true.mp h a m
theorem optAt_lt {α : Type} {l : List (Option α)} {c : Nat} (h : (optAt l c).isSome = true) : c ∈ List.range l.length := by
  unfold optAt at h
  split at h
  · rename_i o q
    exact List.mem_range.mpr (List.getElem?_eq_some_iff.mp q).1
  · cases h
/-- the checks that ask of the heap -/
structure Says (d : Desc) (K : PySem.W.Frag) : Prop where
  gls : ∀ q ∈ d.tab.gls, ∃ u, PySem.W.nsIn K mainGlobals q.1 = some (some u) ∧ denB (d.tb K) q.2 u = true
  bns : ∀ x ∈ d.tab.bns, PySem.W.nsIn K mainGlobals x = some none
  fns : ∀ q ∈ d.tab.fns, q.2 < d.df.length ∧ PySem.W.nsIn K mainGlobals q.1 = some (some (.ref (d.fa K q.2)))
  fks : ∀ q ∈ d.tab.fks, q.2.1 < d.df.length ∧ PySem.W.nsIn K mainGlobals q.1 = some (some (.ref (d.fa K q.2.1)))
  mks : ∀ q ∈ d.tab.mks, PySem.W.nsIn K mainGlobals q.1 = some (some (.ref (d.ca K q.2))) ∧ mkB d K q.2 = true
  mkk : ∀ q ∈ d.tab.mkk, PySem.W.nsIn K mainGlobals q.1 = some (some (.ref (d.ca K q.2.1))) ∧ mkB d K q.2.1 = true
  mts : ∀ m ∈ d.tab.mts, mtB d K m = true
  mtk : ∀ q ∈ d.tab.mtk, mtB d K q.1 = true
  tys : ∀ q ∈ d.tab.tys, PySem.W.nsIn K mainGlobals q.1 = some (some (.ref (d.ca K q.2)))
  kls : ∀ c, (d.prog.makes c).isSome = true → clsB d K c = true ∧ ovB d K c = true ∧ ∀ n ∈ bTys, PySem.W.kitOne K (.ref (d.ca K c)) (.type n) = some false
  exs : ∀ c, (d.prog.excf c).isSome = true → exB d K c = true
  own : ∀ c ∈ d.ownL, ∀ a ∈ bAll, PySem.W.kitOne K (.type a) (.ref (d.ca K c)) = some false
  ins : ∀ q ∈ d.insL, PySem.W.kitOne K (.ref (d.ca K q.1)) (.ref (d.ca K q.2.1)) = some q.2.2
  sub : ∀ q ∈ d.subL, PySem.W.kitOne K (.ref (d.ca K q.1)) (.ref (d.ca K q.2.1)) = some q.2.2
  hn : PySem.W.specialIn K (.builtin "object.__class__") "__get__" = some (some (.builtin "getset_descriptor.__get__"))
  ht : PySem.W.takesIn K (.builtin "object.__class__") = some true
  dk : ∀ q ∈ d.kl, dflOk d K q = true
  ct : ∀ q ∈ d.subL, q.2.1 ∈ d.tab.cts → PySem.W.exmOne K (.ref (d.ca K q.1)) (.ref (d.ca K q.2.1)) = some q.2.2
  hr : ∀ q ∈ d.tab.hrs, q.2 < d.df.length ∧ PySem.W.nsIn K mainGlobals q.1 = some (some (.ref (d.fa K q.2)))
theorem Desc.says {d : Desc} {K : PySem.W.Frag} (h : d.chk K = true) : Says d K := by
  unfold Desc.chk at h
  simp only [Bool.and_eq_true] at h
  obtain ⟨⟨⟨⟨⟨⟨⟨⟨⟨⟨⟨⟨⟨⟨⟨⟨⟨⟨h1, h2⟩, h3⟩, h4⟩, h5⟩, h6⟩, h7⟩, h8⟩, h9⟩, h10⟩, h11⟩, h12⟩, h13⟩, h14⟩, h15⟩, h16⟩, h17⟩, h18⟩, h19⟩ := h
  refine ⟨fun q m => ?_, fun q m => He.eqO_ok (all_of h2 m), fun q m => ?_, fun q m => ?_, fun q m => ?_, fun q m => ?_, fun q m => all_of h7 m, fun q m => all_of h8 m, fun q m => He.eqO_ok (all_of h9 m), fun c hc => ?_, fun c hc => ?_, fun c m a ha => of_decide_eq_true (all_of (all_of h12 m) ha), fun q m => of_decide_eq_true (all_of h13 m), fun q m => of_decide_eq_true (all_of h14 m), He.eqO_ok h15, of_decide_eq_true h16, fun q m => all_of h17 m, fun q m mc => ?_, fun q m => ?_⟩
  · have z := all_of h1 m
    split at z
    · rename_i u e
      exact ⟨u, e, z⟩
    · cases z
  · have z := all_of h3 m
    rw [Bool.and_eq_true, decide_eq_true_eq] at z
    exact ⟨z.1, He.eqO_ok z.2⟩
  · have z := all_of h4 m
    rw [Bool.and_eq_true, decide_eq_true_eq] at z
    exact ⟨z.1, He.eqO_ok z.2⟩
  · have z := all_of h5 m
    rw [Bool.and_eq_true] at z
    exact ⟨He.eqO_ok z.1, z.2⟩
  · have z := all_of h6 m
    rw [Bool.and_eq_true] at z
    exact ⟨He.eqO_ok z.1, z.2⟩
  · have z := all_of h10 (optAt_lt hc)
    rw [hc] at z
    simp only [Bool.not_true, Bool.false_or, Bool.and_eq_true] at z
    exact ⟨z.1.1, z.1.2, fun n hn => of_decide_eq_true (all_of z.2 hn)⟩
  · have z := all_of h11 (optAt_lt hc)
    rw [hc] at z
    simpa using z
  · have z := all_of h18 m
    rw [List.contains_iff_mem.mpr mc] at z
    simpa using z
  · have z := all_of h19 m
    rw [Bool.and_eq_true, decide_eq_true_eq] at z
    exact ⟨z.1, He.eqO_ok z.2⟩
end Ev

set_option Elab.async false
set_option linter.all false
set_option autoImplicit false
set_option maxRecDepth 100000
namespace Ev
open PySem PySem.Spec L2

/-! ### exceptions that are raised -/
def oexB (K : PySem.W.Frag) (C : Addr) : Bool := (match K.lookup C with
  | some ⟨.type t, _, .cls cd, sl⟩ => decide (t = "type") && (match cd.mro with
    | .ref C' :: bm => decide (C' = C) && HandSPX.refsVE bm
    | _ => false) && cd.hasDict && !cd.hasDel && (match sl.toList with
    | [_, _, _, _, some (.builtin n), _] => decide (n = "ValueError.__new__")
    | _ => false)
  | _ => false) && He.eqO (PySem.W.findIn K (.ref C) "__setattr__") (some (some (.builtin "object.__setattr__"))) && decide (PySem.W.subIn K (.ref C) (.type "BaseException") = some true) && decide (PySem.W.typeIn K (.ref C) = some (.type "type")) && PySem.W.keepIn K (.ref C)
theorem oexB_ok {K : PySem.W.Frag} {C : Addr} (h : oexB K C = true) : OexC K C := by
  unfold oexB at h
  simp only [Bool.and_eq_true, decide_eq_true_eq] at h
  obtain ⟨⟨⟨⟨h1, h2⟩, h3⟩, h4⟩, h5⟩ := h
  refine ⟨?_, He.eqO_ok h2, h3, h4, h5⟩
  split at h1
  · rename_i t dd cd sl q
    simp only [Bool.and_eq_true, decide_eq_true_eq, Bool.not_eq_true'] at h1
    obtain ⟨⟨⟨⟨rfl, m⟩, hd⟩, hl⟩, hs⟩ := h1
    obtain ⟨nm, bs, mro, ns, qn, hdd, sn, sub, ab, col, del⟩ := cd
    dsimp only at m hd hl
    subst hd hl
    split at m
    · rename_i C' bm
      rw [Bool.and_eq_true, decide_eq_true_eq] at m
      obtain ⟨rfl, m⟩ := m
      split at hs
      · rename_i k0 k1 k2 k3 n k5 e
        obtain rfl := of_decide_eq_true hs
        refine ⟨nm, qn, ns, bs, bm, sn, sub, ab, col, dd, k0, k1, k2, k3, k5, ?_, m⟩
        have es : sl = #[k0, k1, k2, k3, some (.builtin "ValueError.__new__"), k5] := by
          obtain ⟨l⟩ := sl
          simp only at e
          rw [e]
        rw [q, es]
      · cases hs
    · cases m
  · cases h1
/-- an __init__ as it stands -/
abbrev FnX : Type := Option (Str × Str × Arguments × FuncBody × Scope × Addr × List Str × Addr)
def fnX (K : PySem.W.Frag) (p : Str × Option Str) : FnX := match K.lookup (He.fAd K p) with
  | some ⟨_, _, .func fd, _⟩ => some (fd.name, fd.qualname, fd.params, fd.body, fd.scope, fd.globals, fd.closure.map (·.1), fd.builtins)
  | _ => none
def valX (q : He.DefD) : FnX := some (q.name, q.qual, q.params, .stmts q.body, q.scope, mainGlobals, [("__class__" : Str)], builtinsNs)
def fdAt (K : PySem.W.Frag) (f : Addr) : FuncData := match K.lookup f with
  | some ⟨_, _, .func fd, _⟩ => fd
  | _ => default
def refOf : Value → Addr
  | .ref a => a
  | _ => 0
def xinB (prog : Program) (K : PySem.W.Frag) (C f : Addr) (q : He.DefD) (fs : List (Str × Str)) : Bool :=
  (match K.lookup f with
  | some ⟨_, _, .func fd, _⟩ => (match fd.closure, fd.code with
    | [(_, cc)], .ref cda => PySem.W.codeIn K fd.code q.qual && (match fd.defaults with
      | .none => true
      | _ => false) && (match K.lookup cda with
      | some ⟨_, _, .fields vs, _⟩ => (match (vs[2]? : Option Value) with
        | some (.str file _) => (prog.main.file : Str) == file
        | _ => false)
      | _ => false) && (match K.lookup cc with
      | some ⟨_, _, .cell (some (.ref D)), _⟩ => (PySem.W.clsIn K D).isSome && decide (PySem.W.mroIn K C (.ref D) = some true) && He.eqO (PySem.W.ks_superIn K C D "__init__") (some (some (.builtin "ValueError.__init__")))
      | _ => false)
    | _, _ => false)
  | _ => false) && oexB K C && He.eqO (PySem.W.findIn K (.ref C) "__init__") (some (some (.ref f))) && decide (PySem.W.typeIn K (.ref f) = some (.type "function")) && (fs.all fun z => He.eqO (PySem.W.findIn K (.ref C) z.1) (some none)) &&
  He.eqO (PySem.W.nsIn K mainGlobals "super") (some none) && He.eqO (PySem.W.nsIn K cStatics "thirdparty.any") (some none) && decide (PySem.W.subIn K (.ref C) (.type "ValueError") = some true)
/-- the text -/
def supB (ys : List Str) (st : Stmt) : Bool := match st with
  | .Expr (.Call (.Attribute (.Call (.Name x _) [] [] _) m p2) args [] p3) _ => decide (x = "super") && decide (m = "__init__") && namesB args ys && (p2.endLine == p3.line)
  | _ => false
def xtxB (prog : Program) (q : He.DefD) (sl : Str) (fs : List (Str × Str)) : Bool :=
  (match q.body with
  | st :: rest => supB (fs.map (·.2)) st && storesB sl rest fs
  | [] => false) && !fs.isEmpty && decide (fs.length < 30) && (fs.all fun z => decide (q.scope.names.lookup z.2 = some .local)) && decide (q.scope.names.lookup sl = some .local) && decide (sl :: fs.map (·.2)).Nodup && decide (fs.map (·.1)).Nodup &&
  (q.scope.names.all fun y => !decide (y.2 = .cell)) && !q.scope.isCoroutine && !q.scope.isGenerator && decide (q.scope.kind = .function) && decide (q.scope.names.lookup ("super" : Str) = some .globalImplicit) && decide (q.scope.names.lookup ("__class__" : Str) = some .free) &&
  !(prog.main.scope.names.lookup ("super" : Str)).isSome && (match (q.params.posonlyargs ++ q.params.args).head? with
  | some ar => decide (ar.arg = sl)
  | none => false)
def BindX (q : He.DefD) (sl : Str) (fs : List (Str × Str)) : Prop := ∀ fd : FuncData, fd.params = q.params → fd.defaults = .none → ∀ us : List Value, us.length = fs.length + 1 → bindArgs fd ⟨us, []⟩ = pure ((sl :: fs.map (·.2)).zip us)
theorem supB_eq {ys : List Str} {st : Stmt} (h : supB ys st = true) : ∃ p0 p1 p2 p3 p4 args, st = .Expr (.Call (.Attribute (.Call (.Name "super" p0) [] [] p1) "__init__" p2) args [] p3) p4 ∧ namesB args ys = true ∧ (p2.endLine == p3.line) = true := by
  unfold supB at h
  split at h
  · rename_i x p0 p1 m p2 args p3 p4
    simp only [Bool.and_eq_true, decide_eq_true_eq] at h
    obtain ⟨⟨⟨rfl, rfl⟩, h3⟩, h4⟩ := h
    exact ⟨p0, p1, p2, p3, p4, args, rfl, h3, h4⟩
  · cases h
theorem xin_ok {prog : Program} {K : PySem.W.Frag} {C : Addr} {q : He.DefD} {sl : Str} {fs : List (Str × Str)} (h1 : xinB prog K C (He.fAd K q.at_) q fs = true) (h2 : xtxB prog q sl fs = true) (h3 : fnX K q.at_ = valX q) (hb : BindX q sl fs) :
    ∃ (D cc cda : Addr) (fd : FuncData) (ar : Arg), XinC prog K C D (He.fAd K q.at_) cc cda fd ar ∧ XinS K C fd ar.arg fs ∧ PySem.W.findIn K (.ref C) "__init__" = some (some (.ref (He.fAd K q.at_))) ∧ PySem.W.typeIn K (.ref (He.fAd K q.at_)) = some (.type "function") := by
  unfold xinB at h1
  simp only [Bool.and_eq_true, decide_eq_true_eq] at h1
  obtain ⟨⟨⟨⟨⟨⟨⟨a1, a2⟩, a3⟩, a4⟩, a5⟩, a6⟩, a7⟩, a8⟩ := h1
  unfold fnX at h3
  cases ql : K.lookup (He.fAd K q.at_) with
  | none => rw [ql] at a1; cases a1
  | some o =>
    obtain ⟨oc, od, dt, osl⟩ := o
    rw [ql] at a1 h3
    cases dt with
    | func fd =>
      have h3' : (some (fd.name, fd.qualname, fd.params, fd.body, fd.scope, fd.globals, fd.closure.map (·.1), fd.builtins) : FnX) = valX q := h3
      unfold valX at h3'
      simp only [Option.some.injEq, Prod.mk.injEq] at h3'
      obtain ⟨e1, e2, e3, e4, e5, e6, e7, e8⟩ := h3'
      replace a1 : (match fd.closure, fd.code with
        | [(_, cc)], .ref cda => PySem.W.codeIn K fd.code q.qual && (match fd.defaults with
          | .none => true
          | _ => false) && (match K.lookup cda with
          | some ⟨_, _, .fields vs, _⟩ => (match (vs[2]? : Option Value) with
            | some (.str file _) => (prog.main.file : Str) == file
            | _ => false)
          | _ => false) && (match K.lookup cc with
          | some ⟨_, _, .cell (some (.ref D)), _⟩ => (PySem.W.clsIn K D).isSome && decide (PySem.W.mroIn K C (.ref D) = some true) && He.eqO (PySem.W.ks_superIn K C D "__init__") (some (some (.builtin "ValueError.__init__")))
          | _ => false)
        | _, _ => false) = true := a1
      split at a1
      · rename_i nm cc cda ec ed
        simp only [Bool.and_eq_true] at a1
        obtain ⟨⟨⟨b1, b2⟩, b3⟩, b4⟩ := a1
        split at b3
        · rename_i oc2 od2 vs sl2 lc
          split at b3
          · rename_i file tf ev
            split at b4
            · rename_i oc3 od3 D sl3 lcl
              simp only [Bool.and_eq_true, decide_eq_true_eq] at b4
              obtain ⟨⟨c1, c2⟩, c3⟩ := b4
              unfold xtxB at h2
              simp only [Bool.and_eq_true, decide_eq_true_eq, Bool.not_eq_true'] at h2
              obtain ⟨⟨⟨⟨⟨⟨⟨⟨⟨⟨⟨⟨⟨⟨t1, t2⟩, t3⟩, t4⟩, t5⟩, t6⟩, t7⟩, t8⟩, t9⟩, t10⟩, t11⟩, t12⟩, t13⟩, t14⟩, t15⟩ := h2
              split at t15
              · rename_i ar ha
                have ear : ar.arg = sl := of_decide_eq_true t15
                have edd : fd.defaults = .none := by
                  cases qd : fd.defaults <;> first | rfl | (rw [qd] at b2; exact ff b2)
                have eclo : fd.closure = [(("__class__" : Str), cc)] := by
                  rw [ec] at e7 ⊢
                  injection e7 with z _
                  rw [show nm = ("__class__" : Str) from z]
                obtain ⟨oD, lD, dD⟩ : ∃ oD, K.lookup D = some oD ∧ ∃ cd, oD.data = .cls cd := by
                  unfold PySem.W.clsIn at c1
                  split at c1
                  · rename_i x1 x2 cd x3 lo
                    exact ⟨_, lo, cd, rfl⟩
                  · cases c1
                refine ⟨D, cc, cda, fd, ar, ⟨oexB_ok a2, ⟨oc, od, osl, ql⟩, by rw [e3]; exact ha, ⟨_, vs, file, tf, ed, lc, rfl, ev, b3⟩, eclo, e6, e8, ⟨_, lcl, rfl⟩, ⟨oD, dD.choose, lD, dD.choose_spec⟩, c2, He.eqO_ok a6, by rw [e5]; exact t11, by rw [e5]; exact t12, by rw [e5]; exact t13, by rw [e5, ear]; exact t5, by simpa using t14, He.eqO_ok c3, He.eqO_ok a7, a8⟩, ?_, He.eqO_ok a3, a4⟩
                split at t1
                · rename_i st rest eb
                  rw [Bool.and_eq_true] at t1
                  obtain ⟨p0, p1, p2, p3, p4, args, rfl, s1, s2⟩ := supB_eq t1.1
                  rw [ear]
                  refine ⟨⟨p0, p1, p2, p3, p4, args, rest, by rw [e4, eb], s1, s2, t1.2⟩, fun z => by rw [z] at t2; exact ff t2.symm, t3, fun z hz => by rw [e5]; exact of_decide_eq_true (all_of t4 hz), by rw [e5]; exact t5, t6, t7, hb fd e3 edd, fun y hy z => ?_, by rw [e5]; exact t9, by rw [e5]; exact t10, by rw [e2]; exact b1, fun z hz => He.eqO_ok (all_of a5 hz)⟩
                  rw [e5] at hy
                  have k := all_of t8 hy
                  rw [Bool.not_eq_true', decide_eq_false_iff_not] at k
                  exact k z
                · cases t1
              · cases t15
            · cases b4
          · cases b3
        · cases b3
      · cases a1
    | _ => cases a1
/-! ### all those of a program -/
def Desc.chkX (d : Desc) (prog : Program) (K : PySem.W.Frag) : Bool := (d.xi.all fun z => xinB prog K (d.ca K z.1) (He.fAd K z.2.1.at_) z.2.1 z.2.2.2) && d.tab.rss.all fun q => gloB K q.1 (d.ca K q.2)
def fxOk (d : Desc) (c : Nat) (fs : List (Str × Str)) : Bool := match optAt d.exO c with
  | some fx => decide (fx.map (fun i => d.tab.fld[i]?) = (fs.map (·.1)).map some)
  | none => false
def Desc.tabsX (d : Desc) (prog : Program) : Bool := (d.xi.all fun z => xtxB prog z.2.1 z.2.2.1 z.2.2.2) && d.tab.rss.all fun q => d.xi.any fun z => z.1 == q.2 && fxOk d q.2 z.2.2.2
def XiOk : List (Nat × He.DefD × Str × List (Str × Str)) → Prop
  | [] => True
  | z :: zs => BindX z.2.1 z.2.2.1 z.2.2.2 ∧ XiOk zs
theorem XiOk.mem : ∀ {l : List (Nat × He.DefD × Str × List (Str × Str))} {z : Nat × He.DefD × Str × List (Str × Str)}, XiOk l → z ∈ l → BindX z.2.1 z.2.2.1 z.2.2.2
  | _ :: _, g, h, m => (List.mem_cons.mp m).elim (fun e => e ▸ h.1) fun m => XiOk.mem h.2 m
theorem map_mem {α β : Type} {f g : α → β} : ∀ {l : List α} {a : α}, l.map f = l.map g → a ∈ l → f a = g a
  | x :: l, a, h, m => by
    injection h with h1 h2
    rcases List.mem_cons.mp m with e | m
    · rw [e]; exact h1
    · exact map_mem h2 m
theorem Desc.raisable {d : Desc} {prog : Program} {K : PySem.W.Frag} {h : Heap} {mg : Str → Option Value} (hX : K.In h) (hG : h.Ns mainGlobals mg) (c1 : d.chkX prog K = true) (c2 : d.tabsX prog = true) (c3 : XiOk d.xi) (c4 : (d.xi.map fun z => fnX K z.2.1.at_) = d.xi.map fun z => valX z.2.1) :
    ∀ q ∈ d.tab.rss, mg q.1 = some (.ref (d.ca K q.2)) ∧ ∀ (l : Option Lm) (c1 c2 c3 c4 : Nat → List W → S → R W) (he : Nat → (S → R W) → S → R W) (ak : S → R W), Raisable prog K (d.tb K l) (ctxOf d.prog c1 c2 c3 c4 he ak) q.2 := fun q hq => by
  unfold Desc.chkX at c1
  unfold Desc.tabsX at c2
  rw [Bool.and_eq_true] at c1 c2
  refine ⟨PySem.W.mg_of hX hG (He.eqO_ok (all_of c1.2 hq)), fun l call init _ _ he ak => ?_⟩
  obtain ⟨z, hz, m⟩ := List.any_eq_true.mp (all_of c2.2 hq)
  rw [Bool.and_eq_true, beq_iff_eq] at m
  obtain ⟨m1, m2⟩ := m
  obtain ⟨D, cc, cda, fd, ar, T, Sx, i1, i2⟩ := xin_ok (all_of c1.1 hz) (all_of c2.1 hz) (map_mem c4 hz) (c3.mem hz)
  rw [m1] at T Sx i1
  unfold fxOk at m2
  split at m2
  · rename_i fx e
    exact ⟨D, _, cc, cda, fd, ar, _, fx, T, Sx, i1, i2, e, of_decide_eq_true m2⟩
  · cases m2
end Ev

set_option Elab.async false
set_option linter.all false
set_option autoImplicit false
set_option maxRecDepth 100000
namespace Ev
open PySem PySem.Spec L2

/-! ### how arguments come to parameters -/
def BindN (q : He.DefD) (ps : List Str) : Prop := q.dfl = [] ∧ q.kwd = [] ∧ ∀ (kV doc pm : Value) (an : Option Addr) (cdv ct : Value) (us : List Value), us.length = ps.length → bindArgs (PySem.W.fnOf q.name q.qual q.params q.body q.scope .none kV doc pm an cdv ct) ⟨us, []⟩ = pure (ps.zip us)
/-- all those called plainly -/
def PlOk (d : Desc) : List Nat → Prop
  | [] => True
  | g :: gs => (∃ q ps, d.dd[g]? = some q ∧ d.ps[g]? = some ps ∧ BindN q ps) ∧ PlOk d gs
theorem PlOk.mem {d : Desc} : ∀ {l : List Nat} {g : Nat}, PlOk d l → g ∈ l → ∃ q ps, d.dd[g]? = some q ∧ d.ps[g]? = some ps ∧ BindN q ps
  | _ :: _, g, h, m => (List.mem_cons.mp m).elim (fun e => e ▸ h.1) fun m => PlOk.mem h.2 m
/-- without defaults, with them -/
def BindK (q : He.DefD) (ps : List Str) (first : Nat) (s : Sig) : Prop :=
  (q.dfl = [] ∧ ∀ (kV doc pm : Value) (an : Option Addr) (cdv ct : Value) (fs us ws : List Value), fs.length = first → us.length = s.n → ws.length = s.ks.length →
    ∃ gs, pick (us ++ (ws ++ [])) s.ix = some gs ∧ gs.length + first = ps.length ∧ bindArgs (PySem.W.fnOf q.name q.qual q.params q.body q.scope .none kV doc pm an cdv ct) ⟨fs ++ us, s.ks.zip ws⟩ = pure (ps.zip (fs ++ gs))) ∨
  (q.dfl ≠ [] ∧ ∀ (T : Addr) (kV doc pm : Value) (an : Option Addr) (cdv ct : Value) (fs us ws its : List Value), fs.length = first → us.length = s.n → ws.length = s.ks.length → its.length = q.dfl.length →
    ∃ gs k, pick (us ++ (ws ++ its)) s.ix = some gs ∧ gs.length + first = ps.length ∧ bindArgs (PySem.W.fnOf q.name q.qual q.params q.body q.scope (.ref T) kV doc pm an cdv ct) ⟨fs ++ us, s.ks.zip ws⟩ = seqItems? (.ref T) >>= k ∧ k (some its.toArray) = pure (ps.zip (fs ++ gs)))
def KlOk (d : Desc) : List (Nat × Nat × Sig) → Prop
  | [] => True
  | z :: zs => (∃ q ps, d.dd[z.1]? = some q ∧ d.ps[z.1]? = some ps ∧ BindK q ps z.2.1 z.2.2) ∧ KlOk d zs
theorem KlOk.mem {d : Desc} : ∀ {l : List (Nat × Nat × Sig)} {z : Nat × Nat × Sig}, KlOk d l → z ∈ l → ∃ q ps, d.dd[z.1]? = some q ∧ d.ps[z.1]? = some ps ∧ BindK q ps z.2.1 z.2.2
  | _ :: _, g, h, m => (List.mem_cons.mp m).elim (fun e => e ▸ h.1) fun m => KlOk.mem h.2 m
/-- each def's names and its term against its code -/
def BodyOk (D : Tab) (q : He.DefD) (f : Df) (N ps : List Str) : Bool :=
  decide (q.scope.kind = .function) && !q.scope.isCoroutine && !q.scope.isGenerator && decide N.Nodup && decide (N.take ps.length = ps) && (ps.all fun x => isLoc q.scope x) && (q.scope.names.all fun y => !decide (y.2 = .free)) &&
    (f.np == ps.length) && (N.length == f.np + f.nl) && (cs (D.on f.lam) N f.body q.scope q.scope).2 q.body
def BodiesOk (D : Tab) : List He.DefD → List Df → List (List Str) → List (List Str) → Prop
  | q :: qs, f :: fs, N :: Ns, ps :: pss => BodyOk D q f N ps = true ∧ BodiesOk D qs fs Ns pss
  | _, [], _, _ => True
  | _, _, _, _ => False
theorem BodiesOk.at {D : Tab} : ∀ {qs : List He.DefD} {fs : List Df} {Ns pss : List (List Str)} {g : Nat} {f : Df}, BodiesOk D qs fs Ns pss → fs[g]? = some f → ∃ q N ps, qs[g]? = some q ∧ Ns[g]? = some N ∧ pss[g]? = some ps ∧ BodyOk D q f N ps = true
  | q :: qs, f :: fs, N :: Ns, ps :: pss, 0, f', h, e => by
    cases Option.some.inj e
    exact ⟨q, N, ps, rfl, rfl, rfl, h.1⟩
  | q :: qs, f :: fs, N :: Ns, ps :: pss, g + 1, f', h, e => BodiesOk.at (qs := qs) h.2 e
  | [], [], _, _, g, f', h, e => by simp at e
  | _ :: _, [], _, _, g, f', h, e => by simp at e
  | [], _ :: _, _, _, g, f', h, e => h.elim
  | _ :: _, _ :: _, [], _, g, f', h, e => h.elim
  | _ :: _, _ :: _, _ :: _, [], g, f', h, e => h.elim
/-- the tables lean on each other -/
def Desc.tabs (d : Desc) : Bool :=
  (d.tab.fns.all fun q => d.pl.contains q.2) &&
  (d.tab.fks.all fun q => d.kl.any fun z => z.1 == q.2.1 && z.2.1 == 0 && Sig.beq z.2.2 q.2.2) &&
  (d.tab.mks.all fun q => match d.prog.makes q.2 with
    | some g => d.pl.contains g
    | none => false) &&
  (d.tab.mkk.all fun q => match d.prog.makes q.2.1 with
    | some g => d.kl.any fun z => z.1 == g && z.2.1 == 1 && Sig.beq z.2.2 q.2.2
    | none => false) &&
  (d.tab.mts.all fun m => d.mt.all fun q => !decide (q.2.1 = m) || !(d.prog.makes q.1).isSome || d.pl.contains q.2.2) &&
  (d.tab.mtk.all fun s => d.mt.all fun q => !decide (q.2.1 = s.1) || !(d.prog.makes q.1).isSome || d.kl.any fun z => z.1 == q.2.2 && z.2.1 == 1 && Sig.beq z.2.2 s.2) &&
  (d.tab.hrs.all fun q => d.pl.contains q.2 && !d.lf q.2 && (match d.ps[q.2]? with
    | some [a] => !(a == ("__debug__" : Str)) && !(a == ("__classdict__" : Str))
    | _ => false))
def dCd : Cd := ⟨"", "", ⟨[], [], none, [], [], none, []⟩, [], ⟨.function, [], false, false, []⟩, [], []⟩
def Desc.cd (d : Desc) (g : Nat) : Cd := match d.dd[g]?, d.N[g]?, d.ps[g]? with
  | some q, some N, some ps => ⟨q.name, q.qual, q.params, q.body, q.scope, N, ps⟩
  | _, _, _ => dCd
theorem Desc.cd_eq {d : Desc} {g : Nat} {q : He.DefD} {N ps : List Str} (h1 : d.dd[g]? = some q) (h2 : d.N[g]? = some N) (h3 : d.ps[g]? = some ps) : d.cd g = ⟨q.name, q.qual, q.params, q.body, q.scope, N, ps⟩ := by
  unfold Desc.cd
  rw [h1, h2, h3]
theorem vval_rel {v : V} (h : (match v with
    | .byt _ => false
    | .flt _ => false
    | .ty _ => false
    | _ => true) = true) : RelV v (vval v) := by
  cases v <;> first | rfl | exact ⟨_, rfl⟩ | exact ff h
theorem dflAll_ok {B : Tb} {K : PySem.W.Frag} : ∀ {ws : List W} {vs : List He.Dv}, dflAll B K ws vs = true → ∀ (ρ : Pl) (n : Nat) (H : Hp), DenL B ρ n H ws (vs.map (He.Dv.v K))
  | [], [], _ => fun _ _ _ => .nil
  | [], _ :: _, h => ff h
  | _ :: _, [], h => ff h
  | w :: ws, v :: vs, h => by
    have h' : (dvPlain v && denB B w (vval (v.v K)) && dflAll B K ws vs) = true := h
    rw [Bool.and_eq_true, Bool.and_eq_true] at h'
    obtain ⟨u, r, dn⟩ := denB_ok h'.1.2
    have r2 : RelV (v.v K) (vval (v.v K)) := vval_rel (by cases v <;> first | rfl | exact ff h'.1.1)
    obtain rfl := r.inj r2
    exact fun ρ n H => .cons (dn ρ n H) (dflAll_ok h'.2 ρ n H)
section
variable {P : Program} {w : World} {K : PySem.W.Frag} {mg : Str → Option Value} {h : Heap} {d : Desc}
theorem pick_nil {α : Type} {l : List α} : pick l [] = some [] := rfl
theorem bnd_of {l : Option Lm} {q : He.DefD} {ps : List Str} {first : Nat} {s : Sig} {fdd : FuncData} (F : FunD K q.name q.qual q.params q.body q.scope (q.dvs K) (q.kws K) (He.fAd K q.at_) fdd) (hb : BindK q ps first s) (hd : dflAll (d.tb K) K s.ds q.dfl = true) :
    ∃ dv, Bnd K fdd ps first s.n s.ks s.ix dv ∧ Dfl (d.tb K l) s.ds dv := by
  obtain ⟨oc, od, dV, kV, doc, pm, an, cdv, ct, osl, rfl, lk, hcd, hD, hKw⟩ := F.ex
  have dn : ∀ (ρ : Pl) (n : Nat) (H : Hp), DenL (d.tb K l) ρ n H s.ds (q.dfl.map (He.Dv.v K)) := fun ρ n H => (dflAll_ok hd ρ n H).re l
  rcases hb with ⟨e, hb⟩ | ⟨ne, hb⟩
  · have ed : q.dvs K = [] := by unfold He.DefD.dvs; rw [e]; rfl
    rcases hD with ⟨_, rfl⟩ | ⟨ne, _⟩
    · refine ⟨[], ⟨fun s0 fs us ws kin h1 h2 h3 => ?_⟩, [], .nil, fun ρ n H => ?_⟩
      · obtain ⟨gs, e1, e2, e3⟩ := hb kV doc pm an cdv ct fs us ws h1 h2 h3
        exact ⟨gs, e1, e2, .of_eq e3⟩
      · have z := dn ρ n H
        rw [e] at z
        exact z
    · exact absurd ed ne
  · rcases hD with ⟨e, _⟩ | ⟨_, T, o, its, m, rfl, lT, oT, rT⟩
    · have : q.dfl = [] := by unfold He.DefD.dvs at e; exact List.map_eq_nil_iff.mp e
      exact absurd this ne
    · refine ⟨its, ⟨fun s0 fs us ws kin h1 h2 h3 => ?_⟩, q.dvs K, rT, fun ρ n H => dn ρ n H⟩
      have l1 : its.length = q.dfl.length := by rw [← rT.length]; unfold He.DefD.dvs; rw [List.length_map]
      obtain ⟨gs, k, e1, e2, e3, e4⟩ := hb T kV doc pm an cdv ct fs us ws its h1 h2 h3 l1
      refine ⟨gs, e1, e2, BindsTo.of_looks fun M => ?_⟩
      rw [e3]
      exact looks_items kin lT oT (.of_pure e4)
theorem Desc.whole (hX : K.In h) (hG : h.Ns mainGlobals mg) (hnd : d.tab.fld.Nodup) (S : Says d K) (ht : d.tabs = true) (hpl : PlOk d d.pl) (hkl : KlOk d d.kl) (hbo : BodiesOk d.tab d.dd d.df d.N d.ps) (hrs : ∀ q ∈ d.tab.rss, mg q.1 = some (.ref (d.ca K q.2)) ∧ ∀ (l : Option Lm) (c1 c2 c3 c4 : Nat → List W → Ev.S → R W) (he : Nat → (Ev.S → R W) → Ev.S → R W) (ak : Ev.S → R W), Raisable P K (d.tb K l) (ctxOf d.prog c1 c2 c3 c4 he ak) q.2)
    (fd : Nat → FuncData) (hfd : ∀ g q, d.dd[g]? = some q → FunD K q.name q.qual q.params q.body q.scope (q.dvs K) (q.kws K) (He.fAd K q.at_) (fd g)) : ∀ l, Whole P w K mg (d.tb K l) d.prog d.tab d.lf d.cd fd := by
  intro l
  have fa_eq : ∀ {g q}, d.dd[g]? = some q → d.fa K g = He.fAd K q.at_ := fun {g q} e => by unfold Desc.fa; rw [e]
  have inr : ∀ {g}, g < d.df.length → (d.prog.defs[g]?).isSome = true := fun {g} h => by
    show (d.df[g]?).isSome = true
    rw [List.getElem?_eq_getElem h]
    rfl
  unfold Desc.tabs at ht
  simp only [Bool.and_eq_true] at ht
  obtain ⟨⟨⟨⟨⟨⟨t1, t2⟩, t3⟩, t4⟩, t5⟩, t6⟩, t7⟩ := ht
  have cdq : ∀ {g}, (d.prog.defs[g]?).isSome = true → ∃ q N ps, d.dd[g]? = some q ∧ d.ps[g]? = some ps ∧ d.cd g = ⟨q.name, q.qual, q.params, q.body, q.scope, N, ps⟩ := fun {g} h => by
    obtain ⟨f, hf⟩ := Option.isSome_iff_exists.mp h
    obtain ⟨q, N, ps, e1, e2, e3, _⟩ := hbo.at hf
    exact ⟨q, N, ps, e1, e3, Desc.cd_eq e1 e2 e3⟩
  have bN : ∀ {g}, (d.prog.defs[g]?).isSome = true → d.pl.contains g = true → Binds K (fd g) (d.cd g).ps [] := fun {g} h m => by
    obtain ⟨q, N, ps, e1, e2, e3⟩ := cdq h
    obtain ⟨q', ps', e1', e2', b1, b0, b2⟩ := hpl.mem (List.contains_iff_mem.mp m)
    rw [e1] at e1'; cases e1'
    rw [e2] at e2'; cases e2'
    rw [e3]
    have F := hfd g q e1
    have ed : q.dvs K = [] := by unfold He.DefD.dvs; rw [b1]; rfl
    rw [ed] at F
    exact F.bindsN b2
  have bK : ∀ {g first s}, (d.prog.defs[g]?).isSome = true → (d.kl.any fun z => z.1 == g && z.2.1 == first && Sig.beq z.2.2 s) = true → ∃ dv, Bnd K (fd g) (d.cd g).ps first s.n s.ks s.ix dv ∧ Dfl (d.tb K l) s.ds dv := fun {g first s} h m => by
    obtain ⟨z, hz, m⟩ := List.any_eq_true.mp m
    rw [Bool.and_eq_true, Bool.and_eq_true, beq_iff_eq, beq_iff_eq] at m
    obtain ⟨⟨m1, m2⟩, m3⟩ := m
    obtain ⟨z1, z2, z3⟩ := z
    dsimp only at m1 m2 m3
    subst m1 m2
    obtain rfl := Sig.beq_eq m3
    obtain ⟨q, N, ps, e1, e2, e3⟩ := cdq h
    obtain ⟨q', ps', e1', e2', b⟩ := hkl.mem hz
    rw [e1] at e1'; cases e1'
    rw [e2] at e2'; cases e2'
    rw [e3]
    have dk := S.dk _ hz
    unfold dflOk at dk
    dsimp only at dk
    rw [e1] at dk
    exact bnd_of (hfd _ q e1) b dk
  have mkq : ∀ {c}, mkB d K c = true → ∃ g, d.prog.makes c = some g ∧ Mk K (d.ca K c) (d.fa K g) ∧ (d.prog.defs[g]?).isSome = true := fun {c} h => by
    unfold mkB at h
    split at h
    · rename_i g e
      simp only [Bool.and_eq_true, decide_eq_true_eq] at h
      obtain ⟨⟨⟨⟨h1, h2⟩, h3⟩, h4⟩, h5⟩ := h
      exact ⟨g, e, ⟨h2, He.eqO_ok h3, h4, h5⟩, inr h1⟩
    · cases h
  have mtq : ∀ {m}, mtB d K m = true → m ∉ d.tab.fld ∧ ∀ c g, (d.prog.makes c).isSome = true → d.prog.meth c m = some g → Meth K (d.ca K c) m (d.fa K g) ∧ (d.prog.defs[g]?).isSome = true := fun {m} h => by
    unfold mtB at h
    rw [Bool.and_eq_true, Bool.not_eq_true', decide_eq_false_iff_not] at h
    refine ⟨h.1, fun c g h1 h2 => ?_⟩
    have z := all_of h.2 (atM_mem h2)
    simp only [h1, decide_true, Bool.not_true, Bool.false_or, Bool.and_eq_true, decide_eq_true_eq] at z
    obtain ⟨⟨⟨z1, z2⟩, z3⟩, z4⟩ := z
    exact ⟨⟨He.eqO_ok z2, z3, z4⟩, inr z1⟩
  refine ⟨rfl, fun g f hf => ?_, fun q m => ?_, fun x m => PySem.W.mg_none_of hX hG (S.bns x m), fun q m => ?_, fun q m => ?_, fun q m => ?_, fun q m => ?_, fun m hm => ?_, fun q m => ?_, fun q m => PySem.W.mg_of hX hG (S.tys q m), fun q m => ⟨(hrs q m).1, (hrs q m).2 l⟩, rfl, fun X c hK hc => ?_, fun X c hK hc => ?_, fun X call init c3 c4 he ak hK => ?_, fun c hc a r ha hs => S.ct _ (at3_mem hs) hc, fun q m => ?_⟩
  · obtain ⟨q, N, ps, e1, e2, e3, b⟩ := hbo.at hf
    rw [Desc.cd_eq e1 e2 e3]
    unfold BodyOk at b
    simp only [Bool.and_eq_true, decide_eq_true_eq, Bool.not_eq_true', beq_iff_eq] at b
    obtain ⟨⟨⟨⟨⟨⟨⟨⟨⟨b1, b2⟩, b3⟩, b4⟩, b5⟩, b6⟩, b7⟩, b8⟩, b9⟩, b10⟩ := b
    have el : d.lf g = f.lam := by unfold Desc.lf; rw [show d.df[g]? = some f from hf]
    rw [el]
    refine ⟨⟨q.dvs K, q.kws K, ?_⟩, ⟨b1, b2, b3, b4, b5, fun x hx => ?_, fun y hy z => ?_⟩, b8, b9, b10⟩
    · have F := hfd g q e1
      rw [← fa_eq e1] at F
      exact F
    · have z := all_of b6 hx
      unfold isLoc at z
      rw [Bool.or_eq_true, beq_iff_eq, beq_iff_eq] at z
      exact z
    · have k := all_of b7 hy
      rw [Bool.not_eq_true', decide_eq_false_iff_not] at k
      exact k z
  · obtain ⟨u, e, dn⟩ := S.gls q m
    obtain ⟨v, r, dv⟩ := denB_ok dn
    exact ⟨v, u, PySem.W.mg_of hX hG e, r, fun ρ n H => (dv ρ n H).re l⟩
  · obtain ⟨l, e⟩ := S.fns q m
    exact ⟨PySem.W.mg_of hX hG e, inr l, bN (inr l) (all_of t1 m)⟩
  · obtain ⟨l, e⟩ := S.fks q m
    exact ⟨PySem.W.mg_of hX hG e, inr l, bK (inr l) (all_of t2 m)⟩
  · obtain ⟨e, mk⟩ := S.mks q m
    obtain ⟨g, eg, M, i⟩ := mkq mk
    have t := all_of t3 m
    rw [eg] at t
    exact ⟨PySem.W.mg_of hX hG e, g, eg, M, i, bN i t⟩
  · obtain ⟨e, mk⟩ := S.mkk q m
    obtain ⟨g, eg, M, i⟩ := mkq mk
    have t := all_of t4 m
    rw [eg] at t
    exact ⟨PySem.W.mg_of hX hG e, g, eg, M, i, bK i t⟩
  · obtain ⟨n, z⟩ := mtq (S.mts m hm)
    refine ⟨n, fun c g h1 h2 => ?_⟩
    obtain ⟨M, i⟩ := z c g h1 h2
    have t := all_of (all_of t5 hm) (atM_mem h2)
    simp only [h1, decide_true, Bool.not_true, Bool.false_or] at t
    exact ⟨M, i, bN i t⟩
  · obtain ⟨n, z⟩ := mtq (S.mtk q m)
    refine ⟨n, fun c g h1 h2 => ?_⟩
    obtain ⟨M, i⟩ := z c g h1 h2
    have t := all_of (all_of t6 m) (atM_mem h2)
    simp only [h1, decide_true, Bool.not_true, Bool.false_or] at t
    exact ⟨M, i, bK i t⟩
  · subst hK
    obtain ⟨c1, _, _⟩ := S.kls c hc
    unfold clsB at c1
    simp only [Bool.and_eq_true] at c1
    obtain ⟨⟨⟨⟨c1, c2⟩, c3⟩, c4⟩, c5⟩ := c1
    exact ⟨⟨c1, c2, c3, He.eqO_ok c4⟩, fun f nm hf => He.eqO_ok (all_of c5 (List.mem_of_getElem? hf))⟩
  · subst hK
    have c1 := S.exs c hc
    unfold exB at c1
    simp only [Bool.and_eq_true] at c1
    obtain ⟨⟨⟨c1, c2⟩, c3⟩, c4⟩ := c1
    exact ⟨xfB_ok c1, fun f nm hf => He.eqO_ok (all_of c2 (List.mem_of_getElem? hf))⟩
  · subst hK
    have ov : ∀ {c}, ovB d X.K c = true → PySem.W.findIn X.K (.ref (d.ca X.K c)) "__class__" = some (some (.builtin "object.__class__")) ∧ PySem.W.mroIn X.K (d.ca X.K c) (.type "object") = some true := fun {c} z => by
      unfold ovB at z
      rw [Bool.and_eq_true, decide_eq_true_eq] at z
      exact ⟨He.eqO_ok z.1, z.2⟩
    refine ⟨fun a c ha hc => S.own c (List.contains_iff_mem.mp hc) a ha, fun c n hc hn => (S.kls c hc).2.2 n hn, fun a b r ha hr => S.ins _ (at3_mem hr), fun a b r ha hr => S.sub _ (at3_mem hr), S.hn, S.ht, fun c hc => ?_, fun c hc => ?_⟩
    · obtain ⟨c1, c2, _⟩ := S.kls c hc
      unfold clsB at c1
      simp only [Bool.and_eq_true] at c1
      obtain ⟨⟨⟨⟨c1, k2⟩, c3⟩, c4⟩, c5⟩ := c1
      exact ⟨⟨c1, k2, c3, He.eqO_ok c4⟩, (ov c2).1, (ov c2).2⟩
    · have c1 := S.exs c hc
      unfold exB at c1
      simp only [Bool.and_eq_true] at c1
      obtain ⟨⟨⟨c1, c2⟩, c3⟩, c4⟩ := c1
      exact ⟨xfB_ok c1, (ov c3).1, (ov c3).2, c4⟩
  · obtain ⟨li, e⟩ := S.hr q m
    have t := all_of t7 m
    rw [Bool.and_eq_true, Bool.and_eq_true, Bool.not_eq_true'] at t
    obtain ⟨⟨t1, t2⟩, t3⟩ := t
    refine ⟨PySem.W.mg_of hX hG e, inr li, bN (inr li) t1, t2, ?_⟩
    split at t3
    · rename_i a ea
      rw [Bool.and_eq_true, Bool.not_eq_true', Bool.not_eq_true'] at t3
      obtain ⟨q', N, ps, e1, e2, e3⟩ := cdq (inr li)
      rw [ea] at e2
      cases e2
      exact ⟨a, by rw [e3], t3.1, t3.2⟩
    · cases t3
/-! ### the law -/
theorem law_sp {g k : Nat} {a : Addr} {ns : List Int} {H : Hp} {s1 : S} (hnd : d.tab.fld.Nodup) (he : callF d.prog k g [.frl (ns.map .int)] ⟨[]⟩ = .ok (.bl true) s1) (hT : ∀ p ∈ d.cs K, H p.2 = some (.tbl #[])) (hS : SqL K H a (ns.map V.int)) :
    spF (d.tb K) (callF d.prog k g) [.ref a] H (fun v _ => v = .bl true) fun _ _ _ => False := by
  have denInts : ∀ (ρ : Pl) (n : Nat) (H : Hp) (l : List Int), DenL (d.tb K) ρ n H (l.map .int) (l.map V.int) := fun ρ n H l => by
    induction l with
    | nil => exact .nil
    | cons i l ih => exact .cons .int ih
  have hT' : LamX.Tabs (d.T K) H := fun p hp => by
    obtain ⟨g, hg, e⟩ := List.mem_filterMap.mp hp
    obtain ⟨z, e1, e2⟩ := Option.map_eq_some_iff.mp e
    have m : z ∈ d.cs K := List.mem_filterMap.mpr ⟨g, hg, e1⟩
    rw [← e2]
    exact .nil (hT z m)
  refine ⟨⟨fun _ => 0, fun _ => False⟩, ⟨[]⟩, [.frl (ns.map .int)], ⟨hnd, fun i j hi => absurd hi (Nat.not_lt_zero i), fun i o e => by simp [S.get] at e, fun a h => h.elim, hT'⟩, .cons (.frl ?_ (denInts _ _ _ ns)) .nil, ?_⟩
  · rcases hS with (h | ⟨o, h⟩) | h
    · exact .inl ⟨_, ⟨h, fun i hi => absurd hi (Nat.not_lt_zero i), fun z => z, fun _ z => nomatch z⟩, .inl rfl⟩
    · exact .inl ⟨_, ⟨h, fun i hi => absurd hi (Nat.not_lt_zero i), fun z => z, fun _ z => nomatch z⟩, .inr ⟨o, rfl⟩⟩
    · exact .inr h
  · rw [he]
    intro ρ' H' v x r dn
    cases dn
    rfl
end
end Ev

set_option Elab.async false
set_option linter.all false
set_option autoImplicit false
set_option maxRecDepth 100000
namespace Ev
open PySem PySem.Spec L2

section
variable {P : Program} {w : World} {K : PySem.W.Frag} {mg : Str → Option Value} {base h : Heap} {B : Tb} {Pg : Prog} {D : Tab} {lf : Nat → Bool} {cd : Nat → Cd} {fd : Nat → FuncData}
/-- the law's def, out of which nothing is raised -/
def spL (B : Tb) (Pg : Prog) (k g : Nat) : Sp := fun vs H Q _ => spF B (callF Pg k g) vs H Q fun _ _ _ => False
theorem lawOk (WhA : ∀ l, Whole P w K mg (B.at l) Pg D lf cd fd) (lt : LamT mg base B lf cd fd) {CX : CXT} {k g : Nat} (h : (Pg.defs[g]?).isSome = true) : FnOk P w K mg base CX (k + 4) (B.fa g) (fd g) (cd g).ps (spL B Pg (k + 4) g) := by
  obtain ⟨a0, a1, a2, a3, ah⟩ := allOk (base := base) WhA lt k
  exact stepF (WhA B.lm) lt h a0 a1 a2 a3 ah (fun _ => fun _ _ _ => False) LamX.takes0
end
theorem isInt_of {v : Value} (h : isInt v = true) : ∃ i t, v = .int i t := by cases v <;> first | exact ⟨_, _, rfl⟩ | exact ff h
theorem isStr_of {v : Value} (h : isStr v = true) : ∃ i t, v = .str i t := by cases v <;> first | exact ⟨_, _, rfl⟩ | exact ff h
theorem isBool_of {v : Value} (h : isBool v = true) : ∃ i, v = .bool i := by cases v <;> first | exact ⟨_, rfl⟩ | exact ff h
theorem tabOf_ok {d : Desc} {K : PySem.W.Frag} {g : Nat} {c P : Addr} (h : tabOf d K g = some (c, P)) : (∃ oc od fd sl, K.lookup (d.fa K g) = some ⟨oc, od, .func fd, sl⟩ ∧ fd.code = .ref c) ∧ K.lookup P = none ∧ ∀ hp : Heap, K.In hp → PySem.W.CodeHd hp c P := by
  unfold tabOf at h
  split at h
  · rename_i oc od fd sl e1
    split at h
    · rename_i c' e2
      split at h
      · rename_i cn od2 vs sl2 e3
        split at h
        · rename_i P' e4
          split at h
          · rename_i e5
            cases h
            simp only [Bool.and_eq_true, decide_eq_true_eq, Bool.not_eq_true', decide_eq_false_iff_not] at e5
            obtain ⟨⟨⟨⟨⟨⟨h1, h2⟩, h3⟩, h4⟩, h5⟩, h6⟩, h7⟩ := e5
            subst h1
            obtain ⟨i2, t2, e2'⟩ := isStr_of h2
            obtain ⟨i3, t3, e3'⟩ := isInt_of h3
            obtain ⟨i4, e4'⟩ := isBool_of h4
            obtain ⟨i5, t5, e5'⟩ := isInt_of h5
            refine ⟨⟨oc, od, fd, sl, e1, e2⟩, by simpa using h7, fun hp hK => ⟨_, vs, i2, t2, i3, t3, i4, i5, t5, hK _ _ e3, rfl, rfl, e4, ?_, e2', e3', e4', e5', h6⟩⟩
            rw [Array.getD_eq_getD_getElem?, e4]; rfl
          · cases h
        · cases h
      · cases h
    · cases h
  · cases h
theorem emptyTab_of {o : Obj} (h : emptyTab o = true) : o = { cls := .none, data := .fields #[] } := by
  unfold emptyTab at h
  split at h
  · rename_i vs sl
    rw [Bool.and_eq_true, beq_iff_eq, beq_iff_eq] at h
    rw [Array.size_eq_zero_iff.mp h.1, Array.size_eq_zero_iff.mp h.2]
  · cases h
/-- the tables as they stand -/
def TabSays (d : Desc) (K : PySem.W.Frag) (h : Heap) : Prop := ∀ g ∈ d.lm, ∃ p, tabOf d K g = some p ∧ (h.get? p.2 = some { cls := .none, data := .fields #[] }) ∧ ∀ g' ∈ d.lm, g = g' ∨ ∀ p', tabOf d K g' = some p' → p'.2 ≠ p.2
theorem tabSays_of {d : Desc} {K : PySem.W.Frag} {h : Heap} (e : d.tabsL K h.get? = true) : TabSays d K h := fun g hg => by
  have z := all_of e hg
  split at z
  · rename_i p ep
    rw [Bool.and_eq_true] at z
    refine ⟨p, ep, ?_, fun g' hg' => ?_⟩
    · have z1 := z.1
      split at z1
      · rename_i o eo
        rw [eo, emptyTab_of z1]
      · cases z1
    · have z2 := all_of z.2 hg'
      rw [Bool.or_eq_true, beq_iff_eq] at z2
      refine z2.imp id fun z3 p' ep' => ?_
      rw [ep'] at z3
      simpa using z3
  · cases z
/-! ### the head's hook -/
abbrev AlW : Type := Bool × List He.FnW × List FnX
def obsW (prog : Program) (d : Desc) (K : PySem.W.Frag) : AlW := (d.chk K && d.chkX prog K && d.dd.all fun q => q.ok K, d.dd.map fun q => He.fnW K q.at_, d.xi.map fun z => fnX K z.2.1.at_)
def valW (d : Desc) : AlW := (true, d.dd.map He.DefD.val, d.xi.map fun z => valX z.2.1)
def SaysW (prog : Program) (d : Desc) (K : PySem.W.Frag) : Prop := obsW prog d K = valW d
def asW (n : Nat) (g : Addr → Option Obj) : List Addr := (cStatics :: He.asD g n).filter fun a => match g a with
  | some o => !emptyTab o
  | none => true
def obsWG (n : Nat) (prog : Program) (d : Desc) (g : Addr → Option Obj) : Bool × AlW := (d.tabsL (He.frG g (asW n g)) g, obsW prog d (He.frG g (asW n g)))
def hookW (n : Nat) (prog : Program) (d : Desc) : PySem.W.Hook where
  α := Bool × AlW
  obs := fun s => obsWG n prog d s.heap.get?
  val := fun _ => (true, valW d)
  says := fun _ h => ∃ K : PySem.W.Frag, K.In h ∧ SaysW prog d K ∧ TabSays d K h
  of := fun _ _ e => ⟨_, He.frG_in, congrArg (fun z : Bool × AlW => z.2) e, tabSays_of (congrArg (fun z : Bool × AlW => z.1) e)⟩
  keeps := fun _ _ _ ⟨K, hK, c, t⟩ k => ⟨K, PySem.W.Frag.In.keeps hK k, c, fun g hg => let ⟨p, e, o, u⟩ := t g hg; ⟨p, e, k _ _ o, u⟩⟩
def obW (n : Nat) (prog : Program) (d : Desc) (s : PySem.W.SharedT) : Bool × AlW := obsWG n prog d (HandSHeadRun.getT s)
theorem obW_eq {n : Nat} {prog : Program} {d : Desc} (s : PySem.W.SharedT) : obW n prog d s = (hookW n prog d).obs s.abs := by
  have e : HandSHeadRun.getT s = s.abs.heap.get? := funext (HandSHeadRun.getT_eq s)
  show obsWG n prog d _ = obsWG n prog d _
  rw [e]
theorem SaysW.c1 {prog : Program} {d : Desc} {K : PySem.W.Frag} (c : SaysW prog d K) : (d.chk K && d.chkX prog K && d.dd.all fun q => q.ok K) = true := congrArg (fun z : AlW => z.1) c
theorem SaysW.chk {prog : Program} {d : Desc} {K : PySem.W.Frag} (c : SaysW prog d K) : d.chk K = true := (Bool.and_eq_true_iff.mp (Bool.and_eq_true_iff.mp c.c1).1).1
theorem SaysW.chkX {prog : Program} {d : Desc} {K : PySem.W.Frag} (c : SaysW prog d K) : d.chkX prog K = true := (Bool.and_eq_true_iff.mp (Bool.and_eq_true_iff.mp c.c1).1).2
theorem SaysW.def_ {prog : Program} {d : Desc} {K : PySem.W.Frag} (c : SaysW prog d K) {i : Nat} {q : He.DefD} (h : d.dd[i]? = some q) : ∃ fd, FunD K q.name q.qual q.params q.body q.scope (q.dvs K) (q.kws K) (He.fAd K q.at_) fd := by
  have c2 := (Bool.and_eq_true_iff.mp c.c1).2
  have e : d.dd.map (fun q => He.fnW K q.at_) = d.dd.map He.DefD.val := congrArg (fun z : AlW => z.2.1) c
  have e2 : (d.dd.map fun q => He.fnW K q.at_)[i]? = (d.dd.map He.DefD.val)[i]? := by rw [e]
  rw [List.getElem?_map, List.getElem?_map, h] at e2
  exact He.DefD.funD (Option.some.inj e2) (List.all_eq_true.mp c2 q (List.mem_of_getElem? h))
theorem SaysW.fds {prog : Program} {d : Desc} {K : PySem.W.Frag} (c : SaysW prog d K) : ∃ fd : Nat → FuncData, ∀ (g : Nat) (q : He.DefD), d.dd[g]? = some q → FunD K q.name q.qual q.params q.body q.scope (q.dvs K) (q.kws K) (He.fAd K q.at_) (fd g) := by
  have z : ∀ g : Nat, ∃ f : FuncData, ∀ q : He.DefD, d.dd[g]? = some q → FunD K q.name q.qual q.params q.body q.scope (q.dvs K) (q.kws K) (He.fAd K q.at_) f := fun g => by
    cases e : d.dd[g]? with
    | none => exact ⟨default, fun q h => nomatch h⟩
    | some q =>
      obtain ⟨f, F⟩ := c.def_ e
      exact ⟨f, fun q' h => (Option.some.inj h) ▸ F⟩
  exact ⟨fun g => Classical.choose (z g), fun g q h => Classical.choose_spec (z g) q h⟩
theorem lam_t {K : PySem.W.Frag} {mg : Str → Option Value} {base h : Heap} {d : Desc} {fd : Nat → FuncData} (ts : TabSays d K h) (hbo : BodiesOk d.tab d.dd d.df d.N d.ps) (hfd : ∀ (g : Nat) (q : He.DefD), d.dd[g]? = some q → FunD K q.name q.qual q.params q.body q.scope (q.dvs K) (q.kws K) (He.fAd K q.at_) (fd g))
    (tb : ∀ p ∈ d.cs K, LamX.TabB base mg p.1 p.2) : LamT mg base (d.tb K) d.lf d.cd fd := fun g hg => by
  have hl : g ∈ d.lm := List.mem_filter.mpr ⟨List.mem_range.mpr (by
    unfold Desc.lf at hg
    split at hg
    · rename_i f e
      exact (List.getElem?_eq_some_iff.mp e).1
    · cases hg), hg⟩
  obtain ⟨f, hf⟩ : ∃ f, d.df[g]? = some f := by
    unfold Desc.lf at hg
    split at hg
    · rename_i f e
      exact ⟨f, e⟩
    · cases hg
  obtain ⟨⟨c, P⟩, ep, _, un⟩ := ts g hl
  obtain ⟨⟨oc, od, fd', sl, k1, k2⟩, k3, k4⟩ := tabOf_ok ep
  obtain ⟨q, N, ps, r1, r2, r3, _⟩ := hbo.at hf
  obtain ⟨_, _, _, _, _, _, _, _, _, _, _, lk, _⟩ := (hfd g q r1).ex
  have efa : d.fa K g = He.fAd K q.at_ := by unfold Desc.fa; rw [r1]
  rw [efa, lk] at k1
  have e1 : fd g = fd' := by
    have z := congrArg Obj.data (Option.some.inj k1)
    injection z
  have elq : d.lq g = (d.cd g).qual ++ ".<locals>." ++ "<lambda>" := by
    unfold Desc.lq
    rw [r1, Desc.cd_eq r1 r2 r3]
  refine ⟨c, P, by rw [e1]; exact k2, tb _ (List.mem_filterMap.mpr ⟨g, hl, ep⟩), List.mem_filterMap.mpr ⟨g, hl, by rw [ep, ← elq]; rfl⟩, fun p hp e => ?_⟩
  obtain ⟨g', hg', e'⟩ := List.mem_filterMap.mp hp
  obtain ⟨z, z1, z2⟩ := Option.map_eq_some_iff.mp e'
  rw [← z2] at e ⊢
  rcases un g' hg' with u | u
  · rw [← u]; exact elq
  · exact absurd e (u z z1)
/-- all that the walk asks, of the law at place g, at depth k + 4 -/
theorem finish {P : Program} {w : World} {K : PySem.W.Frag} {mg : Str → Option Value} {h : Heap} {d : Desc} {k g most : Nat} {fa : Addr} {CX : CXT} (hX : K.In h) (hG : h.Ns mainGlobals mg) (c : SaysW P d K) (ts : TabSays d K h) (hnd : d.tab.fld.Nodup) (ht : d.tabs = true) (hpl : PlOk d d.pl) (hkl : KlOk d d.kl) (hbo : BodiesOk d.tab d.dd d.df d.N d.ps) (htx : d.tabsX P = true) (hxi : XiOk d.xi)
    (hg : ∃ q, d.dd[g]? = some q ∧ q.at_ = (("law" : Str), (none : Option Str))) (hps : d.ps[g]? = some [("script" : Str)]) (hdf : (d.df[g]?).isSome = true) (hmg : mg ("law" : Str) = some (.ref fa)) (hpg : g ∈ d.pl) (hlaw : (("law" : Str), g) ∈ d.tab.fns)
    (law : ∀ ns : List Int, ns.length ≤ most → ∃ s1, callF d.prog (k + 4) g [.frl (ns.map .int)] ⟨[]⟩ = .ok (.bl true) s1) :
    ∃ (fd : FuncData) (cs : List (Addr × Addr)) (sp : Sp), (∀ p ∈ cs, h.get? p.2 = some { cls := .none, data := .fields #[] }) ∧ (∀ p ∈ cs, K.lookup p.2 = none) ∧ (∀ p ∈ cs, PySem.W.CodeHd h p.1 p.2) ∧ (∀ (s : Shared) (u : Value), BindsTo s fd ⟨[u], []⟩ [(("script" : Str), u)]) ∧
      (∀ (H : Hp) (a : Addr) (ns : List Int), ns.length ≤ most → (∀ z ∈ ns, Builtin.Int.intBits z ≤ 1048576) → (∀ p ∈ cs, H p.2 = some (.tbl #[])) → SqL K H a (ns.map V.int) → sp [.ref a] H (fun v _ => v = .bl true) fun _ _ _ => False) ∧
      ∀ base : Heap, K.In base → base.Ns mainGlobals mg → (∀ p ∈ cs, LamX.TabB base mg p.1 p.2) → FnOk P w K mg base CX (k + 4) fa fd [("script" : Str)] sp := by
  obtain ⟨fd, hfd⟩ := c.fds
  have Wh := Desc.whole (P := P) (w := w) hX hG hnd (Desc.says c.chk) ht hpl hkl hbo (Desc.raisable hX hG c.chkX htx hxi (congrArg (fun z : AlW => z.2.2) c)) fd hfd
  obtain ⟨q, e1, e2⟩ := hg
  obtain ⟨f, hf⟩ := Option.isSome_iff_exists.mp hdf
  obtain ⟨q', N, ps, r1, r2, r3, _⟩ := hbo.at hf
  rw [e1] at r1; cases r1
  rw [hps] at r3; cases r3
  have ecd : (d.cd g).ps = [("script" : Str)] := by rw [Desc.cd_eq e1 r2 hps]
  obtain ⟨q'', ps', b1, b2, b3, b4, b5⟩ := hpl.mem hpg
  rw [e1] at b1; cases b1
  rw [hps] at b2; cases b2
  have F := hfd g q e1
  have ed : q.dvs K = [] := by unfold He.DefD.dvs; rw [b3]; rfl
  rw [ed] at F
  have hb := FunD.bindsA (ps := [("script" : Str)]) F b5
  have hgl := ((Desc.says c.chk).fns _ hlaw).2
  have efa : d.fa K g = fa := by
    have z := PySem.W.mg_of hX hG hgl
    rw [hmg] at z
    cases z
    rfl
  have hcs : ∀ p ∈ d.cs K, ∃ g ∈ d.lm, tabOf d K g = some p := fun p hp => by
    obtain ⟨g', h1, h2⟩ := List.mem_filterMap.mp hp
    exact ⟨g', h1, h2⟩
  refine ⟨fd g, d.cs K, spL (d.tb K) d.prog (k + 4) g, fun p hp => ?_, fun p hp => ?_, fun p hp => ?_, fun s u => hb s [u] rfl, fun H a ns hn _ hT hS => ?_, fun base _ _ tb => ?_⟩
  · obtain ⟨g', h1, h2⟩ := hcs p hp
    obtain ⟨p', e, o, _⟩ := ts g' h1
    rw [h2] at e; cases e
    exact o
  · obtain ⟨g', h1, h2⟩ := hcs p hp
    exact (tabOf_ok (c := p.1) (P := p.2) h2).2.1
  · obtain ⟨g', h1, h2⟩ := hcs p hp
    exact (tabOf_ok (c := p.1) (P := p.2) h2).2.2 h hX
  · obtain ⟨s1, e⟩ := law ns hn
    exact law_sp hnd e hT hS
  · have z := lawOk (base := base) (B := d.tb K) (CX := CX) (fun l => Wh l) (lam_t ts hbo hfd tb) (k := k) (g := g) hdf
    rw [ecd] at z
    rw [← efa]
    exact z
end Ev

set_option linter.all false
set_option autoImplicit true
set_option relaxedAutoImplicit true
namespace Ev

theorem sx_k_e {C : Ev.C} {e : Env} {s : S} : (sem C (.k w)).e e s = .ok w s := Eq.trans rfl rfl
theorem sx_k_t {C : Ev.C} {e : Env} {s : S} : (sem C (.k w)).t e s = ((sem C (.k w)).e e s).bind fun x s1 => optR (truW s1 x) s1 := Eq.trans rfl rfl
theorem sx_k_n {C : Ev.C} {e : Env} {s : S} : (sem C (.k w)).n e s = ((sem C (.k w)).e e s).bind fun x s1 => optR (truW s1 x) s1 := Eq.trans rfl rfl
theorem sx_k_i {C : Ev.C} {e : Env} {s : S} : (sem C (.k w)).i e s = ((sem C (.k w)).e e s).bind fun x s1 => optR (srcW s1 x) s1 := Eq.trans rfl rfl
theorem sx_k_p {C : Ev.C} {e : Env} {s : S} : (sem C (.k w)).p e s = ((sem C (.k w)).e e s).bind fun x s1 => partW x s1 := Eq.trans rfl rfl
theorem sx_v_e {C : Ev.C} {e : Env} {s : S} : (sem C (.v i)).e e s = match e[i]? with
    | some (some w) => if isLam w then .fail else .ok w s
    | _ => .fail := Eq.trans rfl rfl
theorem sx_v_t {C : Ev.C} {e : Env} {s : S} : (sem C (.v i)).t e s = ((sem C (.v i)).e e s).bind fun x s1 => optR (truW s1 x) s1 := Eq.trans rfl rfl
theorem sx_v_n {C : Ev.C} {e : Env} {s : S} : (sem C (.v i)).n e s = ((sem C (.v i)).e e s).bind fun x s1 => optR (truW s1 x) s1 := Eq.trans rfl rfl
theorem sx_v_i {C : Ev.C} {e : Env} {s : S} : (sem C (.v i)).i e s = ((sem C (.v i)).e e s).bind fun x s1 => optR (srcW s1 x) s1 := Eq.trans rfl rfl
theorem sx_v_p {C : Ev.C} {e : Env} {s : S} : (sem C (.v i)).p e s = ((sem C (.v i)).e e s).bind fun x s1 => partW x s1 := Eq.trans rfl rfl
theorem sx_gl_e {C : Ev.C} {e : Env} {s : S} : (sem C (.gl z1 w)).e e s = .ok w s := Eq.trans rfl rfl
theorem sx_gl_t {C : Ev.C} {e : Env} {s : S} : (sem C (.gl z1 w)).t e s = ((sem C (.gl z1 w)).e e s).bind fun x s1 => optR (truW s1 x) s1 := Eq.trans rfl rfl
theorem sx_gl_n {C : Ev.C} {e : Env} {s : S} : (sem C (.gl z1 w)).n e s = ((sem C (.gl z1 w)).e e s).bind fun x s1 => optR (truW s1 x) s1 := Eq.trans rfl rfl
theorem sx_gl_i {C : Ev.C} {e : Env} {s : S} : (sem C (.gl z1 w)).i e s = ((sem C (.gl z1 w)).e e s).bind fun x s1 => optR (srcW s1 x) s1 := Eq.trans rfl rfl
theorem sx_gl_p {C : Ev.C} {e : Env} {s : S} : (sem C (.gl z1 w)).p e s = ((sem C (.gl z1 w)).e e s).bind fun x s1 => partW x s1 := Eq.trans rfl rfl
theorem sx_bin_e {C : Ev.C} {e : Env} {s : S} : (sem C (.bin o a b)).e e s = ((sem C a).e e s).bind fun x s1 => ((sem C b).e e s1).bind fun y s2 => binW s2 o x y := Eq.trans rfl rfl
theorem sx_bin_t {C : Ev.C} {e : Env} {s : S} : (sem C (.bin o a b)).t e s = ((sem C (.bin o a b)).e e s).bind fun x s1 => optR (truW s1 x) s1 := Eq.trans rfl rfl
theorem sx_bin_n {C : Ev.C} {e : Env} {s : S} : (sem C (.bin o a b)).n e s = ((sem C (.bin o a b)).e e s).bind fun x s1 => optR (truW s1 x) s1 := Eq.trans rfl rfl
theorem sx_bin_i {C : Ev.C} {e : Env} {s : S} : (sem C (.bin o a b)).i e s = ((sem C (.bin o a b)).e e s).bind fun x s1 => optR (srcW s1 x) s1 := Eq.trans rfl rfl
theorem sx_bin_p {C : Ev.C} {e : Env} {s : S} : (sem C (.bin o a b)).p e s = ((sem C (.bin o a b)).e e s).bind fun x s1 => partW x s1 := Eq.trans rfl rfl
theorem sx_not_e {C : Ev.C} {e : Env} {s : S} : (sem C (.not_ a)).e e s = ((sem C a).e e s).bind fun x s1 => (optR (truW s1 x) s1).bind fun k s2 => .ok (.bl (!k)) s2 := Eq.trans rfl rfl
theorem sx_not_t {C : Ev.C} {e : Env} {s : S} : (sem C (.not_ a)).t e s = ((sem C a).t e s).bind fun x s1 => .ok (!x) s1 := Eq.trans rfl rfl
theorem sx_not_n {C : Ev.C} {e : Env} {s : S} : (sem C (.not_ a)).n e s = (sem C (.not_ a)).t e s := Eq.trans rfl rfl
theorem sx_neg_e {C : Ev.C} {e : Env} {s : S} : (sem C (.neg a)).e e s = ((sem C a).e e s).bind fun x s1 => negW x s1 := Eq.trans rfl rfl
theorem sx_neg_t {C : Ev.C} {e : Env} {s : S} : (sem C (.neg a)).t e s = ((sem C (.neg a)).e e s).bind fun x s1 => optR (truW s1 x) s1 := Eq.trans rfl rfl
theorem sx_neg_n {C : Ev.C} {e : Env} {s : S} : (sem C (.neg a)).n e s = ((sem C (.neg a)).e e s).bind fun x s1 => optR (truW s1 x) s1 := Eq.trans rfl rfl
theorem sx_neg_i {C : Ev.C} {e : Env} {s : S} : (sem C (.neg a)).i e s = ((sem C (.neg a)).e e s).bind fun x s1 => optR (srcW s1 x) s1 := Eq.trans rfl rfl
theorem sx_neg_p {C : Ev.C} {e : Env} {s : S} : (sem C (.neg a)).p e s = ((sem C (.neg a)).e e s).bind fun x s1 => partW x s1 := Eq.trans rfl rfl
theorem sx_one_e {C : Ev.C} {e : Env} {s : S} : (sem C (.one a)).e e s = (sem C a).e e s := Eq.trans rfl rfl
theorem sx_one_t {C : Ev.C} {e : Env} {s : S} : (sem C (.one a)).t e s = (sem C a).t e s := Eq.trans rfl rfl
theorem sx_one_n {C : Ev.C} {e : Env} {s : S} : (sem C (.one a)).n e s = (sem C (.one a)).t e s := Eq.trans rfl rfl
theorem sx_and_e {C : Ev.C} {e : Env} {s : S} : (sem C (.and_ a b)).e e s = ((sem C a).e e s).bind fun x s1 => (optR (truW s1 x) s1).bind fun k s2 => if k then (sem C b).e e s2 else .ok x s2 := Eq.trans rfl rfl
theorem sx_and_t {C : Ev.C} {e : Env} {s : S} : (sem C (.and_ a b)).t e s = ((sem C a).t e s).bind fun x s1 => if x then (sem C b).t e s1 else .ok false s1 := Eq.trans rfl rfl
theorem sx_and_n {C : Ev.C} {e : Env} {s : S} : (sem C (.and_ a b)).n e s = (sem C (.and_ a b)).t e s := Eq.trans rfl rfl
theorem sx_or_e {C : Ev.C} {e : Env} {s : S} : (sem C (.or_ a b)).e e s = ((sem C a).e e s).bind fun x s1 => (optR (truW s1 x) s1).bind fun k s2 => if k then .ok x s2 else (sem C b).e e s2 := Eq.trans rfl rfl
theorem sx_or_t {C : Ev.C} {e : Env} {s : S} : (sem C (.or_ a b)).t e s = ((sem C a).t e s).bind fun x s1 => if x then .ok true s1 else (sem C b).t e s1 := Eq.trans rfl rfl
theorem sx_or_n {C : Ev.C} {e : Env} {s : S} : (sem C (.or_ a b)).n e s = (sem C (.or_ a b)).t e s := Eq.trans rfl rfl
theorem sx_ite_e {C : Ev.C} {e : Env} {s : S} : (sem C (.ite t a b)).e e s = ((sem C t).t e s).bind fun x s1 => if x then (sem C a).e e s1 else (sem C b).e e s1 := Eq.trans rfl rfl
theorem sx_ite_t {C : Ev.C} {e : Env} {s : S} : (sem C (.ite t a b)).t e s = ((sem C (.ite t a b)).e e s).bind fun x s1 => optR (truW s1 x) s1 := Eq.trans rfl rfl
theorem sx_ite_n {C : Ev.C} {e : Env} {s : S} : (sem C (.ite t a b)).n e s = ((sem C (.ite t a b)).e e s).bind fun x s1 => optR (truW s1 x) s1 := Eq.trans rfl rfl
theorem sx_ite_i {C : Ev.C} {e : Env} {s : S} : (sem C (.ite t a b)).i e s = ((sem C (.ite t a b)).e e s).bind fun x s1 => optR (srcW s1 x) s1 := Eq.trans rfl rfl
theorem sx_ite_p {C : Ev.C} {e : Env} {s : S} : (sem C (.ite t a b)).p e s = ((sem C (.ite t a b)).e e s).bind fun x s1 => partW x s1 := Eq.trans rfl rfl
theorem sx_cmp_e {C : Ev.C} {e : Env} {s : S} : (sem C (.cmp o a b)).e e s = ((sem C a).e e s).bind fun x s1 => ((sem C b).e e s1).bind fun y s2 => optR ((cmpW s2 o x y).map .bl) s2 := Eq.trans rfl rfl
theorem sx_cmp_t {C : Ev.C} {e : Env} {s : S} : (sem C (.cmp o a b)).t e s = ((sem C (.cmp o a b)).e e s).bind fun x s1 => optR (truW s1 x) s1 := Eq.trans rfl rfl
theorem sx_cmp_n {C : Ev.C} {e : Env} {s : S} : (sem C (.cmp o a b)).n e s = ((sem C (.cmp o a b)).e e s).bind fun x s1 => optR (truW s1 x) s1 := Eq.trans rfl rfl
theorem sx_cmp_i {C : Ev.C} {e : Env} {s : S} : (sem C (.cmp o a b)).i e s = ((sem C (.cmp o a b)).e e s).bind fun x s1 => optR (srcW s1 x) s1 := Eq.trans rfl rfl
theorem sx_cmp_p {C : Ev.C} {e : Env} {s : S} : (sem C (.cmp o a b)).p e s = ((sem C (.cmp o a b)).e e s).bind fun x s1 => partW x s1 := Eq.trans rfl rfl
theorem sx_cmp2_e {C : Ev.C} {e : Env} {s : S} : (sem C (.cmp2 o o' a b c)).e e s = ((sem C a).e e s).bind fun x s1 => ((sem C b).e e s1).bind fun y s2 => chainW (cmpW s2 o x y) s2 fun s2 => ((sem C c).e e s2).bind fun z s3 => optR ((cmpW s3 o' y z).map .bl) s3 := Eq.trans rfl rfl
theorem sx_cmp2_t {C : Ev.C} {e : Env} {s : S} : (sem C (.cmp2 o o' a b c)).t e s = ((sem C (.cmp2 o o' a b c)).e e s).bind fun x s1 => optR (truW s1 x) s1 := Eq.trans rfl rfl
theorem sx_cmp2_n {C : Ev.C} {e : Env} {s : S} : (sem C (.cmp2 o o' a b c)).n e s = ((sem C (.cmp2 o o' a b c)).e e s).bind fun x s1 => optR (truW s1 x) s1 := Eq.trans rfl rfl
theorem sx_cmp2_i {C : Ev.C} {e : Env} {s : S} : (sem C (.cmp2 o o' a b c)).i e s = ((sem C (.cmp2 o o' a b c)).e e s).bind fun x s1 => optR (srcW s1 x) s1 := Eq.trans rfl rfl
theorem sx_cmp2_p {C : Ev.C} {e : Env} {s : S} : (sem C (.cmp2 o o' a b c)).p e s = ((sem C (.cmp2 o o' a b c)).e e s).bind fun x s1 => partW x s1 := Eq.trans rfl rfl
theorem sx_call_e {C : Ev.C} {e : Env} {s : S} : (sem C (.call z1 g a)).e e s = ((sem C a).a e s).bind fun ws s1 => C.call g ws s1 := Eq.trans rfl rfl
theorem sx_call_t {C : Ev.C} {e : Env} {s : S} : (sem C (.call z1 g a)).t e s = ((sem C (.call z1 g a)).e e s).bind fun x s1 => optR (truW s1 x) s1 := Eq.trans rfl rfl
theorem sx_call_n {C : Ev.C} {e : Env} {s : S} : (sem C (.call z1 g a)).n e s = ((sem C (.call z1 g a)).e e s).bind fun x s1 => optR (truW s1 x) s1 := Eq.trans rfl rfl
theorem sx_call_i {C : Ev.C} {e : Env} {s : S} : (sem C (.call z1 g a)).i e s = ((sem C (.call z1 g a)).e e s).bind fun x s1 => optR (srcW s1 x) s1 := Eq.trans rfl rfl
theorem sx_call_p {C : Ev.C} {e : Env} {s : S} : (sem C (.call z1 g a)).p e s = ((sem C (.call z1 g a)).e e s).bind fun x s1 => partW x s1 := Eq.trans rfl rfl
theorem sx_callk_e {C : Ev.C} {e : Env} {s : S} : (sem C (.callk z1 g n a b ks ix ds)).e e s = ((sem C a).a e s).bind fun ws s1 => ((sem C b).a e s1).bind fun us s2 => pickW n ks ix ds ws us s2 fun vs s => C.call g vs s := Eq.trans rfl rfl
theorem sx_callk_t {C : Ev.C} {e : Env} {s : S} : (sem C (.callk z1 g n a b ks ix ds)).t e s = ((sem C (.callk z1 g n a b ks ix ds)).e e s).bind fun x s1 => optR (truW s1 x) s1 := Eq.trans rfl rfl
theorem sx_callk_n {C : Ev.C} {e : Env} {s : S} : (sem C (.callk z1 g n a b ks ix ds)).n e s = ((sem C (.callk z1 g n a b ks ix ds)).e e s).bind fun x s1 => optR (truW s1 x) s1 := Eq.trans rfl rfl
theorem sx_callk_i {C : Ev.C} {e : Env} {s : S} : (sem C (.callk z1 g n a b ks ix ds)).i e s = ((sem C (.callk z1 g n a b ks ix ds)).e e s).bind fun x s1 => optR (srcW s1 x) s1 := Eq.trans rfl rfl
theorem sx_callk_p {C : Ev.C} {e : Env} {s : S} : (sem C (.callk z1 g n a b ks ix ds)).p e s = ((sem C (.callk z1 g n a b ks ix ds)).e e s).bind fun x s1 => partW x s1 := Eq.trans rfl rfl
theorem sx_mkk_e {C : Ev.C} {e : Env} {s : S} : (sem C (.mkk z1 c n a b ks ix ds)).e e s = ((sem C a).a e s).bind fun ws s1 => ((sem C b).a e s1).bind fun us s2 => pickW n ks ix ds ws us s2 fun vs s => mkW C c vs s := Eq.trans rfl rfl
theorem sx_mkk_t {C : Ev.C} {e : Env} {s : S} : (sem C (.mkk z1 c n a b ks ix ds)).t e s = ((sem C (.mkk z1 c n a b ks ix ds)).e e s).bind fun x s1 => optR (truW s1 x) s1 := Eq.trans rfl rfl
theorem sx_mkk_n {C : Ev.C} {e : Env} {s : S} : (sem C (.mkk z1 c n a b ks ix ds)).n e s = ((sem C (.mkk z1 c n a b ks ix ds)).e e s).bind fun x s1 => optR (truW s1 x) s1 := Eq.trans rfl rfl
theorem sx_mkk_i {C : Ev.C} {e : Env} {s : S} : (sem C (.mkk z1 c n a b ks ix ds)).i e s = ((sem C (.mkk z1 c n a b ks ix ds)).e e s).bind fun x s1 => optR (srcW s1 x) s1 := Eq.trans rfl rfl
theorem sx_mkk_p {C : Ev.C} {e : Env} {s : S} : (sem C (.mkk z1 c n a b ks ix ds)).p e s = ((sem C (.mkk z1 c n a b ks ix ds)).e e s).bind fun x s1 => partW x s1 := Eq.trans rfl rfl
theorem sx_methk_e {C : Ev.C} {e : Env} {s : S} : (sem C (.methk o m n a b ks ix ds)).e e s = ((sem C o).e e s).bind fun x s1 => match methOf C x m s1 with
    | some g => ((sem C a).a e s1).bind fun ws s2 => ((sem C b).a e s2).bind fun us s3 => pickW n ks ix ds ws us s3 fun vs s => C.call g (x :: vs) s
    | none => .fail := Eq.trans rfl rfl
theorem sx_methk_t {C : Ev.C} {e : Env} {s : S} : (sem C (.methk o m n a b ks ix ds)).t e s = ((sem C (.methk o m n a b ks ix ds)).e e s).bind fun x s1 => optR (truW s1 x) s1 := Eq.trans rfl rfl
theorem sx_methk_n {C : Ev.C} {e : Env} {s : S} : (sem C (.methk o m n a b ks ix ds)).n e s = ((sem C (.methk o m n a b ks ix ds)).e e s).bind fun x s1 => optR (truW s1 x) s1 := Eq.trans rfl rfl
theorem sx_methk_i {C : Ev.C} {e : Env} {s : S} : (sem C (.methk o m n a b ks ix ds)).i e s = ((sem C (.methk o m n a b ks ix ds)).e e s).bind fun x s1 => optR (srcW s1 x) s1 := Eq.trans rfl rfl
theorem sx_methk_p {C : Ev.C} {e : Env} {s : S} : (sem C (.methk o m n a b ks ix ds)).p e s = ((sem C (.methk o m n a b ks ix ds)).e e s).bind fun x s1 => partW x s1 := Eq.trans rfl rfl
theorem sx_mk_e {C : Ev.C} {e : Env} {s : S} : (sem C (.mk z1 c a)).e e s = ((sem C a).a e s).bind fun ws s1 => mkW C c ws s1 := Eq.trans rfl rfl
theorem sx_mk_t {C : Ev.C} {e : Env} {s : S} : (sem C (.mk z1 c a)).t e s = ((sem C (.mk z1 c a)).e e s).bind fun x s1 => optR (truW s1 x) s1 := Eq.trans rfl rfl
theorem sx_mk_n {C : Ev.C} {e : Env} {s : S} : (sem C (.mk z1 c a)).n e s = ((sem C (.mk z1 c a)).e e s).bind fun x s1 => optR (truW s1 x) s1 := Eq.trans rfl rfl
theorem sx_mk_i {C : Ev.C} {e : Env} {s : S} : (sem C (.mk z1 c a)).i e s = ((sem C (.mk z1 c a)).e e s).bind fun x s1 => optR (srcW s1 x) s1 := Eq.trans rfl rfl
theorem sx_mk_p {C : Ev.C} {e : Env} {s : S} : (sem C (.mk z1 c a)).p e s = ((sem C (.mk z1 c a)).e e s).bind fun x s1 => partW x s1 := Eq.trans rfl rfl
theorem sx_meth_e {C : Ev.C} {e : Env} {s : S} : (sem C (.meth o m a)).e e s = ((sem C o).e e s).bind fun x s1 => match methOf C x m s1 with
    | some g => ((sem C a).a e s1).bind fun ws s2 => C.call g (x :: ws) s2
    | none => .fail := Eq.trans rfl rfl
theorem sx_meth_t {C : Ev.C} {e : Env} {s : S} : (sem C (.meth o m a)).t e s = ((sem C (.meth o m a)).e e s).bind fun x s1 => optR (truW s1 x) s1 := Eq.trans rfl rfl
theorem sx_meth_n {C : Ev.C} {e : Env} {s : S} : (sem C (.meth o m a)).n e s = ((sem C (.meth o m a)).e e s).bind fun x s1 => optR (truW s1 x) s1 := Eq.trans rfl rfl
theorem sx_meth_i {C : Ev.C} {e : Env} {s : S} : (sem C (.meth o m a)).i e s = ((sem C (.meth o m a)).e e s).bind fun x s1 => optR (srcW s1 x) s1 := Eq.trans rfl rfl
theorem sx_meth_p {C : Ev.C} {e : Env} {s : S} : (sem C (.meth o m a)).p e s = ((sem C (.meth o m a)).e e s).bind fun x s1 => partW x s1 := Eq.trans rfl rfl
theorem sx_attr_e {C : Ev.C} {e : Env} {s : S} : (sem C (.attr o f)).e e s = ((sem C o).e e s).bind fun x s1 => attrW C s1 x f := Eq.trans rfl rfl
theorem sx_attr_t {C : Ev.C} {e : Env} {s : S} : (sem C (.attr o f)).t e s = ((sem C (.attr o f)).e e s).bind fun x s1 => optR (truW s1 x) s1 := Eq.trans rfl rfl
theorem sx_attr_n {C : Ev.C} {e : Env} {s : S} : (sem C (.attr o f)).n e s = ((sem C (.attr o f)).e e s).bind fun x s1 => optR (truW s1 x) s1 := Eq.trans rfl rfl
theorem sx_attr_i {C : Ev.C} {e : Env} {s : S} : (sem C (.attr o f)).i e s = ((sem C (.attr o f)).e e s).bind fun x s1 => optR (srcW s1 x) s1 := Eq.trans rfl rfl
theorem sx_attr_p {C : Ev.C} {e : Env} {s : S} : (sem C (.attr o f)).p e s = ((sem C (.attr o f)).e e s).bind fun x s1 => partW x s1 := Eq.trans rfl rfl
theorem sx_sub_e {C : Ev.C} {e : Env} {s : S} : (sem C (.sub o i)).e e s = ((sem C o).e e s).bind fun x s1 => ((sem C i).e e s1).bind fun y s2 => subW s2 x y := Eq.trans rfl rfl
theorem sx_sub_t {C : Ev.C} {e : Env} {s : S} : (sem C (.sub o i)).t e s = ((sem C (.sub o i)).e e s).bind fun x s1 => optR (truW s1 x) s1 := Eq.trans rfl rfl
theorem sx_sub_n {C : Ev.C} {e : Env} {s : S} : (sem C (.sub o i)).n e s = ((sem C (.sub o i)).e e s).bind fun x s1 => optR (truW s1 x) s1 := Eq.trans rfl rfl
theorem sx_sub_i {C : Ev.C} {e : Env} {s : S} : (sem C (.sub o i)).i e s = ((sem C (.sub o i)).e e s).bind fun x s1 => optR (srcW s1 x) s1 := Eq.trans rfl rfl
theorem sx_sub_p {C : Ev.C} {e : Env} {s : S} : (sem C (.sub o i)).p e s = ((sem C (.sub o i)).e e s).bind fun x s1 => partW x s1 := Eq.trans rfl rfl
theorem sx_slice_e {C : Ev.C} {e : Env} {s : S} : (sem C (.slice o lo hi)).e e s = ((sem C o).e e s).bind fun x s1 => ((sem C lo).p e s1).bind fun l s2 => ((sem C hi).p e s2).bind fun h s3 => sliceW s3 x l h := Eq.trans rfl rfl
theorem sx_slice_t {C : Ev.C} {e : Env} {s : S} : (sem C (.slice o lo hi)).t e s = ((sem C (.slice o lo hi)).e e s).bind fun x s1 => optR (truW s1 x) s1 := Eq.trans rfl rfl
theorem sx_slice_n {C : Ev.C} {e : Env} {s : S} : (sem C (.slice o lo hi)).n e s = ((sem C (.slice o lo hi)).e e s).bind fun x s1 => optR (truW s1 x) s1 := Eq.trans rfl rfl
theorem sx_slice_i {C : Ev.C} {e : Env} {s : S} : (sem C (.slice o lo hi)).i e s = ((sem C (.slice o lo hi)).e e s).bind fun x s1 => optR (srcW s1 x) s1 := Eq.trans rfl rfl
theorem sx_slice_p {C : Ev.C} {e : Env} {s : S} : (sem C (.slice o lo hi)).p e s = ((sem C (.slice o lo hi)).e e s).bind fun x s1 => partW x s1 := Eq.trans rfl rfl
theorem sx_tup_e {C : Ev.C} {e : Env} {s : S} : (sem C (.tup a)).e e s = ((sem C a).a e s).bind fun ws s1 => if ws.length ≤ lim then .ok (.tup ws) s1 else .fail := Eq.trans rfl rfl
theorem sx_tup_t {C : Ev.C} {e : Env} {s : S} : (sem C (.tup a)).t e s = ((sem C (.tup a)).e e s).bind fun x s1 => optR (truW s1 x) s1 := Eq.trans rfl rfl
theorem sx_tup_n {C : Ev.C} {e : Env} {s : S} : (sem C (.tup a)).n e s = ((sem C (.tup a)).e e s).bind fun x s1 => optR (truW s1 x) s1 := Eq.trans rfl rfl
theorem sx_tup_i {C : Ev.C} {e : Env} {s : S} : (sem C (.tup a)).i e s = ((sem C (.tup a)).e e s).bind fun x s1 => optR (srcW s1 x) s1 := Eq.trans rfl rfl
theorem sx_tup_p {C : Ev.C} {e : Env} {s : S} : (sem C (.tup a)).p e s = ((sem C (.tup a)).e e s).bind fun x s1 => partW x s1 := Eq.trans rfl rfl
theorem sx_lst_e {C : Ev.C} {e : Env} {s : S} : (sem C (.lst a)).e e s = ((sem C a).a e s).bind fun ws s1 => if ws.length ≤ lim then .ok (.lst ws) s1 else .fail := Eq.trans rfl rfl
theorem sx_lst_t {C : Ev.C} {e : Env} {s : S} : (sem C (.lst a)).t e s = ((sem C (.lst a)).e e s).bind fun x s1 => optR (truW s1 x) s1 := Eq.trans rfl rfl
theorem sx_lst_n {C : Ev.C} {e : Env} {s : S} : (sem C (.lst a)).n e s = ((sem C (.lst a)).e e s).bind fun x s1 => optR (truW s1 x) s1 := Eq.trans rfl rfl
theorem sx_lst_i {C : Ev.C} {e : Env} {s : S} : (sem C (.lst a)).i e s = ((sem C (.lst a)).e e s).bind fun x s1 => optR (srcW s1 x) s1 := Eq.trans rfl rfl
theorem sx_lst_p {C : Ev.C} {e : Env} {s : S} : (sem C (.lst a)).p e s = ((sem C (.lst a)).e e s).bind fun x s1 => partW x s1 := Eq.trans rfl rfl
theorem sx_mls_e {C : Ev.C} {e : Env} {s : S} : (sem C (.mls a)).e e s = ((sem C a).a e s).bind fun ws s1 => if ws.length ≤ lim then .ok (.ref s1.size) (s1.new (.lst ws)) else .fail := Eq.trans rfl rfl
theorem sx_mls_t {C : Ev.C} {e : Env} {s : S} : (sem C (.mls a)).t e s = ((sem C (.mls a)).e e s).bind fun x s1 => optR (truW s1 x) s1 := Eq.trans rfl rfl
theorem sx_mls_n {C : Ev.C} {e : Env} {s : S} : (sem C (.mls a)).n e s = ((sem C (.mls a)).e e s).bind fun x s1 => optR (truW s1 x) s1 := Eq.trans rfl rfl
theorem sx_mls_i {C : Ev.C} {e : Env} {s : S} : (sem C (.mls a)).i e s = ((sem C (.mls a)).e e s).bind fun x s1 => optR (srcW s1 x) s1 := Eq.trans rfl rfl
theorem sx_mls_p {C : Ev.C} {e : Env} {s : S} : (sem C (.mls a)).p e s = ((sem C (.mls a)).e e s).bind fun x s1 => partW x s1 := Eq.trans rfl rfl
theorem sx_comp_e {C : Ev.C} {e : Env} {s : S} : (sem C (.comp p elt it cnd)).e e s = ((sem C it).i e s).bind fun src s1 =>
      compL (fun w s => putP s p [w] (wipeE e p.ix)) (fun e s => (sem C cnd).n e s) (fun e s => (sem C elt).e e s) src C.wf 0 [] s1 := Eq.trans rfl rfl
theorem sx_comp_t {C : Ev.C} {e : Env} {s : S} : (sem C (.comp p elt it cnd)).t e s = ((sem C (.comp p elt it cnd)).e e s).bind fun x s1 => optR (truW s1 x) s1 := Eq.trans rfl rfl
theorem sx_comp_n {C : Ev.C} {e : Env} {s : S} : (sem C (.comp p elt it cnd)).n e s = ((sem C (.comp p elt it cnd)).e e s).bind fun x s1 => optR (truW s1 x) s1 := Eq.trans rfl rfl
theorem sx_comp_i {C : Ev.C} {e : Env} {s : S} : (sem C (.comp p elt it cnd)).i e s = ((sem C (.comp p elt it cnd)).e e s).bind fun x s1 => optR (srcW s1 x) s1 := Eq.trans rfl rfl
theorem sx_comp_p {C : Ev.C} {e : Env} {s : S} : (sem C (.comp p elt it cnd)).p e s = ((sem C (.comp p elt it cnd)).e e s).bind fun x s1 => partW x s1 := Eq.trans rfl rfl
theorem sx_bi_e {C : Ev.C} {e : Env} {s : S} : (sem C (.bi b a)).e e s = ((sem C a).a e s).bind fun ws s1 => biW s1 b ws := Eq.trans rfl rfl
theorem sx_bi_t {C : Ev.C} {e : Env} {s : S} : (sem C (.bi b a)).t e s = ((sem C (.bi b a)).e e s).bind fun x s1 => optR (truW s1 x) s1 := Eq.trans rfl rfl
theorem sx_bi_n {C : Ev.C} {e : Env} {s : S} : (sem C (.bi b a)).n e s = ((sem C (.bi b a)).e e s).bind fun x s1 => optR (truW s1 x) s1 := Eq.trans rfl rfl
theorem sx_bi_i {C : Ev.C} {e : Env} {s : S} : (sem C (.bi b a)).i e s = ((sem C (.bi b a)).e e s).bind fun x s1 => optR (srcW s1 x) s1 := Eq.trans rfl rfl
theorem sx_bi_p {C : Ev.C} {e : Env} {s : S} : (sem C (.bi b a)).p e s = ((sem C (.bi b a)).e e s).bind fun x s1 => partW x s1 := Eq.trans rfl rfl
theorem sx_isin_e {C : Ev.C} {e : Env} {s : S} : (sem C (.isin x ts z1)).e e s = ((sem C x).e e s).bind fun w s1 => optR ((isMany C s1 w ts).map .bl) s1 := Eq.trans rfl rfl
theorem sx_isin_t {C : Ev.C} {e : Env} {s : S} : (sem C (.isin x ts z1)).t e s = ((sem C (.isin x ts z1)).e e s).bind fun x s1 => optR (truW s1 x) s1 := Eq.trans rfl rfl
theorem sx_isin_n {C : Ev.C} {e : Env} {s : S} : (sem C (.isin x ts z1)).n e s = ((sem C (.isin x ts z1)).e e s).bind fun x s1 => optR (truW s1 x) s1 := Eq.trans rfl rfl
theorem sx_isin_i {C : Ev.C} {e : Env} {s : S} : (sem C (.isin x ts z1)).i e s = ((sem C (.isin x ts z1)).e e s).bind fun x s1 => optR (srcW s1 x) s1 := Eq.trans rfl rfl
theorem sx_isin_p {C : Ev.C} {e : Env} {s : S} : (sem C (.isin x ts z1)).p e s = ((sem C (.isin x ts z1)).e e s).bind fun x s1 => partW x s1 := Eq.trans rfl rfl
theorem sx_sm_e {C : Ev.C} {e : Env} {s : S} : (sem C (.sm m o a)).e e s = ((sem C o).e e s).bind fun x s1 => if smOk s1 m x = true then ((sem C a).a e s1).bind fun ws s2 => smW s2 m x ws else .fail := Eq.trans rfl rfl
theorem sx_sm_t {C : Ev.C} {e : Env} {s : S} : (sem C (.sm m o a)).t e s = ((sem C (.sm m o a)).e e s).bind fun x s1 => optR (truW s1 x) s1 := Eq.trans rfl rfl
theorem sx_sm_n {C : Ev.C} {e : Env} {s : S} : (sem C (.sm m o a)).n e s = ((sem C (.sm m o a)).e e s).bind fun x s1 => optR (truW s1 x) s1 := Eq.trans rfl rfl
theorem sx_sm_i {C : Ev.C} {e : Env} {s : S} : (sem C (.sm m o a)).i e s = ((sem C (.sm m o a)).e e s).bind fun x s1 => optR (srcW s1 x) s1 := Eq.trans rfl rfl
theorem sx_sm_p {C : Ev.C} {e : Env} {s : S} : (sem C (.sm m o a)).p e s = ((sem C (.sm m o a)).e e s).bind fun x s1 => partW x s1 := Eq.trans rfl rfl
theorem sx_hear_e {C : Ev.C} {e : Env} {s : S} : (sem C (.hear z1 g b z2)).e e s = if noLam e then C.hear g (fun s => (sem C.lower b).e e s) s else .fail := Eq.trans rfl rfl
theorem sx_hear_t {C : Ev.C} {e : Env} {s : S} : (sem C (.hear z1 g b z2)).t e s = ((sem C (.hear z1 g b z2)).e e s).bind fun x s1 => optR (truW s1 x) s1 := Eq.trans rfl rfl
theorem sx_hear_n {C : Ev.C} {e : Env} {s : S} : (sem C (.hear z1 g b z2)).n e s = ((sem C (.hear z1 g b z2)).e e s).bind fun x s1 => optR (truW s1 x) s1 := Eq.trans rfl rfl
theorem sx_hear_i {C : Ev.C} {e : Env} {s : S} : (sem C (.hear z1 g b z2)).i e s = ((sem C (.hear z1 g b z2)).e e s).bind fun x s1 => optR (srcW s1 x) s1 := Eq.trans rfl rfl
theorem sx_hear_p {C : Ev.C} {e : Env} {s : S} : (sem C (.hear z1 g b z2)).p e s = ((sem C (.hear z1 g b z2)).e e s).bind fun x s1 => partW x s1 := Eq.trans rfl rfl
theorem sx_dct_e {C : Ev.C} {e : Env} {s : S} : (sem C (.dct z1 z2)).e e s = .ok .dct s := Eq.trans rfl rfl
theorem sx_dct_t {C : Ev.C} {e : Env} {s : S} : (sem C (.dct z1 z2)).t e s = ((sem C (.dct z1 z2)).e e s).bind fun x s1 => optR (truW s1 x) s1 := Eq.trans rfl rfl
theorem sx_dct_n {C : Ev.C} {e : Env} {s : S} : (sem C (.dct z1 z2)).n e s = ((sem C (.dct z1 z2)).e e s).bind fun x s1 => optR (truW s1 x) s1 := Eq.trans rfl rfl
theorem sx_dct_i {C : Ev.C} {e : Env} {s : S} : (sem C (.dct z1 z2)).i e s = ((sem C (.dct z1 z2)).e e s).bind fun x s1 => optR (srcW s1 x) s1 := Eq.trans rfl rfl
theorem sx_dct_p {C : Ev.C} {e : Env} {s : S} : (sem C (.dct z1 z2)).p e s = ((sem C (.dct z1 z2)).e e s).bind fun x s1 => partW x s1 := Eq.trans rfl rfl
theorem sx_rng_i {C : Ev.C} {e : Env} {s : S} : (sem C (.rng a)).i e s = ((sem C a).a e s).bind fun ws s1 => rngW ws s1 := Eq.trans rfl rfl
theorem sx_enum_i {C : Ev.C} {e : Env} {s : S} : (sem C (.enum a)).i e s = ((sem C a).e e s).bind fun x s1 => enumW x s1 := Eq.trans rfl rfl
theorem sx_nil_a {C : Ev.C} {e : Env} {s : S} : (sem C (.nil)).a e s = .ok [] s := Eq.trans rfl rfl
theorem sx_nil_n {C : Ev.C} {e : Env} {s : S} : (sem C (.nil)).n e s = .ok true s := Eq.trans rfl rfl
theorem sx_nil_p {C : Ev.C} {e : Env} {s : S} : (sem C (.nil)).p e s = .ok none s := Eq.trans rfl rfl
theorem sx_cons_a {C : Ev.C} {e : Env} {s : S} : (sem C (.cons a b)).a e s = ((sem C a).e e s).bind fun x s1 => ((sem C b).a e s1).bind fun xs s2 => .ok (x :: xs) s2 := Eq.trans rfl rfl
theorem b_ok {a : α} {s : S} {f : α → S → R β} : R.bind (.ok a s) f = f a s := Eq.trans rfl rfl
theorem b_exc {s : S} {f : α → S → R β} : R.bind (.exc c fs s) f = .exc c fs s := Eq.trans rfl rfl
theorem l_ok {a : α} {s : S} {e : Env} {f : α → S → RS} : lift (.ok a s) e f = f a s := Eq.trans rfl rfl
theorem l_exc {s : S} {e : Env} {f : α → S → RS} : lift (.exc c fs s) e f = .exc c fs e s := Eq.trans rfl rfl
theorem t_nx {e : Env} {s : S} {f : Env → S → RS} : RS.thn (.ok (.nx e) s) f = f e s := Eq.trans rfl rfl
theorem t_rt {w : W} {s : S} {f : Env → S → RS} : RS.thn (.ok (.rt w) s) f = .ok (.rt w) s := Eq.trans rfl rfl
theorem t_exc {e : Env} {s : S} {f : Env → S → RS} : RS.thn (.exc c fs e s) f = .exc c fs e s := Eq.trans rfl rfl
theorem c_ok {a : α} {s : S} : R.calm (.ok a s) = .ok a s := Eq.trans rfl rfl
theorem o_some {a : α} {s : S} : optR (some a) s = .ok a s := rfl
theorem bind_cg {r r' : R α} {f : α → S → R β} (h : r = r') : R.bind r f = R.bind r' f := by rw [h]
theorem lift_cg {r r' : R α} {e : Env} {f : α → S → RS} (h : r = r') : lift r e f = lift r' e f := by rw [h]
theorem thn_cg {r r' : RS} {f : Env → S → RS} (h : r = r') : RS.thn r f = RS.thn r' f := by rw [h]
end Ev

set_option autoImplicit false
set_option maxRecDepth 100000
namespace Law
open PySem Ev
def t_law0 : T :=
 (.cons (.asg (.pt (.n 9)) (.call "_law_bad" 11 (.cons (.v 8) .nil)))
 (.cons (.ite (.cmp .ne (.hear "_law_heard" 9 (.call "read_course" 5 (.cons (.v 8) .nil)) false) (.ite (.cmp .isnot (.v 9) (.k (.non))) (.v 9) (.lst (.cons (.ite (.cmp .ne (.v 8) (.k (.str ""))) (.bi .tuple (.cons (.sm .split (.v 8) (.cons (.k (.str " ")) .nil)) .nil)) (.tup .nil)) .nil)))) (.cons (.ret (.k (.bl false)))
 .nil) .nil)
 .nil))
def t_law1 : T :=
 (.cons (.asg (.pt (.n 3)) (.bin .mul (.call "_law_course" 10 (.cons (.v 1) (.cons (.k (.int 9)) .nil))) (.call "_law_pick" 8 (.cons (.v 1) (.cons (.lst (.cons (.k (.int 1)) (.cons (.k (.int 1)) (.cons (.k (.int 500)) .nil)))) .nil)))))
 (.cons (.asg (.pt (.n 4)) (.sm .join (.k (.str " ")) (.cons (.v 3) .nil)))
 (.cons (.ite (.or_ (.cmp .ne (.lst (.cons (.call "course_text" 4 (.cons (.bi .list (.cons (.v 3) .nil)) .nil)) (.cons (.callk "course_text" 4 0 .nil (.cons (.v 3) .nil) ["course"] [0] []) .nil))) (.bin .mul (.lst (.cons (.v 4) .nil)) (.k (.int 2)))) (.or_ (.cmp .ne (.call "read_course" 5 (.cons (.v 4) .nil)) (.v 3)) (.or_ (.cmp .ne (.callk "read_course" 5 0 .nil (.cons (.v 4) .nil) ["text"] [0] []) (.v 3)) (.one (.not_ (.isin (.call "read_course" 5 (.cons (.v 4) .nil)) [.b "tuple"] false)))))) (.cons (.ret (.k (.bl false)))
 .nil) .nil)
 (.cons (.asg (.pt (.n 5)) (.sm .split (.v 4) (.cons (.k (.str " ")) .nil)))
 (.cons (.asg (.pt (.n 6)) (.call "_law_draw" 7 (.cons (.v 1) (.cons (.bi .len (.cons (.v 5) .nil)) .nil))))
 (.cons (.asg (.pt (.n 7)) (.call "_law_pick" 8 (.cons (.v 1) (.cons (.lst (.cons (.k (.str "")) (.cons (.k (.str "Yes")) (.cons (.k (.str "y")) (.cons (.k (.str "none")) (.cons (.k (.str "1")) (.cons (.k (.str "yes")) (.cons (.k (.str "no")) (.cons (.k (.str "yes\nno")) (.cons (.k (.str " yes")) (.cons (.k (.str "no ")) .nil))))))))))) .nil))))
 (.cons (.for_ (.n 8) (.tup (.cons (.sm .join (.k (.str " ")) (.cons (.bin .add (.bin .add (.slice (.v 5) .nil (.v 6)) (.lst (.cons (.v 7) .nil))) (.slice (.v 5) (.v 6) .nil)) .nil)) (.cons (.sm .join (.k (.str " ")) (.cons (.bin .add (.bin .add (.slice (.v 5) .nil (.v 6)) (.lst (.cons (.v 7) .nil))) (.slice (.v 5) (.bin .add (.v 6) (.k (.int 1))) .nil)) .nil)) (.cons (.bin .add (.v 4) (.k (.str "\n"))) (.cons (.bin .add (.k (.str "\n")) (.v 4)) (.cons (.bin .add (.k (.str " ")) (.v 4)) .nil)))))) t_law0)
 (.cons (.asg (.pt (.n 10)) (.call "_law_pick" 8 (.cons (.v 1) (.cons (.lst (.cons (.k (.non)) (.cons (.k (.int 5)) (.cons (.k (.str "yes")) (.cons (.lst (.cons (.k (.str "yes")) (.cons (.k (.non)) .nil))) (.cons (.tup (.cons (.k (.str "Yes")) .nil)) (.cons (.dct "yes" 1) (.cons (.lst (.cons (.k (.bl true)) .nil)) (.cons (.lst (.cons (.k (.str "yes")) (.cons (.lst (.cons (.k (.str "no")) .nil)) .nil))) .nil))))))))) .nil))))
 (.cons (.asg (.pt (.n 11)) (.call "_law_pick" 8 (.cons (.v 1) (.cons (.lst (.cons (.k (.non)) (.cons (.k (.int 5)) (.cons (.tup (.cons (.k (.str "yes")) .nil)) (.cons (.k (.bl true)) .nil))))) .nil))))
 (.cons (.ite (.cmp .ne (.lst (.cons (.hear "_law_heard" 9 (.call "course_text" 4 (.cons (.v 10) .nil)) false) (.cons (.hear "_law_heard" 9 (.call "read_course" 5 (.cons (.v 11) .nil)) true) .nil))) (.lst (.cons (.tup (.cons (.k (.str "part")) (.cons (.k (.str "course")) .nil))) (.cons (.tup (.cons (.k (.str "text")) (.cons (.k (.int 0)) (.cons (.k (.int 0)) .nil)))) .nil)))) (.cons (.ret (.k (.bl false)))
 .nil) .nil)
 .nil))))))))))
/-- ('_wall', None) -/
def t0 : T :=
 (.cons (.whl (.k (.bl true)) (.cons .pass
 .nil))
 .nil)
/-- ('is_listed', None) -/
def t1 : T :=
 (.cons (.ret (.isin (.v 0) [.b "list", .b "tuple"] true))
 .nil)
/-- ('is_course', None) -/
def t2 : T :=
 (.cons (.ret (.and_ (.call "is_listed" 1 (.cons (.v 0) .nil)) (.one (.bi .all (.cons (.comp (.n 1) (.and_ (.isin (.v 1) [.b "str"] false) (.one (.cmp .in_ (.v 1) (.gl "ANSWERS" (.tup [.str "yes", .str "no"]))))) (.v 0) .nil) .nil)))))
 .nil)
/-- ('lines_of', None) -/
def t3 : T :=
 (.cons (.ite (.not_ (.isin (.v 0) [.b "str"] false)) (.cons (.raise "BadText" 11 (.cons (.k (.int 0)) (.cons (.k (.int 0)) .nil)))
 .nil) .nil)
 (.cons (.ret (.mkk "Lines" 16 1 (.cons (.comp (.t (.cons (.n 1) (.cons (.n 2) .nil))) (.mk "Line" 15 (.cons (.v 1) (.cons (.sm .split (.v 2) (.cons (.k (.str " ")) .nil)) .nil))) (.enum (.sm .split (.v 0) (.cons (.k (.str "\n")) .nil))) .nil) .nil) .nil [] [0, 1] [.int 0]))
 .nil))
/-- ('course_text', None) -/
def t4 : T :=
 (.cons (.ite (.not_ (.call "is_course" 2 (.cons (.v 0) .nil))) (.cons (.raise "BadCourse" 6 (.cons (.k (.str "course")) .nil))
 .nil) .nil)
 (.cons (.ret (.sm .join (.k (.str " ")) (.cons (.v 0) .nil)))
 .nil))
/-- ('read_course', None) -/
def t5 : T :=
 (.cons (.ite (.cmp .eq (.v 0) (.k (.str ""))) (.cons (.ret (.tup .nil))
 .nil) .nil)
 (.cons (.asg (.pt (.n 1)) (.call "lines_of" 3 (.cons (.v 0) .nil)))
 (.cons (.asg (.pt (.t (.cons (.n 2) (.cons (.n 3) .nil)))) (.tup (.cons (.meth (.v 1) "take_line" .nil) (.cons (.mls .nil) .nil))))
 (.cons (.whl (.not_ (.meth (.v 2) "is_read" .nil)) (.cons (.ex (.sm .append (.v 3) (.cons (.meth (.v 2) "need_one_of" (.cons (.gl "ANSWERS" (.tup [.str "yes", .str "no"])) .nil)) .nil)))
 .nil))
 (.cons (.ite (.not_ (.meth (.v 1) "is_read" .nil)) (.cons (.raise "BadText" 11 (.cons (.k (.int 1)) (.cons (.k (.int 0)) .nil)))
 .nil) .nil)
 (.cons (.ret (.bi .tuple (.cons (.v 3) .nil)))
 .nil))))))
/-- ('_law_pen', None) -/
def t6 : T :=
 (.cons (.ret (.mls (.cons (.bi .list (.cons (.slice (.v 0) .nil (.k (.int 63))) .nil)) (.cons (.k (.int 0)) (.cons (.k (.int 0)) .nil)))))
 .nil)
/-- ('_law_draw', None) -/
def t7 : T :=
 (.cons (.ite (.cmp .gt (.sub (.v 0) (.k (.int 2))) (.k (.int 0))) (.cons (.asg (.pt (.n 2)) (.bin .mod (.bi .int (.cons (.sub (.v 0) (.k (.int 2))) .nil)) (.v 1)))
 (.cons (.asg (.sub (.v 0) (.k (.int 2))) (.bin .fdiv (.bi .int (.cons (.sub (.v 0) (.k (.int 2))) .nil)) (.v 1)))
 (.cons (.ret (.v 2))
 .nil))) .nil)
 (.cons (.asg (.pt (.n 3)) (.sub (.v 0) (.k (.int 1))))
 (.cons (.asg (.sub (.v 0) (.k (.int 1))) (.bin .add (.v 3) (.k (.int 1))))
 (.cons (.asg (.pt (.n 4)) (.bin .add (.bin .mul (.k (.int 141445)) (.v 3)) (.k (.int 16349))))
 (.cons (.ite (.cmp .ne (.sub (.v 0) (.k (.int 0))) (.lst .nil)) (.cons (.asg (.pt (.n 4)) (.sub (.sub (.v 0) (.k (.int 0))) (.bin .mod (.bi .int (.cons (.v 3) .nil)) (.bi .len (.cons (.sub (.v 0) (.k (.int 0))) .nil)))))
 .nil) .nil)
 (.cons (.ite (.and_ (.cmp .lt (.v 3) (.bi .len (.cons (.sub (.v 0) (.k (.int 0))) .nil))) (.one (.cmp .ge (.bi .abs (.cons (.v 4) .nil)) (.bin .pow (.k (.int 10)) (.k (.int 18)))))) (.cons (.asg (.pt (.n 5)) (.bin .add (.bin .mul (.k (.int 2)) (.bin .sub (.bi .abs (.cons (.v 4) .nil)) (.bin .pow (.k (.int 10)) (.k (.int 18))))) (.bi .int (.cons (.cmp .lt (.v 4) (.k (.int 0))) .nil))))
 (.cons (.asg (.sub (.v 0) (.k (.int 2))) (.bin .fdiv (.bi .int (.cons (.v 5) .nil)) (.v 1)))
 (.cons (.ret (.bin .mod (.bi .int (.cons (.v 5) .nil)) (.v 1)))
 .nil))) .nil)
 (.cons (.asg (.pt (.n 6)) (.bin .mod (.bi .int (.cons (.bin .pow (.bin .add (.bin .add (.bin .mod (.bi .int (.cons (.v 4) .nil)) (.k (.int 2147483563))) (.bin .mul (.k (.int 165503)) (.v 3))) (.k (.int 16349))) (.k (.int 5))) .nil)) (.k (.int 2147483647))))
 (.cons (.asg (.pt (.n 6)) (.bin .mod (.bi .int (.cons (.bin .pow (.bin .add (.bin .add (.bin .mul (.v 6) (.bin .add (.bin .mul (.k (.int 2)) (.v 3)) (.k (.int 251)))) (.bin .mul (.bin .mul (.k (.int 165503)) (.v 3)) (.v 3))) (.k (.int 93))) (.k (.int 3))) .nil)) (.k (.int 2147483587))))
 (.cons (.ret (.bin .mod (.bi .int (.cons (.bin .fdiv (.v 6) (.k (.int 32))) .nil)) (.v 1)))
 .nil)))))))))
/-- ('_law_pick', None) -/
def t8 : T :=
 (.cons (.ret (.sub (.v 1) (.call "_law_draw" 7 (.cons (.v 0) (.cons (.bi .len (.cons (.v 1) .nil)) .nil)))))
 .nil)
/-- ('_law_heard', None) -/
def t9 : T :=
 (.cons (.asg (.pt (.t (.cons (.n 1) (.cons (.n 2) .nil)))) (.tup (.cons (.k (.non)) (.cons (.k (.non)) .nil))))
 (.cons (.tryk (.cons (.aska 1)
 .nil) "CodeError" 0 3 (.cons (.asg (.pt (.n 2)) (.v 3))
 .nil))
 (.cons (.ite (.cmp .is_ (.v 2) (.k (.non))) (.cons (.ret (.lst (.cons (.v 1) .nil)))
 .nil) .nil)
 (.cons (.ite (.isin (.v 2) [.c "BadText" 11] false) (.cons (.ret (.tup (.cons (.k (.str "text")) (.cons (.attr (.v 2) 4) (.cons (.attr (.v 2) 3) .nil)))))
 .nil) .nil)
 (.cons (.ite (.isin (.v 2) [.c "BadValue" 8, .c "BadPaper" 9, .c "Unlike" 12, .c "Nothing" 13, .c "BadTable" 7, .c "BadCode" 4, .c "BadCourse" 6] true) (.cons (.ret (.tup (.cons (.k (.str "part")) (.cons (.attr (.v 2) 1) .nil))))
 .nil) .nil)
 (.cons (.ite (.isin (.v 2) [.c "TooMany" 14] false) (.cons (.ret (.tup (.cons (.k (.str "many")) (.cons (.attr (.v 2) 5) (.cons (.attr (.v 2) 6) .nil)))))
 .nil) .nil)
 (.cons (.ite (.isin (.v 2) [.c "BadLine" 10] false) (.cons (.ret (.tup (.cons (.k (.str "line")) (.cons (.attr (.v 2) 3) .nil))))
 .nil) .nil)
 (.cons (.ret (.ite (.isin (.v 2) [.c "BadName" 3] false) (.tup (.cons (.k (.str "name")) (.cons (.bi .repr (.cons (.attr (.v 2) 0) .nil)) .nil))) (.ite (.isin (.v 2) [.c "BadStep" 5] false) (.tup (.cons (.k (.str "at")) (.cons (.attr (.v 2) 2) .nil))) (.tup (.cons (.k (.str "odd")) .nil)))))
 .nil))))))))
/-- ('_law_course', None) -/
def t10 : T :=
 (.cons (.ret (.bi .tuple (.cons (.comp (.n 2) (.call "_law_pick" 8 (.cons (.v 0) (.cons (.lst (.cons (.k (.str "yes")) (.cons (.k (.str "no")) .nil))) .nil))) (.rng (.cons (.call "_law_draw" 7 (.cons (.v 0) (.cons (.bin .add (.v 1) (.k (.int 1))) .nil))) .nil)) .nil) .nil)))
 .nil)
/-- ('_law_bad', None) -/
def t11 : T :=
 (.cons (.asg (.pt (.n 1)) (.ite (.cmp .ne (.v 0) (.k (.str ""))) (.sm .split (.sub (.sm .split (.v 0) (.cons (.k (.str "\n")) .nil)) (.k (.int 0))) (.cons (.k (.str " ")) .nil)) (.lst .nil)))
 (.cons (.for_ (.t (.cons (.n 2) (.cons (.n 3) .nil))) (.enum (.v 1)) (.cons (.ite (.cmp .notin (.v 3) (.tup (.cons (.k (.str "yes")) (.cons (.k (.str "no")) .nil)))) (.cons (.ret (.tup (.cons (.k (.str "text")) (.cons (.k (.int 0)) (.cons (.v 2) .nil)))))
 .nil) .nil)
 .nil))
 (.cons (.ret (.ite (.cmp .in_ (.k (.str "\n")) (.v 0)) (.tup (.cons (.k (.str "text")) (.cons (.k (.int 1)) (.cons (.k (.int 0)) .nil)))) (.k (.non))))
 .nil)))
/-- ('law', None) -/
def t12 : T :=
 (.cons (.asg (.pt (.n 1)) (.call "_law_pen" 6 (.cons (.v 0) .nil)))
 (.cons (.for_ (.n 2) (.rng (.cons (.k (.int 8)) .nil)) t_law1)
 (.cons (.ret (.and_ (.cmp .eq (.call "course_text" 4 (.cons (.lst .nil) .nil)) (.k (.str ""))) (.one (.cmp .eq (.call "read_course" 5 (.cons (.k (.str "")) .nil)) (.tup .nil)))))
 .nil)))
/-- ('Line', '__init__') -/
def t13 : T :=
 (.cons (.asg (.attr (.v 0) 7) (.v 1))
 (.cons (.asg (.attr (.v 0) 8) (.v 2))
 (.cons (.asg (.attr (.v 0) 9) (.k (.int 0)))
 .nil)))
/-- ('Line', 'is_read') -/
def t14 : T :=
 (.cons (.ret (.cmp .eq (.attr (.v 0) 9) (.bi .len (.cons (.attr (.v 0) 8) .nil))))
 .nil)
/-- ('Line', 'is_next') -/
def t15 : T :=
 (.cons (.ex (.call "_wall" 0 (.cons (.k (.int 0)) .nil)))
 .nil)
/-- ('Line', 'refuse') -/
def t16 : T :=
 (.cons (.raise "BadText" 11 (.cons (.attr (.v 0) 7) (.cons (.attr (.v 0) 9) .nil)))
 .nil)
/-- ('Line', 'take_word') -/
def t17 : T :=
 (.cons (.ite (.meth (.v 0) "is_read" .nil) (.cons (.ex (.meth (.v 0) "refuse" .nil))
 .nil) .nil)
 (.cons (.auga (.v 0) 9 .add (.k (.int 1)))
 (.cons (.ret (.sub (.attr (.v 0) 8) (.bin .sub (.attr (.v 0) 9) (.k (.int 1)))))
 .nil)))
/-- ('Line', 'need_word') -/
def t18 : T :=
 (.cons (.ex (.call "_wall" 0 (.cons (.k (.int 1)) .nil)))
 .nil)
/-- ('Line', 'need_one_of') -/
def t19 : T :=
 (.cons (.ite (.or_ (.meth (.v 0) "is_read" .nil) (.one (.cmp .notin (.sub (.attr (.v 0) 8) (.attr (.v 0) 9)) (.v 1)))) (.cons (.ex (.meth (.v 0) "refuse" .nil))
 .nil) .nil)
 (.cons (.ret (.meth (.v 0) "take_word" .nil))
 .nil))
/-- ('Line', 'need_name') -/
def t20 : T :=
 (.cons (.ex (.call "_wall" 0 (.cons (.k (.int 2)) .nil)))
 .nil)
/-- ('Line', 'need_integer') -/
def t21 : T :=
 (.cons (.ex (.call "_wall" 0 (.cons (.k (.int 3)) .nil)))
 .nil)
/-- ('Line', 'names_to') -/
def t22 : T :=
 (.cons (.ex (.call "_wall" 0 (.cons (.k (.int 4)) .nil)))
 .nil)
/-- ('Line', 'unlike_to') -/
def t23 : T :=
 (.cons (.ex (.call "_wall" 0 (.cons (.k (.int 5)) .nil)))
 .nil)
/-- ('Line', 'need_no_word') -/
def t24 : T :=
 (.cons (.ex (.call "_wall" 0 (.cons (.k (.int 6)) .nil)))
 .nil)
/-- ('Lines', '__init__') -/
def t25 : T :=
 (.cons (.asg (.attr (.v 0) 10) (.v 1))
 (.cons (.asg (.attr (.v 0) 11) (.v 2))
 (.cons (.asg (.attr (.v 0) 9) (.k (.int 0)))
 .nil)))
/-- ('Lines', 'some_lines') -/
def t26 : T :=
 (.cons (.ex (.call "_wall" 0 (.cons (.k (.int 7)) .nil)))
 .nil)
/-- ('Lines', 'is_read') -/
def t27 : T :=
 (.cons (.ret (.cmp .eq (.attr (.v 0) 9) (.bi .len (.cons (.attr (.v 0) 10) .nil))))
 .nil)
/-- ('Lines', 'how_many') -/
def t28 : T :=
 (.cons (.ex (.call "_wall" 0 (.cons (.k (.int 8)) .nil)))
 .nil)
/-- ('Lines', 'refuse') -/
def t29 : T :=
 (.cons (.raise "BadText" 11 (.cons (.bin .add (.attr (.v 0) 11) (.attr (.v 0) 9)) (.cons (.k (.int 0)) .nil)))
 .nil)
/-- ('Lines', 'word_ahead') -/
def t30 : T :=
 (.cons (.ex (.call "_wall" 0 (.cons (.k (.int 9)) .nil)))
 .nil)
/-- ('Lines', 'take_line') -/
def t31 : T :=
 (.cons (.ite (.meth (.v 0) "is_read" .nil) (.cons (.ex (.meth (.v 0) "refuse" .nil))
 .nil) .nil)
 (.cons (.auga (.v 0) 9 .add (.k (.int 1)))
 (.cons (.ret (.sub (.attr (.v 0) 10) (.bin .sub (.attr (.v 0) 9) (.k (.int 1)))))
 .nil)))
/-- ('Lines', 'need_no_line') -/
def t32 : T :=
 (.cons (.ex (.call "_wall" 0 (.cons (.k (.int 10)) .nil)))
 .nil)
def d0 : Df := ⟨1, 0, t0, false⟩
def d1 : Df := ⟨1, 0, t1, false⟩
def d2 : Df := ⟨1, 1, t2, false⟩
def d3 : Df := ⟨1, 2, t3, false⟩
def d4 : Df := ⟨1, 0, t4, false⟩
def d5 : Df := ⟨1, 3, t5, false⟩
def d6 : Df := ⟨1, 0, t6, false⟩
def d7 : Df := ⟨2, 5, t7, false⟩
def d8 : Df := ⟨2, 0, t8, false⟩
def d9 : Df := ⟨1, 3, t9, false⟩
def d10 : Df := ⟨2, 1, t10, false⟩
def d11 : Df := ⟨1, 3, t11, false⟩
def d12 : Df := ⟨1, 11, t12, true⟩
def d13 : Df := ⟨3, 0, t13, false⟩
def d14 : Df := ⟨1, 0, t14, false⟩
def d15 : Df := ⟨2, 0, t15, false⟩
def d16 : Df := ⟨1, 0, t16, false⟩
def d17 : Df := ⟨1, 0, t17, false⟩
def d18 : Df := ⟨2, 0, t18, false⟩
def d19 : Df := ⟨2, 0, t19, false⟩
def d20 : Df := ⟨2, 0, t20, false⟩
def d21 : Df := ⟨3, 0, t21, false⟩
def d22 : Df := ⟨3, 0, t22, false⟩
def d23 : Df := ⟨4, 0, t23, false⟩
def d24 : Df := ⟨1, 0, t24, false⟩
def d25 : Df := ⟨3, 0, t25, false⟩
def d26 : Df := ⟨2, 0, t26, false⟩
def d27 : Df := ⟨1, 0, t27, false⟩
def d28 : Df := ⟨1, 0, t28, false⟩
def d29 : Df := ⟨1, 0, t29, false⟩
def d30 : Df := ⟨1, 0, t30, false⟩
def d31 : Df := ⟨1, 0, t31, false⟩
def d32 : Df := ⟨1, 0, t32, false⟩
def pg : Prog where
  defs := [d0, d1, d2, d3, d4, d5, d6, d7, d8, d9, d10, d11, d12, d13, d14, d15, d16, d17, d18, d19, d20, d21, d22, d23, d24, d25, d26, d27, d28, d29, d30, d31, d32]
  meth := atM [(15, "__init__", 13), (15, "is_read", 14), (15, "is_next", 15), (15, "refuse", 16), (15, "take_word", 17), (15, "need_word", 18), (15, "need_one_of", 19), (15, "need_name", 20), (15, "need_integer", 21), (15, "names_to", 22), (15, "unlike_to", 23), (15, "need_no_word", 24), (16, "__init__", 25), (16, "some_lines", 26), (16, "is_read", 27), (16, "how_many", 28), (16, "refuse", 29), (16, "word_ahead", 30), (16, "take_line", 31), (16, "need_no_line", 32)]
  makes := optAt [none, none, none, none, none, none, none, none, none, none, none, none, none, none, none, some 13, some 25]
  excf := optAt [none, none, none, none, none, none, some [1], none, none, none, none, some [4, 3], none, none, none, none, none]
  sub := at3 [(6, 4, false), (6, 6, true), (6, 10, false), (6, 3, false), (6, 9, false), (6, 5, false), (6, 7, false), (6, 11, false), (6, 8, false), (6, 0, true), (6, 13, false), (6, 14, false), (6, 12, false), (11, 4, false), (11, 6, false), (11, 10, false), (11, 3, false), (11, 9, false), (11, 5, false), (11, 7, false), (11, 11, true), (11, 8, false), (11, 0, true), (11, 13, false), (11, 14, false), (11, 12, false)]
  insub := at3 [(15, 4, false), (15, 6, false), (15, 10, false), (15, 3, false), (15, 9, false), (15, 5, false), (15, 7, false), (15, 11, false), (15, 8, false), (15, 13, false), (15, 14, false), (15, 12, false), (16, 4, false), (16, 6, false), (16, 10, false), (16, 3, false), (16, 9, false), (16, 5, false), (16, 7, false), (16, 11, false), (16, 8, false), (16, 13, false), (16, 14, false), (16, 12, false)]
  own := fun c => ([3, 4, 5, 6, 7, 8, 9, 10, 11, 12, 13, 14] : List Nat).contains c
  wf := 100000
end Law

set_option linter.all false
set_option autoImplicit false
set_option maxRecDepth 100000
set_option maxHeartbeats 4000000
namespace Law
open Ev
open PySem (Str)

theorem k_call {P k a} : (ctxK P k a).call = callF P (k + 3) := Eq.trans rfl rfl
theorem k_init {P k a} : (ctxK P k a).init = callF P (k + 2) := Eq.trans rfl rfl
theorem k_meth {P k a} : (ctxK P k a).meth = P.meth := Eq.trans rfl rfl
theorem k_makes {P k a} : (ctxK P k a).makes = P.makes := Eq.trans rfl rfl
theorem k_wf {P k a} : (ctxK P k a).wf = P.wf := Eq.trans rfl rfl
theorem k_excf {P k a} : (ctxK P k a).excf = P.excf := Eq.trans rfl rfl
theorem k_sub {P k a} : (ctxK P k a).sub = P.sub := Eq.trans rfl rfl
theorem k_ask {P k a} : (ctxK P k a).ask = a := Eq.trans rfl rfl
theorem k_hear {P k a} : (ctxK P k a).hear = hearF P (k + 3) := Eq.trans rfl rfl
theorem run_at {g : Nat} {d : Df} (h : pg.defs[g]? = some d) (k : Nat) (ws : List W) (s : S) (hl : ws.length = d.np) : callF pg (k + 4) g ws s = outR (evB (ctxK pg k fun _ => .fail) d.body (ws.map some ++ List.replicate d.nl none) s) := by
  rw [callF_eq h]
  exact if_pos hl
theorem out_rt {w : W} {s : S} : outR (.ok (.rt w) s) = .ok w s := Eq.trans rfl rfl
theorem out_nx {e : Env} {s : S} : outR (.ok (.nx e) s) = .ok .non s := Eq.trans rfl rfl
theorem out_exc {c fs} {e : Env} {s : S} : outR (.exc c fs e s) = .exc c fs s := Eq.trans rfl rfl
theorem bi_len {s : S} {w : W} {r : R W} (h : lenW s w = r) : biW s .len [w] = r := h
theorem bi_int {s : S} {i : Int} : biW s .int [.int i] = .ok (.int i) s := Eq.trans rfl rfl
theorem bi_intb {s : S} {b : Bool} : biW s .int [.bl b] = .ok (.int (if b then 1 else 0)) s := Eq.trans rfl rfl
theorem bi_abs {s : S} {i : Int} : biW s .abs [.int i] = .ok (.int (if i < 0 then -i else i)) s := Eq.trans rfl rfl
theorem cmp_gt {s : S} {i j : Int} : cmpW s .gt (.int i) (.int j) = some (decide (j < i)) := Eq.trans rfl rfl
theorem cmp_lt {s : S} {i j : Int} : cmpW s .lt (.int i) (.int j) = some (decide (i < j)) := Eq.trans rfl rfl
theorem cmp_ge {s : S} {i j : Int} : cmpW s .ge (.int i) (.int j) = some (decide (j ≤ i)) := Eq.trans rfl rfl
theorem tru_bl {s : S} {b : Bool} : truW s (.bl b) = some b := Eq.trans rfl rfl
theorem bin_add {s : S} {i j : Int} : binW s .add (.int i) (.int j) = .ok (.int (i + j)) s := Eq.trans rfl rfl
theorem bin_sub {s : S} {i j : Int} : binW s .sub (.int i) (.int j) = .ok (.int (i - j)) s := Eq.trans rfl rfl
theorem bin_mod {s : S} {i j : Int} (h : 0 < j) : binW s .mod (.int i) (.int j) = .ok (.int (i % j)) s := if_pos (decide_eq_true h)
theorem bin_fdiv {s : S} {i j : Int} (h : 0 < j) (h2 : j < 2 ^ 64) : binW s .fdiv (.int i) (.int j) = .ok (.int (i / j)) s := if_pos (by
  rw [Bool.and_eq_true, decide_eq_true_eq, decide_eq_true_eq]
  refine ⟨h, Int.lt_trans h2 ?_⟩
  decide +kernel)
theorem bin_mul {s : S} {i j : Int} (h : -(2 ^ 64) < i ∧ i < 2 ^ 64 ∨ -(2 ^ 64) < j ∧ j < 2 ^ 64) : binW s .mul (.int i) (.int j) = .ok (.int (i * j)) s := if_pos (by
  rw [Bool.or_eq_true, Bool.and_eq_true, Bool.and_eq_true, decide_eq_true_eq, decide_eq_true_eq, decide_eq_true_eq, decide_eq_true_eq]
  exact h)
theorem bin_pow {s : S} {i : Int} {j : Int} (h : 0 ≤ j) (h1 : j ≤ 100) (h2 : i.natAbs < 2 ^ 64) : binW s .pow (.int i) (.int j) = .ok (.int (i ^ j.toNat)) s := if_pos (by
  rw [Bool.and_eq_true, Bool.and_eq_true, decide_eq_true_eq, decide_eq_true_eq, decide_eq_true_eq]
  exact ⟨⟨h, by omega⟩, h2⟩)
def penO (cells : List Int) (at_ g : Int) : Ob := .lst [.lst (cells.map .int), .int at_, .int g]
section
variable {s : S} {p : Nat} {cells : List Int} {at_ g : Int}
theorem pen_it (h : s.get p = some (penO cells at_ g)) : items s (.ref p) = some [.lst (cells.map .int), .int at_, .int g] := by
  simp [items, h, penO]
theorem pen0 (h : s.get p = some (penO cells at_ g)) : subW s (.ref p) (.int 0) = .ok (.lst (cells.map .int)) s := by
  unfold subW; dsimp only; rw [pen_it h]; rfl
theorem pen1 (h : s.get p = some (penO cells at_ g)) : subW s (.ref p) (.int 1) = .ok (.int at_) s := by
  unfold subW; dsimp only; rw [pen_it h]; rfl
theorem pen2 (h : s.get p = some (penO cells at_ g)) : subW s (.ref p) (.int 2) = .ok (.int g) s := by
  unfold subW; dsimp only; rw [pen_it h]; rfl
theorem put1 {x : Int} (h : s.get p = some (penO cells at_ g)) : setItem s (.ref p) (.int 1) (.int x) = some (s.set p (penO cells x g)) := by
  unfold setItem; dsimp only; rw [h]; rfl
theorem put2 {x : Int} (h : s.get p = some (penO cells at_ g)) : setItem s (.ref p) (.int 2) (.int x) = some (s.set p (penO cells at_ x)) := by
  unfold setItem; dsimp only; rw [h]; rfl
theorem get_lt {o : Ob} (h : s.get p = some o) : p < s.objs.length := by
  unfold S.get at h
  exact (List.getElem?_eq_some_iff.mp h).1
theorem get_set {o o' : Ob} (h : s.get p = some o) : (s.set p o').get p = some o' := by
  unfold S.set S.get
  exact List.getElem?_set_self (get_lt h)
theorem set_set {o o' : Ob} : (s.set p o).set p o' = s.set p o' := by
  unfold S.set
  simp
end
theorem lam_int {i : Int} : isLam (.int i) = false := Eq.trans rfl rfl
theorem lam_ref {i : Nat} : isLam (.ref i) = false := Eq.trans rfl rfl
theorem lam_lst {i : List W} : isLam (.lst i) = false := Eq.trans rfl rfl
theorem lam_tup {i : List W} : isLam (.tup i) = false := Eq.trans rfl rfl
theorem lam_str {i : Str} : isLam (.str i) = false := Eq.trans rfl rfl
theorem lam_non : isLam .non = false := Eq.trans rfl rfl
theorem lam_bl {i : Bool} : isLam (.bl i) = false := Eq.trans rfl rfl
theorem lam_exn {i fs} : isLam (.exn i fs) = false := Eq.trans rfl rfl
theorem lam_dct : isLam .dct = false := Eq.trans rfl rfl
theorem mul2 {s : S} {j : Int} : binW s .mul (.int 2) (.int j) = .ok (.int (2 * j)) s := bin_mul (.inl ⟨by decide, by decide⟩)
theorem mulA {s : S} {j : Int} : binW s .mul (.int 165503) (.int j) = .ok (.int (165503 * j)) s := bin_mul (.inl ⟨by decide, by decide⟩)
theorem mulB {s : S} {j : Int} : binW s .mul (.int 141445) (.int j) = .ok (.int (141445 * j)) s := bin_mul (.inl ⟨by decide, by decide⟩)
theorem modA {s : S} {j : Int} : binW s .mod (.int j) (.int 2147483563) = .ok (.int (j % 2147483563)) s := bin_mod (by decide)
theorem modB {s : S} {j : Int} : binW s .mod (.int j) (.int 2147483647) = .ok (.int (j % 2147483647)) s := bin_mod (by decide)
theorem modC {s : S} {j : Int} : binW s .mod (.int j) (.int 2147483587) = .ok (.int (j % 2147483587)) s := bin_mod (by decide)
theorem div32 {s : S} {j : Int} : binW s .fdiv (.int j) (.int 32) = .ok (.int (j / 32)) s := bin_fdiv (by decide) (by decide)
theorem lim_0 : (([] : List W).length ≤ lim) = True := eq_true (by decide)
theorem lim_1 {a0 : W} : (([a0] : List W).length ≤ lim) = True := eq_true (show 1 ≤ lim by decide)
theorem lim_2 {a0 a1 : W} : (([a0, a1] : List W).length ≤ lim) = True := eq_true (show 2 ≤ lim by decide)
theorem lim_3 {a0 a1 a2 : W} : (([a0, a1, a2] : List W).length ≤ lim) = True := eq_true (show 3 ≤ lim by decide)
theorem lim_4 {a0 a1 a2 a3 : W} : (([a0, a1, a2, a3] : List W).length ≤ lim) = True := eq_true (show 4 ≤ lim by decide)
theorem lim_5 {a0 a1 a2 a3 a4 : W} : (([a0, a1, a2, a3, a4] : List W).length ≤ lim) = True := eq_true (show 5 ≤ lim by decide)
theorem lim_6 {a0 a1 a2 a3 a4 a5 : W} : (([a0, a1, a2, a3, a4, a5] : List W).length ≤ lim) = True := eq_true (show 6 ≤ lim by decide)
theorem lim_7 {a0 a1 a2 a3 a4 a5 a6 : W} : (([a0, a1, a2, a3, a4, a5, a6] : List W).length ≤ lim) = True := eq_true (show 7 ≤ lim by decide)
theorem lim_8 {a0 a1 a2 a3 a4 a5 a6 a7 : W} : (([a0, a1, a2, a3, a4, a5, a6, a7] : List W).length ≤ lim) = True := eq_true (show 8 ≤ lim by decide)
theorem lim_9 {a0 a1 a2 a3 a4 a5 a6 a7 a8 : W} : (([a0, a1, a2, a3, a4, a5, a6, a7, a8] : List W).length ≤ lim) = True := eq_true (show 9 ≤ lim by decide)
theorem lim_10 {a0 a1 a2 a3 a4 a5 a6 a7 a8 a9 : W} : (([a0, a1, a2, a3, a4, a5, a6, a7, a8, a9] : List W).length ≤ lim) = True := eq_true (show 10 ≤ lim by decide)
theorem draw_great (k : Nat) {s : S} {p : Nat} {cells : List Int} {at_ g many : Int} (h : s.get p = some (penO cells at_ g)) (hg : 0 < g) (hm : 0 < many) (hm2 : many < 2 ^ 64) : callF pg (k + 4) 7 [.ref p, .int many] s = .ok (.int (g % many)) (s.set p (penO cells at_ (g / many))) := by
  rw [run_at (d := d7) rfl k _ s rfl]
  unfold d7 t7
  simp only [b_ok, b_exc, l_ok, l_exc, t_nx, t_rt, t_exc, c_ok, o_some, out_rt, out_nx, out_exc, k_call, k_init, k_meth, k_makes, k_wf, k_excf, k_sub, k_ask, k_hear, evB, sx_k_e, sx_k_t, sx_k_n, sx_k_i, sx_k_p, sx_v_e, sx_v_t, sx_v_n, sx_v_i, sx_v_p, sx_gl_e, sx_gl_t, sx_gl_n, sx_gl_i, sx_gl_p, sx_bin_e, sx_bin_t, sx_bin_n, sx_bin_i, sx_bin_p, sx_not_e, sx_not_t, sx_not_n, sx_neg_e, sx_neg_t, sx_neg_n, sx_neg_i, sx_neg_p, sx_one_e, sx_one_t, sx_one_n, sx_and_e, sx_and_t, sx_and_n, sx_or_e, sx_or_t, sx_or_n, sx_ite_e, sx_ite_t, sx_ite_n, sx_ite_i, sx_ite_p, sx_cmp_e, sx_cmp_t, sx_cmp_n, sx_cmp_i, sx_cmp_p, sx_cmp2_e, sx_cmp2_t, sx_cmp2_n, sx_cmp2_i, sx_cmp2_p, sx_call_e, sx_call_t, sx_call_n, sx_call_i, sx_call_p, sx_callk_e, sx_callk_t, sx_callk_n, sx_callk_i, sx_callk_p, sx_mkk_e, sx_mkk_t, sx_mkk_n, sx_mkk_i, sx_mkk_p, sx_methk_e, sx_methk_t, sx_methk_n, sx_methk_i, sx_methk_p, sx_mk_e, sx_mk_t, sx_mk_n, sx_mk_i, sx_mk_p, sx_meth_e, sx_meth_t, sx_meth_n, sx_meth_i, sx_meth_p, sx_attr_e, sx_attr_t, sx_attr_n, sx_attr_i, sx_attr_p, sx_sub_e, sx_sub_t, sx_sub_n, sx_sub_i, sx_sub_p, sx_slice_e, sx_slice_t, sx_slice_n, sx_slice_i, sx_slice_p, sx_tup_e, sx_tup_t, sx_tup_n, sx_tup_i, sx_tup_p, sx_lst_e, sx_lst_t, sx_lst_n, sx_lst_i, sx_lst_p, sx_mls_e, sx_mls_t, sx_mls_n, sx_mls_i, sx_mls_p, sx_comp_e, sx_comp_t, sx_comp_n, sx_comp_i, sx_comp_p, sx_bi_e, sx_bi_t, sx_bi_n, sx_bi_i, sx_bi_p, sx_isin_e, sx_isin_t, sx_isin_n, sx_isin_i, sx_isin_p, sx_sm_e, sx_sm_t, sx_sm_n, sx_sm_i, sx_sm_p, sx_hear_e, sx_hear_t, sx_hear_n, sx_hear_i, sx_hear_p, sx_dct_e, sx_dct_t, sx_dct_n, sx_dct_i, sx_dct_p, sx_rng_i, sx_enum_i, sx_nil_a, sx_nil_n, sx_nil_p, sx_cons_a, asgW, putP, tru_bl, cmp_gt, cmp_lt, cmp_ge, bi_int, bi_intb, bi_abs, bin_add, bin_sub, Option.map_some, Option.getD_some, List.map_cons, List.map_nil, List.replicate_succ, List.replicate_zero, List.cons_append, List.nil_append, List.getElem?_cons_zero, List.getElem?_cons_succ, List.set_cons_zero, List.set_cons_succ, lam_int, lam_ref, lam_lst, lam_tup, lam_str, lam_non, lam_bl, lam_exn, lam_dct, lim_0, lim_1, lim_2, lim_3, lim_4, lim_5, lim_6, lim_7, lim_8, lim_9, lim_10, if_true, if_false, Bool.false_eq_true, ↓reduceIte, Nat.reduceAdd, pen2 h, put2 h, bin_mod hm, bin_fdiv hm hm2, decide_eq_true hg]
theorem bin_mul' {s : S} {i j : Int} (h : 0 ≤ i) (h2 : i < 2 ^ 64) : binW s .mul (.int i) (.int j) = .ok (.int (i * j)) s := bin_mul (.inl ⟨by omega, h2⟩)
theorem len_lst {s : S} {ws : List W} : lenW s (.lst ws) = .ok (.int ws.length) s := Eq.trans rfl rfl
theorem len_tup {s : S} {ws : List W} : lenW s (.tup ws) = .ok (.int ws.length) s := Eq.trans rfl rfl
theorem eq_of {s : S} {a b : W} {d e : PySem.PyData} (h1 : datS s a = some d) (h2 : datS s b = some e) (h3 : (small d || small e) = true) : eqW s a b = some (PySem.PyData.eqv d e) := by
  unfold eqW
  rw [h1, h2]
  exact if_pos h3
theorem small0 {d : PySem.PyData} (h : d.depth ≤ 64) : small d = true := decide_eq_true h
theorem datL_int : ∀ l : List Int, datL (l.map .int) = some (l.map .int)
  | [] => rfl
  | a :: l => by simp [datL, dat, datL_int l]
theorem ne_nil {s : S} {cells : List Int} : cmpW s .ne (.lst (cells.map .int)) (.lst []) = some (!cells.isEmpty) := by
  have h1 : datS s (.lst (cells.map .int)) = some (.list (cells.map .int)) := by
    show (datL (cells.map .int)).map PySem.PyData.list = _
    rw [datL_int]; rfl
  have h2 : datS s (.lst []) = some (.list []) := rfl
  show (eqW s _ _).map (!·) = _
  rw [eq_of h1 h2 (by rw [Bool.or_eq_true]; exact .inr rfl)]
  cases cells <;> simp [PySem.PyData.eqv, PySem.PyData.eqvAll]
theorem at_i {α : Type} {xs : List α} {i : Int} (h0 : 0 ≤ i) (h1 : i.toNat < xs.length) : L2.atI xs i = some (xs[i.toNat]) := by
  have e : L2.ixN xs.length i = some i.toNat := by
    unfold L2.ixN
    rw [if_pos h0, if_pos (by omega)]
  unfold L2.atI
  rw [e]
  exact List.getElem?_eq_getElem h1
theorem sub_at {s : S} {x : W} {ws : List W} {i : Int} (hx : items s x = some ws) (h0 : 0 ≤ i) (h1 : i.toNat < ws.length) (h2 : ws.length < 2 ^ 60) : subW s x (.int i) = .ok (ws[i.toNat]) s := by
  unfold subW
  dsimp only
  rw [hx]
  dsimp only
  rw [if_pos (by rw [Bool.and_eq_true, decide_eq_true_eq, decide_eq_true_eq]; omega), at_i h0 h1]
  rfl
theorem sub_cells {s : S} {cells : List Int} {i : Int} (h0 : 0 ≤ i) (h1 : i < cells.length) (h2 : cells.length < 1000) : ∃ c, subW s (.lst (cells.map .int)) (.int i) = .ok (.int c) s := by
  refine ⟨cells[i.toNat]'(by omega), ?_⟩
  rw [sub_at (ws := cells.map .int) rfl h0 (by rw [List.length_map]; omega) (by rw [List.length_map]; omega)]
  simp
theorem pow18 {s : S} : binW s .pow (.int 10) (.int 18) = .ok (.int (10 ^ 18)) s := bin_pow (by decide) (by decide) (by decide)
def hd1 : T → T
  | .cons a _ => a
  | _ => .nil
def tl1 : T → T
  | .cons _ b => b
  | _ => .nil
def t7r : T := tl1 (tl1 (tl1 (tl1 (tl1 t7))))
theorem t7_eq : t7 = .cons (hd1 t7) (.cons (hd1 (tl1 t7)) (.cons (hd1 (tl1 (tl1 t7))) (.cons (hd1 (tl1 (tl1 (tl1 t7)))) (.cons (hd1 (tl1 (tl1 (tl1 (tl1 t7))))) t7r)))) := rfl
theorem draw_spec (k : Nat) {s : S} {p : Nat} {cells : List Int} {at_ g many : Int} (h : s.get p = some (penO cells at_ g)) (hc : cells.length ≤ 63) (ha : 0 ≤ at_) (ha2 : at_ < 2 ^ 20) (hg : 0 ≤ g) (hm : 0 < many) (hm2 : many < 2 ^ 64) :
    ∃ d at' g', callF pg (k + 4) 7 [.ref p, .int many] s = .ok (.int d) (s.set p (penO cells at' g')) ∧ 0 ≤ d ∧ d < many ∧ 0 ≤ at' ∧ at' ≤ at_ + 1 ∧ 0 ≤ g' := by
  by_cases c : 0 < g
  · exact ⟨_, _, _, draw_great k h c hm hm2, Int.emod_nonneg _ (by omega), Int.emod_lt_of_pos _ hm, ha, by omega, Int.ediv_nonneg hg (by omega)⟩
  · have q1 : (s.set p (penO cells (at_ + 1) g)).get p = some (penO cells (at_ + 1) g) := get_set h
    have key : ∀ cell : Int, ∃ d g', (∀ (e5 e6 : Option W), evB (ctxK pg k fun _ => .fail) t7r [some (.ref p), some (.int many), none, some (.int at_), some (.int cell), e5, e6] (s.set p (penO cells (at_ + 1) g)) = .ok (.rt (.int d)) (s.set p (penO cells (at_ + 1) g'))) ∧ 0 ≤ d ∧ d < many ∧ 0 ≤ g' := by
      intro cell
      unfold t7r t7
      dsimp only [tl1]
      by_cases c2 : at_ < cells.length ∧ 10 ^ 18 ≤ (if cell < 0 then -cell else cell)
      · refine ⟨(2 * ((if cell < 0 then -cell else cell) - 10 ^ 18) + (if decide (cell < 0) = true then 1 else 0)) % many, (2 * ((if cell < 0 then -cell else cell) - 10 ^ 18) + (if decide (cell < 0) = true then 1 else 0)) / many, fun e5 e6 => ?_, Int.emod_nonneg _ (by omega), Int.emod_lt_of_pos _ hm, Int.ediv_nonneg (by split <;> omega) (by omega)⟩
        simp only [b_ok, b_exc, l_ok, l_exc, t_nx, t_rt, t_exc, c_ok, o_some, out_rt, out_nx, out_exc, k_call, k_init, k_meth, k_makes, k_wf, k_excf, k_sub, k_ask, k_hear, evB, sx_k_e, sx_k_t, sx_k_n, sx_k_i, sx_k_p, sx_v_e, sx_v_t, sx_v_n, sx_v_i, sx_v_p, sx_gl_e, sx_gl_t, sx_gl_n, sx_gl_i, sx_gl_p, sx_bin_e, sx_bin_t, sx_bin_n, sx_bin_i, sx_bin_p, sx_not_e, sx_not_t, sx_not_n, sx_neg_e, sx_neg_t, sx_neg_n, sx_neg_i, sx_neg_p, sx_one_e, sx_one_t, sx_one_n, sx_and_e, sx_and_t, sx_and_n, sx_or_e, sx_or_t, sx_or_n, sx_ite_e, sx_ite_t, sx_ite_n, sx_ite_i, sx_ite_p, sx_cmp_e, sx_cmp_t, sx_cmp_n, sx_cmp_i, sx_cmp_p, sx_cmp2_e, sx_cmp2_t, sx_cmp2_n, sx_cmp2_i, sx_cmp2_p, sx_call_e, sx_call_t, sx_call_n, sx_call_i, sx_call_p, sx_callk_e, sx_callk_t, sx_callk_n, sx_callk_i, sx_callk_p, sx_mkk_e, sx_mkk_t, sx_mkk_n, sx_mkk_i, sx_mkk_p, sx_methk_e, sx_methk_t, sx_methk_n, sx_methk_i, sx_methk_p, sx_mk_e, sx_mk_t, sx_mk_n, sx_mk_i, sx_mk_p, sx_meth_e, sx_meth_t, sx_meth_n, sx_meth_i, sx_meth_p, sx_attr_e, sx_attr_t, sx_attr_n, sx_attr_i, sx_attr_p, sx_sub_e, sx_sub_t, sx_sub_n, sx_sub_i, sx_sub_p, sx_slice_e, sx_slice_t, sx_slice_n, sx_slice_i, sx_slice_p, sx_tup_e, sx_tup_t, sx_tup_n, sx_tup_i, sx_tup_p, sx_lst_e, sx_lst_t, sx_lst_n, sx_lst_i, sx_lst_p, sx_mls_e, sx_mls_t, sx_mls_n, sx_mls_i, sx_mls_p, sx_comp_e, sx_comp_t, sx_comp_n, sx_comp_i, sx_comp_p, sx_bi_e, sx_bi_t, sx_bi_n, sx_bi_i, sx_bi_p, sx_isin_e, sx_isin_t, sx_isin_n, sx_isin_i, sx_isin_p, sx_sm_e, sx_sm_t, sx_sm_n, sx_sm_i, sx_sm_p, sx_hear_e, sx_hear_t, sx_hear_n, sx_hear_i, sx_hear_p, sx_dct_e, sx_dct_t, sx_dct_n, sx_dct_i, sx_dct_p, sx_rng_i, sx_enum_i, sx_nil_a, sx_nil_n, sx_nil_p, sx_cons_a, asgW, putP, tru_bl, cmp_gt, cmp_lt, cmp_ge, bi_int, bi_intb, bi_abs, bin_add, bin_sub, Option.map_some, Option.getD_some, List.map_cons, List.map_nil, List.replicate_succ, List.replicate_zero, List.cons_append, List.nil_append, List.getElem?_cons_zero, List.getElem?_cons_succ, List.set_cons_zero, List.set_cons_succ, lam_int, lam_ref, lam_lst, lam_tup, lam_str, lam_non, lam_bl, lam_exn, lam_dct, lim_0, lim_1, lim_2, lim_3, lim_4, lim_5, lim_6, lim_7, lim_8, lim_9, lim_10, if_true, if_false, Bool.false_eq_true, ↓reduceIte, Nat.reduceAdd, pen0 q1, bi_len len_lst, List.length_map, decide_eq_true c2.1, pow18, decide_eq_true c2.2, mul2, bin_fdiv hm hm2, put2 q1, set_set, bin_mod hm]
      · have m1 := Int.emod_nonneg cell (show (2147483563 : Int) ≠ 0 by decide)
        have m2 := Int.emod_lt_of_pos cell (show (0 : Int) < 2147483563 by decide)
        have hp1 : (cell % 2147483563 + 165503 * at_ + 16349).natAbs < 2 ^ 64 := by omega
        have x1 := Int.emod_nonneg ((cell % 2147483563 + 165503 * at_ + 16349) ^ 5) (show (2147483647 : Int) ≠ 0 by decide)
        have x2 := Int.emod_lt_of_pos ((cell % 2147483563 + 165503 * at_ + 16349) ^ 5) (show (0 : Int) < 2147483647 by decide)
        have p5 : ∀ {s : S}, binW s .pow (.int (cell % 2147483563 + 165503 * at_ + 16349)) (.int 5) = .ok (.int ((cell % 2147483563 + 165503 * at_ + 16349) ^ 5)) s := bin_pow (by decide) (by decide) hp1
        generalize hx : (cell % 2147483563 + 165503 * at_ + 16349) ^ 5 % 2147483647 = x at x1 x2
        have hx5 : ∀ {s : S}, binW s .mod (.int ((cell % 2147483563 + 165503 * at_ + 16349) ^ 5)) (.int 2147483647) = .ok (.int x) s := by intro s; rw [modB, hx]
        have y0 : 0 ≤ x * (2 * at_ + 251) := Int.mul_nonneg x1 (by omega)
        have y1 : x * (2 * at_ + 251) ≤ 2147483647 * (2 * 2 ^ 20 + 251) := Int.mul_le_mul (by omega) (by omega) (by omega) (by decide)
        have z0 : 0 ≤ 165503 * at_ * at_ := Int.mul_nonneg (by omega) ha
        have z1 : 165503 * at_ * at_ ≤ (165503 * 2 ^ 20) * 2 ^ 20 := Int.mul_le_mul (by omega) (by omega) ha (by decide)
        have p3 : ∀ {s : S}, binW s .pow (.int (x * (2 * at_ + 251) + 165503 * at_ * at_ + 93)) (.int 3) = .ok (.int ((x * (2 * at_ + 251) + 165503 * at_ * at_ + 93) ^ 3)) s := bin_pow (by decide) (by decide) (by omega)
        have mm : ∀ {s : S}, binW s .mul (.int x) (.int (2 * at_ + 251)) = .ok (.int (x * (2 * at_ + 251))) s := bin_mul (.inl ⟨by omega, by omega⟩)
        have mn : ∀ {s : S}, binW s .mul (.int (165503 * at_)) (.int at_) = .ok (.int (165503 * at_ * at_)) s := bin_mul (.inl ⟨by omega, by omega⟩)
        refine ⟨(x * (2 * at_ + 251) + 165503 * at_ * at_ + 93) ^ 3 % 2147483587 / 32 % many, g, fun e5 e6 => ?_, Int.emod_nonneg _ (by omega), Int.emod_lt_of_pos _ hm, hg⟩
        by_cases c3 : at_ < cells.length
        · have c4 : ¬ 10 ^ 18 ≤ (if cell < 0 then -cell else cell) := fun z => c2 ⟨c3, z⟩
          simp only [b_ok, b_exc, l_ok, l_exc, t_nx, t_rt, t_exc, c_ok, o_some, out_rt, out_nx, out_exc, k_call, k_init, k_meth, k_makes, k_wf, k_excf, k_sub, k_ask, k_hear, evB, sx_k_e, sx_k_t, sx_k_n, sx_k_i, sx_k_p, sx_v_e, sx_v_t, sx_v_n, sx_v_i, sx_v_p, sx_gl_e, sx_gl_t, sx_gl_n, sx_gl_i, sx_gl_p, sx_bin_e, sx_bin_t, sx_bin_n, sx_bin_i, sx_bin_p, sx_not_e, sx_not_t, sx_not_n, sx_neg_e, sx_neg_t, sx_neg_n, sx_neg_i, sx_neg_p, sx_one_e, sx_one_t, sx_one_n, sx_and_e, sx_and_t, sx_and_n, sx_or_e, sx_or_t, sx_or_n, sx_ite_e, sx_ite_t, sx_ite_n, sx_ite_i, sx_ite_p, sx_cmp_e, sx_cmp_t, sx_cmp_n, sx_cmp_i, sx_cmp_p, sx_cmp2_e, sx_cmp2_t, sx_cmp2_n, sx_cmp2_i, sx_cmp2_p, sx_call_e, sx_call_t, sx_call_n, sx_call_i, sx_call_p, sx_callk_e, sx_callk_t, sx_callk_n, sx_callk_i, sx_callk_p, sx_mkk_e, sx_mkk_t, sx_mkk_n, sx_mkk_i, sx_mkk_p, sx_methk_e, sx_methk_t, sx_methk_n, sx_methk_i, sx_methk_p, sx_mk_e, sx_mk_t, sx_mk_n, sx_mk_i, sx_mk_p, sx_meth_e, sx_meth_t, sx_meth_n, sx_meth_i, sx_meth_p, sx_attr_e, sx_attr_t, sx_attr_n, sx_attr_i, sx_attr_p, sx_sub_e, sx_sub_t, sx_sub_n, sx_sub_i, sx_sub_p, sx_slice_e, sx_slice_t, sx_slice_n, sx_slice_i, sx_slice_p, sx_tup_e, sx_tup_t, sx_tup_n, sx_tup_i, sx_tup_p, sx_lst_e, sx_lst_t, sx_lst_n, sx_lst_i, sx_lst_p, sx_mls_e, sx_mls_t, sx_mls_n, sx_mls_i, sx_mls_p, sx_comp_e, sx_comp_t, sx_comp_n, sx_comp_i, sx_comp_p, sx_bi_e, sx_bi_t, sx_bi_n, sx_bi_i, sx_bi_p, sx_isin_e, sx_isin_t, sx_isin_n, sx_isin_i, sx_isin_p, sx_sm_e, sx_sm_t, sx_sm_n, sx_sm_i, sx_sm_p, sx_hear_e, sx_hear_t, sx_hear_n, sx_hear_i, sx_hear_p, sx_dct_e, sx_dct_t, sx_dct_n, sx_dct_i, sx_dct_p, sx_rng_i, sx_enum_i, sx_nil_a, sx_nil_n, sx_nil_p, sx_cons_a, asgW, putP, tru_bl, cmp_gt, cmp_lt, cmp_ge, bi_int, bi_intb, bi_abs, bin_add, bin_sub, Option.map_some, Option.getD_some, List.map_cons, List.map_nil, List.replicate_succ, List.replicate_zero, List.cons_append, List.nil_append, List.getElem?_cons_zero, List.getElem?_cons_succ, List.set_cons_zero, List.set_cons_succ, lam_int, lam_ref, lam_lst, lam_tup, lam_str, lam_non, lam_bl, lam_exn, lam_dct, lim_0, lim_1, lim_2, lim_3, lim_4, lim_5, lim_6, lim_7, lim_8, lim_9, lim_10, if_true, if_false, Bool.false_eq_true, ↓reduceIte, Nat.reduceAdd, pen0 q1, bi_len len_lst, List.length_map, decide_eq_true c3, pow18, decide_eq_false c4, modA, mulA, p5, hx5, mul2, mm, mn, p3, modC, div32, bin_mod hm]
        · simp only [b_ok, b_exc, l_ok, l_exc, t_nx, t_rt, t_exc, c_ok, o_some, out_rt, out_nx, out_exc, k_call, k_init, k_meth, k_makes, k_wf, k_excf, k_sub, k_ask, k_hear, evB, sx_k_e, sx_k_t, sx_k_n, sx_k_i, sx_k_p, sx_v_e, sx_v_t, sx_v_n, sx_v_i, sx_v_p, sx_gl_e, sx_gl_t, sx_gl_n, sx_gl_i, sx_gl_p, sx_bin_e, sx_bin_t, sx_bin_n, sx_bin_i, sx_bin_p, sx_not_e, sx_not_t, sx_not_n, sx_neg_e, sx_neg_t, sx_neg_n, sx_neg_i, sx_neg_p, sx_one_e, sx_one_t, sx_one_n, sx_and_e, sx_and_t, sx_and_n, sx_or_e, sx_or_t, sx_or_n, sx_ite_e, sx_ite_t, sx_ite_n, sx_ite_i, sx_ite_p, sx_cmp_e, sx_cmp_t, sx_cmp_n, sx_cmp_i, sx_cmp_p, sx_cmp2_e, sx_cmp2_t, sx_cmp2_n, sx_cmp2_i, sx_cmp2_p, sx_call_e, sx_call_t, sx_call_n, sx_call_i, sx_call_p, sx_callk_e, sx_callk_t, sx_callk_n, sx_callk_i, sx_callk_p, sx_mkk_e, sx_mkk_t, sx_mkk_n, sx_mkk_i, sx_mkk_p, sx_methk_e, sx_methk_t, sx_methk_n, sx_methk_i, sx_methk_p, sx_mk_e, sx_mk_t, sx_mk_n, sx_mk_i, sx_mk_p, sx_meth_e, sx_meth_t, sx_meth_n, sx_meth_i, sx_meth_p, sx_attr_e, sx_attr_t, sx_attr_n, sx_attr_i, sx_attr_p, sx_sub_e, sx_sub_t, sx_sub_n, sx_sub_i, sx_sub_p, sx_slice_e, sx_slice_t, sx_slice_n, sx_slice_i, sx_slice_p, sx_tup_e, sx_tup_t, sx_tup_n, sx_tup_i, sx_tup_p, sx_lst_e, sx_lst_t, sx_lst_n, sx_lst_i, sx_lst_p, sx_mls_e, sx_mls_t, sx_mls_n, sx_mls_i, sx_mls_p, sx_comp_e, sx_comp_t, sx_comp_n, sx_comp_i, sx_comp_p, sx_bi_e, sx_bi_t, sx_bi_n, sx_bi_i, sx_bi_p, sx_isin_e, sx_isin_t, sx_isin_n, sx_isin_i, sx_isin_p, sx_sm_e, sx_sm_t, sx_sm_n, sx_sm_i, sx_sm_p, sx_hear_e, sx_hear_t, sx_hear_n, sx_hear_i, sx_hear_p, sx_dct_e, sx_dct_t, sx_dct_n, sx_dct_i, sx_dct_p, sx_rng_i, sx_enum_i, sx_nil_a, sx_nil_n, sx_nil_p, sx_cons_a, asgW, putP, tru_bl, cmp_gt, cmp_lt, cmp_ge, bi_int, bi_intb, bi_abs, bin_add, bin_sub, Option.map_some, Option.getD_some, List.map_cons, List.map_nil, List.replicate_succ, List.replicate_zero, List.cons_append, List.nil_append, List.getElem?_cons_zero, List.getElem?_cons_succ, List.set_cons_zero, List.set_cons_succ, lam_int, lam_ref, lam_lst, lam_tup, lam_str, lam_non, lam_bl, lam_exn, lam_dct, lim_0, lim_1, lim_2, lim_3, lim_4, lim_5, lim_6, lim_7, lim_8, lim_9, lim_10, if_true, if_false, Bool.false_eq_true, ↓reduceIte, Nat.reduceAdd, pen0 q1, bi_len len_lst, List.length_map, decide_eq_false c3, modA, mulA, p5, hx5, mul2, mm, mn, p3, modC, div32, bin_mod hm]
    by_cases ce : cells = []
    · obtain ⟨d, g', e, r1, r2, r3⟩ := key (141445 * at_ + 16349)
      refine ⟨d, at_ + 1, g', ?_, r1, r2, by omega, by omega, r3⟩
      rw [run_at (d := d7) rfl k _ s rfl]
      unfold d7
      rw [t7_eq]
      unfold t7
      dsimp only [hd1, tl1]
      have ne0 : (!cells.isEmpty) = false := by rw [ce]; rfl
      simp only [b_ok, b_exc, l_ok, l_exc, t_nx, t_rt, t_exc, c_ok, o_some, out_rt, out_nx, out_exc, k_call, k_init, k_meth, k_makes, k_wf, k_excf, k_sub, k_ask, k_hear, evB, sx_k_e, sx_k_t, sx_k_n, sx_k_i, sx_k_p, sx_v_e, sx_v_t, sx_v_n, sx_v_i, sx_v_p, sx_gl_e, sx_gl_t, sx_gl_n, sx_gl_i, sx_gl_p, sx_bin_e, sx_bin_t, sx_bin_n, sx_bin_i, sx_bin_p, sx_not_e, sx_not_t, sx_not_n, sx_neg_e, sx_neg_t, sx_neg_n, sx_neg_i, sx_neg_p, sx_one_e, sx_one_t, sx_one_n, sx_and_e, sx_and_t, sx_and_n, sx_or_e, sx_or_t, sx_or_n, sx_ite_e, sx_ite_t, sx_ite_n, sx_ite_i, sx_ite_p, sx_cmp_e, sx_cmp_t, sx_cmp_n, sx_cmp_i, sx_cmp_p, sx_cmp2_e, sx_cmp2_t, sx_cmp2_n, sx_cmp2_i, sx_cmp2_p, sx_call_e, sx_call_t, sx_call_n, sx_call_i, sx_call_p, sx_callk_e, sx_callk_t, sx_callk_n, sx_callk_i, sx_callk_p, sx_mkk_e, sx_mkk_t, sx_mkk_n, sx_mkk_i, sx_mkk_p, sx_methk_e, sx_methk_t, sx_methk_n, sx_methk_i, sx_methk_p, sx_mk_e, sx_mk_t, sx_mk_n, sx_mk_i, sx_mk_p, sx_meth_e, sx_meth_t, sx_meth_n, sx_meth_i, sx_meth_p, sx_attr_e, sx_attr_t, sx_attr_n, sx_attr_i, sx_attr_p, sx_sub_e, sx_sub_t, sx_sub_n, sx_sub_i, sx_sub_p, sx_slice_e, sx_slice_t, sx_slice_n, sx_slice_i, sx_slice_p, sx_tup_e, sx_tup_t, sx_tup_n, sx_tup_i, sx_tup_p, sx_lst_e, sx_lst_t, sx_lst_n, sx_lst_i, sx_lst_p, sx_mls_e, sx_mls_t, sx_mls_n, sx_mls_i, sx_mls_p, sx_comp_e, sx_comp_t, sx_comp_n, sx_comp_i, sx_comp_p, sx_bi_e, sx_bi_t, sx_bi_n, sx_bi_i, sx_bi_p, sx_isin_e, sx_isin_t, sx_isin_n, sx_isin_i, sx_isin_p, sx_sm_e, sx_sm_t, sx_sm_n, sx_sm_i, sx_sm_p, sx_hear_e, sx_hear_t, sx_hear_n, sx_hear_i, sx_hear_p, sx_dct_e, sx_dct_t, sx_dct_n, sx_dct_i, sx_dct_p, sx_rng_i, sx_enum_i, sx_nil_a, sx_nil_n, sx_nil_p, sx_cons_a, asgW, putP, tru_bl, cmp_gt, cmp_lt, cmp_ge, bi_int, bi_intb, bi_abs, bin_add, bin_sub, Option.map_some, Option.getD_some, List.map_cons, List.map_nil, List.replicate_succ, List.replicate_zero, List.cons_append, List.nil_append, List.getElem?_cons_zero, List.getElem?_cons_succ, List.set_cons_zero, List.set_cons_succ, lam_int, lam_ref, lam_lst, lam_tup, lam_str, lam_non, lam_bl, lam_exn, lam_dct, lim_0, lim_1, lim_2, lim_3, lim_4, lim_5, lim_6, lim_7, lim_8, lim_9, lim_10, if_true, if_false, Bool.false_eq_true, ↓reduceIte, Nat.reduceAdd, pen2 h, decide_eq_false c, pen1 h, put1 h, mulB, pen0 q1, ne_nil, ne0, e none none]
    · have l0 : 0 < cells.length := List.length_pos_iff.mpr ce
      have i0 := Int.emod_nonneg at_ (show (cells.length : Int) ≠ 0 by omega)
      have i1 := Int.emod_lt_of_pos at_ (show (0 : Int) < cells.length by omega)
      obtain ⟨c0, hc0⟩ := sub_cells (s := s.set p (penO cells (at_ + 1) g)) i0 i1 (by omega)
      obtain ⟨d, g', e, r1, r2, r3⟩ := key c0
      refine ⟨d, at_ + 1, g', ?_, r1, r2, by omega, by omega, r3⟩
      rw [run_at (d := d7) rfl k _ s rfl]
      unfold d7
      rw [t7_eq]
      unfold t7
      dsimp only [hd1, tl1]
      have ne1 : (!cells.isEmpty) = true := by cases cells <;> first | rfl | exact absurd rfl ce
      have ml : ∀ {s : S}, binW s .mod (.int at_) (.int cells.length) = .ok (.int (at_ % cells.length)) s := bin_mod (by omega)
      simp only [b_ok, b_exc, l_ok, l_exc, t_nx, t_rt, t_exc, c_ok, o_some, out_rt, out_nx, out_exc, k_call, k_init, k_meth, k_makes, k_wf, k_excf, k_sub, k_ask, k_hear, evB, sx_k_e, sx_k_t, sx_k_n, sx_k_i, sx_k_p, sx_v_e, sx_v_t, sx_v_n, sx_v_i, sx_v_p, sx_gl_e, sx_gl_t, sx_gl_n, sx_gl_i, sx_gl_p, sx_bin_e, sx_bin_t, sx_bin_n, sx_bin_i, sx_bin_p, sx_not_e, sx_not_t, sx_not_n, sx_neg_e, sx_neg_t, sx_neg_n, sx_neg_i, sx_neg_p, sx_one_e, sx_one_t, sx_one_n, sx_and_e, sx_and_t, sx_and_n, sx_or_e, sx_or_t, sx_or_n, sx_ite_e, sx_ite_t, sx_ite_n, sx_ite_i, sx_ite_p, sx_cmp_e, sx_cmp_t, sx_cmp_n, sx_cmp_i, sx_cmp_p, sx_cmp2_e, sx_cmp2_t, sx_cmp2_n, sx_cmp2_i, sx_cmp2_p, sx_call_e, sx_call_t, sx_call_n, sx_call_i, sx_call_p, sx_callk_e, sx_callk_t, sx_callk_n, sx_callk_i, sx_callk_p, sx_mkk_e, sx_mkk_t, sx_mkk_n, sx_mkk_i, sx_mkk_p, sx_methk_e, sx_methk_t, sx_methk_n, sx_methk_i, sx_methk_p, sx_mk_e, sx_mk_t, sx_mk_n, sx_mk_i, sx_mk_p, sx_meth_e, sx_meth_t, sx_meth_n, sx_meth_i, sx_meth_p, sx_attr_e, sx_attr_t, sx_attr_n, sx_attr_i, sx_attr_p, sx_sub_e, sx_sub_t, sx_sub_n, sx_sub_i, sx_sub_p, sx_slice_e, sx_slice_t, sx_slice_n, sx_slice_i, sx_slice_p, sx_tup_e, sx_tup_t, sx_tup_n, sx_tup_i, sx_tup_p, sx_lst_e, sx_lst_t, sx_lst_n, sx_lst_i, sx_lst_p, sx_mls_e, sx_mls_t, sx_mls_n, sx_mls_i, sx_mls_p, sx_comp_e, sx_comp_t, sx_comp_n, sx_comp_i, sx_comp_p, sx_bi_e, sx_bi_t, sx_bi_n, sx_bi_i, sx_bi_p, sx_isin_e, sx_isin_t, sx_isin_n, sx_isin_i, sx_isin_p, sx_sm_e, sx_sm_t, sx_sm_n, sx_sm_i, sx_sm_p, sx_hear_e, sx_hear_t, sx_hear_n, sx_hear_i, sx_hear_p, sx_dct_e, sx_dct_t, sx_dct_n, sx_dct_i, sx_dct_p, sx_rng_i, sx_enum_i, sx_nil_a, sx_nil_n, sx_nil_p, sx_cons_a, asgW, putP, tru_bl, cmp_gt, cmp_lt, cmp_ge, bi_int, bi_intb, bi_abs, bin_add, bin_sub, Option.map_some, Option.getD_some, List.map_cons, List.map_nil, List.replicate_succ, List.replicate_zero, List.cons_append, List.nil_append, List.getElem?_cons_zero, List.getElem?_cons_succ, List.set_cons_zero, List.set_cons_succ, lam_int, lam_ref, lam_lst, lam_tup, lam_str, lam_non, lam_bl, lam_exn, lam_dct, lim_0, lim_1, lim_2, lim_3, lim_4, lim_5, lim_6, lim_7, lim_8, lim_9, lim_10, if_true, if_false, Bool.false_eq_true, ↓reduceIte, Nat.reduceAdd, pen2 h, decide_eq_false c, pen1 h, put1 h, mulB, pen0 q1, ne_nil, ne1, bi_len len_lst, List.length_map, ml, hc0, e none none]
end Law

set_option linter.all false
set_option autoImplicit false
set_option maxRecDepth 100000
set_option maxHeartbeats 4000000
namespace Law
open Ev
open PySem (Str)

def PenAt (s : S) (p n : Nat) : Prop := ∃ cells at_ g, s.get p = some (penO cells at_ g) ∧ cells.length ≤ 63 ∧ 0 ≤ at_ ∧ at_ ≤ (n : Int) ∧ 0 ≤ g
def Keep (s s' : S) : Prop := s.size ≤ s'.size ∧ ∀ i, i < s.size → s'.get i = s.get i
theorem Keep.refl (s : S) : Keep s s := ⟨Nat.le_refl _, fun _ _ => rfl⟩
theorem Keep.trans {a b c : S} (h : Keep a b) (k : Keep b c) : Keep a c := ⟨Nat.le_trans h.1 k.1, fun i hi => (k.2 i (Nat.lt_of_lt_of_le hi h.1)).trans (h.2 i hi)⟩
theorem Keep.new (s : S) (o : Ob) : Keep s (s.new o) := ⟨by simp [S.new, S.size], fun i hi => by
  unfold S.new S.get
  exact List.getElem?_append_left hi⟩
theorem Keep.set {s s' : S} (h : Keep s s') {i : Nat} (hi : s.size ≤ i) (o : Ob) : Keep s (s'.set i o) := ⟨by simpa [S.set, S.size] using h.1, fun j hj => by
  rw [← h.2 j hj]
  unfold S.set S.get
  exact List.getElem?_set_ne (by omega)⟩
theorem PenAt.keep {s s' : S} {p n : Nat} (h : PenAt s p n) (k : Keep s s') : PenAt s' p n := by
  obtain ⟨c, a, g, e, r⟩ := h
  exact ⟨c, a, g, by rw [k.2 p (get_lt e)]; exact e, r⟩
theorem PenAt.up {s : S} {p n m : Nat} (h : PenAt s p n) (k : n ≤ m) : PenAt s p m := by
  obtain ⟨c, a, g, e, r1, r2, r3, r4⟩ := h
  exact ⟨c, a, g, e, r1, r2, by omega, r4⟩
theorem draw_at (k : Nat) {s : S} {p n : Nat} {many : Int} (h : PenAt s p n) (hn : n < 1000000) (hm : 0 < many) (hm2 : many < 2 ^ 64) : ∃ d s', callF pg (k + 4) 7 [.ref p, .int many] s = .ok (.int d) s' ∧ PenAt s' p (n + 1) ∧ 0 ≤ d ∧ d < many := by
  obtain ⟨c, a, g, e, r1, r2, r3, r4⟩ := h
  obtain ⟨d, a', g', e', q1, q2, q3, q4, q5⟩ := draw_spec k e r1 r2 (by omega) r4 hm hm2
  exact ⟨d, _, e', ⟨c, a', g', get_set e, r1, q3, by omega, q5⟩, q1, q2⟩
theorem pick_at (k : Nat) {s : S} {p n : Nat} {ws : List W} (h : PenAt s p n) (hn : n < 1000000) (hw : ws ≠ []) (hl : ws.length < 1000) : ∃ w s', callF pg (k + 5) 8 [.ref p, .lst ws] s = .ok w s' ∧ PenAt s' p (n + 1) ∧ w ∈ ws := by
  have l0 : 0 < ws.length := List.length_pos_iff.mpr hw
  obtain ⟨d, s', e, q, d0, d1⟩ := draw_at k h hn (show (0 : Int) < ws.length by omega) (by omega)
  have e' : callF pg (k + 1 + 3) 7 [.ref p, .int ws.length] s = .ok (.int d) s' := e
  refine ⟨ws[d.toNat]'(by omega), s', ?_, q, List.getElem_mem _⟩
  rw [run_at (d := d8) rfl (k + 1) _ s rfl]
  unfold d8 t8
  simp only [b_ok, b_exc, l_ok, l_exc, t_nx, t_rt, t_exc, c_ok, o_some, out_rt, out_nx, out_exc, k_call, k_init, k_meth, k_makes, k_wf, k_excf, k_sub, k_ask, k_hear, evB, sx_k_e, sx_k_t, sx_k_n, sx_k_i, sx_k_p, sx_v_e, sx_v_t, sx_v_n, sx_v_i, sx_v_p, sx_gl_e, sx_gl_t, sx_gl_n, sx_gl_i, sx_gl_p, sx_bin_e, sx_bin_t, sx_bin_n, sx_bin_i, sx_bin_p, sx_not_e, sx_not_t, sx_not_n, sx_neg_e, sx_neg_t, sx_neg_n, sx_neg_i, sx_neg_p, sx_one_e, sx_one_t, sx_one_n, sx_and_e, sx_and_t, sx_and_n, sx_or_e, sx_or_t, sx_or_n, sx_ite_e, sx_ite_t, sx_ite_n, sx_ite_i, sx_ite_p, sx_cmp_e, sx_cmp_t, sx_cmp_n, sx_cmp_i, sx_cmp_p, sx_cmp2_e, sx_cmp2_t, sx_cmp2_n, sx_cmp2_i, sx_cmp2_p, sx_call_e, sx_call_t, sx_call_n, sx_call_i, sx_call_p, sx_callk_e, sx_callk_t, sx_callk_n, sx_callk_i, sx_callk_p, sx_mkk_e, sx_mkk_t, sx_mkk_n, sx_mkk_i, sx_mkk_p, sx_methk_e, sx_methk_t, sx_methk_n, sx_methk_i, sx_methk_p, sx_mk_e, sx_mk_t, sx_mk_n, sx_mk_i, sx_mk_p, sx_meth_e, sx_meth_t, sx_meth_n, sx_meth_i, sx_meth_p, sx_attr_e, sx_attr_t, sx_attr_n, sx_attr_i, sx_attr_p, sx_sub_e, sx_sub_t, sx_sub_n, sx_sub_i, sx_sub_p, sx_slice_e, sx_slice_t, sx_slice_n, sx_slice_i, sx_slice_p, sx_tup_e, sx_tup_t, sx_tup_n, sx_tup_i, sx_tup_p, sx_lst_e, sx_lst_t, sx_lst_n, sx_lst_i, sx_lst_p, sx_mls_e, sx_mls_t, sx_mls_n, sx_mls_i, sx_mls_p, sx_comp_e, sx_comp_t, sx_comp_n, sx_comp_i, sx_comp_p, sx_bi_e, sx_bi_t, sx_bi_n, sx_bi_i, sx_bi_p, sx_isin_e, sx_isin_t, sx_isin_n, sx_isin_i, sx_isin_p, sx_sm_e, sx_sm_t, sx_sm_n, sx_sm_i, sx_sm_p, sx_hear_e, sx_hear_t, sx_hear_n, sx_hear_i, sx_hear_p, sx_dct_e, sx_dct_t, sx_dct_n, sx_dct_i, sx_dct_p, sx_rng_i, sx_enum_i, sx_nil_a, sx_nil_n, sx_nil_p, sx_cons_a, asgW, putP, tru_bl, cmp_gt, cmp_lt, cmp_ge, bi_int, bi_intb, bi_abs, bin_add, bin_sub, Option.map_some, Option.getD_some, List.map_cons, List.map_nil, List.replicate_succ, List.replicate_zero, List.cons_append, List.nil_append, List.getElem?_cons_zero, List.getElem?_cons_succ, List.set_cons_zero, List.set_cons_succ, lam_int, lam_ref, lam_lst, lam_tup, lam_str, lam_non, lam_bl, lam_exn, lam_dct, lim_0, lim_1, lim_2, lim_3, lim_4, lim_5, lim_6, lim_7, lim_8, lim_9, lim_10, if_true, if_false, Bool.false_eq_true, ↓reduceIte, Nat.reduceAdd, bi_len len_lst, e', sub_at (s := s') (x := .lst ws) (ws := ws) (i := d) rfl d0 (by omega) (by omega)]
/-- a comprehension's loop -/
inductive Prd {α β : Type} (P : α → β → Prop) : List α → List β → Prop
  | nil : Prd P [] []
  | cons {a b as bs} : P a b → Prd P as bs → Prd P (a :: as) (b :: bs)
section
variable {pre : W → S → Option Env} {test : Env → S → R Bool} {elt : Env → S → R W} {src : Src} {n i : Nat} {acc : List W} {s s1 s2 : S} {w y : W} {e : Env}
theorem compL_end (h : src.at s i = some none) : compL pre test elt src (n + 1) i acc s = .ok (.lst acc) s := by
  unfold compL
  rw [h]
theorem compL_step (h : src.at s i = some (some w)) (h1 : pre w s = some e) (h2 : test e s = .ok true s1) (h3 : elt e s1 = .ok y s2) (hl : acc.length < lim) : compL pre test elt src (n + 1) i acc s = compL pre test elt src n (i + 1) (acc ++ [y]) s2 := by
  rw [compL]
  rw [h]
  dsimp only
  rw [h1]
  dsimp only
  rw [h2]
  simp only [c_ok, b_ok, if_true]
  rw [h3]
  simp only [c_ok, b_ok]
  rw [if_pos hl]
end
theorem comp_its {pre : W → S → Option Env} {test : Env → S → R Bool} {elt : Env → S → R W} {ws : List W} (I : Nat → S → Prop) (G : W → W → Prop)
    (step : ∀ i w s, ws[i]? = some w → I i s → ∃ e y s', pre w s = some e ∧ test e s = .ok true s ∧ elt e s = .ok y s' ∧ G w y ∧ I (i + 1) s') :
    ∀ (n i : Nat) (acc : List W) (s : S), ws.length < n + i → i ≤ ws.length → I i s → acc.length + (ws.length - i) ≤ lim → ∃ ys s', compL pre test elt (.its ws) n i acc s = .ok (.lst (acc ++ ys)) s' ∧ Prd G (ws.drop i) ys ∧ I ws.length s'
  | 0, i, acc, s, h1, h2, _, _ => absurd h1 (by omega)
  | n + 1, i, acc, s, h1, h2, hI, hl => by
    by_cases c : i < ws.length
    · have e0 : ws[i]? = some ws[i] := List.getElem?_eq_getElem c
      obtain ⟨e, y, s', a1, a2, a3, a4, a5⟩ := step i _ s e0 hI
      obtain ⟨ys, s2, b1, b2, b3⟩ := comp_its I G step n (i + 1) (acc ++ [y]) s' (by omega) (by omega) a5 (by rw [List.length_append, List.length_singleton]; omega)
      refine ⟨y :: ys, s2, ?_, ?_, b3⟩
      · rw [compL_step (src := .its ws) (acc := acc) (show (Src.its ws).at s i = some (some ws[i]) from congrArg some e0) a1 a2 a3 (by omega), b1, List.append_assoc]
        rfl
      · rw [List.drop_eq_getElem_cons c]
        exact .cons a4 b2
    · have e1 : i = ws.length := by omega
      subst e1
      refine ⟨[], s, ?_, ?_, hI⟩
      · rw [compL_end (src := .its ws) (show (Src.its ws).at s ws.length = some none from congrArg some (List.getElem?_eq_none (Nat.le_refl _))), List.append_nil]
      · rw [List.drop_length]
        exact .nil
theorem Prd.map_eq {α β : Type} {f : α → β} : ∀ {as : List α} {bs : List β}, Prd (fun a b => b = f a) as bs → bs = as.map f
  | _, _, .nil => rfl
  | _, _, .cons h t => by rw [h, t.map_eq]; rfl
theorem Prd.len {α β : Type} {P : α → β → Prop} : ∀ {as : List α} {bs : List β}, Prd P as bs → as.length = bs.length
  | _, _, .nil => rfl
  | _, _, .cons _ t => by simp [t.len]
theorem Prd.right {α β : Type} {P : β → Prop} : ∀ {as : List α} {bs : List β}, Prd (fun _ b => P b) as bs → ∀ b ∈ bs, P b
  | _, _, .nil => fun _ h => absurd h (by simp)
  | _, _, .cons h t => fun b hb => (List.mem_cons.mp hb).elim (fun z => z ▸ h) (t.right b)
def isAns (x : Str) : Prop := x = "yes" ∨ x = "no"
theorem strs_of : ∀ {ys : List W}, (∀ y ∈ ys, ∃ x, y = .str x ∧ isAns x) → ∃ xs : List Str, ys = xs.map .str ∧ ∀ x ∈ xs, isAns x
  | [], _ => ⟨[], rfl, fun _ h => absurd h (by simp)⟩
  | y :: ys, h => by
    obtain ⟨x, rfl, hx⟩ := h y (by simp)
    obtain ⟨xs, rfl, hxs⟩ := strs_of (ys := ys) fun z hz => h z (by simp [hz])
    exact ⟨x :: xs, rfl, fun z hz => (List.mem_cons.mp hz).elim (fun e => e ▸ hx) (hxs z)⟩
theorem bi_tup {s : S} {ws : List W} : biW s .tuple [.lst ws] = .ok (.tup ws) s := rfl
theorem bi_lst {s : S} {ws : List W} : biW s .list [.tup ws] = .ok (.lst ws) s := rfl
theorem rng1 {s : S} {d : Int} (h0 : 0 ≤ d) (h1 : d < 2 ^ 60) : rngW [.int d] s = .ok (.its ((List.range d.toNat).map fun (j : Nat) => W.int (0 + (j : Int)))) s := by
  unfold rngW
  dsimp only
  rw [if_pos (by rw [Bool.and_eq_true, decide_eq_true_eq, decide_eq_true_eq]; omega)]
theorem course_at (k : Nat) {s : S} {p n : Nat} (h : PenAt s p n) (hn : n < 10000) : ∃ (xs : List Str) (s' : S), callF pg (k + 6) 10 [.ref p, .int 9] s = .ok (.tup (xs.map .str)) s' ∧ PenAt s' p (n + 20) ∧ xs.length ≤ 9 ∧ ∀ x ∈ xs, isAns x := by
  obtain ⟨d, s1, e, q, d0, d1⟩ := draw_at (k + 1) h (by omega) (show (0 : Int) < 10 by decide) (by decide)
  have e' : callF pg (k + 2 + 3) 7 [.ref p, .int 10] s = .ok (.int d) s1 := e
  have lw : ((List.range d.toNat).map fun (j : Nat) => W.int (0 + (j : Int))).length = d.toNat := by simp
  obtain ⟨ys, s2, c1, c2, c3⟩ := comp_its (pre := fun w s => putP s (.n 2) [w] (wipeE [some (.ref p), some (.int 9), none] (Pt.n 2).ix)) (test := fun e s => (sem (ctxK pg (k + 2) fun _ => .fail) .nil).n e s)
    (elt := fun e s => (sem (ctxK pg (k + 2) fun _ => .fail) (.call "_law_pick" 8 (.cons (.v 0) (.cons (.lst (.cons (.k (.str "yes")) (.cons (.k (.str "no")) .nil))) .nil)))).e e s)
    (ws := (List.range d.toNat).map fun (j : Nat) => W.int (0 + (j : Int))) (fun i s => PenAt s p (n + 1 + i)) (fun _ y => ∃ x, y = .str x ∧ isAns x) (fun i w s hi hI => by
      obtain ⟨y, s', a1, a2, a3⟩ := pick_at k hI (by have := (List.getElem?_eq_some_iff.mp hi).1; rw [lw] at this; omega) (show [W.str "yes", W.str "no"] ≠ [] by simp) (by simp)
      have a1' : callF pg (k + 2 + 3) 8 [.ref p, .lst [.str "yes", .str "no"]] s = .ok y s' := a1
      refine ⟨[some (.ref p), some (.int 9), some w], y, s', rfl, rfl, ?_, ?_, a2⟩
      · simp only [b_ok, b_exc, l_ok, l_exc, t_nx, t_rt, t_exc, c_ok, o_some, out_rt, out_nx, out_exc, k_call, k_init, k_meth, k_makes, k_wf, k_excf, k_sub, k_ask, k_hear, evB, sx_k_e, sx_k_t, sx_k_n, sx_k_i, sx_k_p, sx_v_e, sx_v_t, sx_v_n, sx_v_i, sx_v_p, sx_gl_e, sx_gl_t, sx_gl_n, sx_gl_i, sx_gl_p, sx_bin_e, sx_bin_t, sx_bin_n, sx_bin_i, sx_bin_p, sx_not_e, sx_not_t, sx_not_n, sx_neg_e, sx_neg_t, sx_neg_n, sx_neg_i, sx_neg_p, sx_one_e, sx_one_t, sx_one_n, sx_and_e, sx_and_t, sx_and_n, sx_or_e, sx_or_t, sx_or_n, sx_ite_e, sx_ite_t, sx_ite_n, sx_ite_i, sx_ite_p, sx_cmp_e, sx_cmp_t, sx_cmp_n, sx_cmp_i, sx_cmp_p, sx_cmp2_e, sx_cmp2_t, sx_cmp2_n, sx_cmp2_i, sx_cmp2_p, sx_call_e, sx_call_t, sx_call_n, sx_call_i, sx_call_p, sx_callk_e, sx_callk_t, sx_callk_n, sx_callk_i, sx_callk_p, sx_mkk_e, sx_mkk_t, sx_mkk_n, sx_mkk_i, sx_mkk_p, sx_methk_e, sx_methk_t, sx_methk_n, sx_methk_i, sx_methk_p, sx_mk_e, sx_mk_t, sx_mk_n, sx_mk_i, sx_mk_p, sx_meth_e, sx_meth_t, sx_meth_n, sx_meth_i, sx_meth_p, sx_attr_e, sx_attr_t, sx_attr_n, sx_attr_i, sx_attr_p, sx_sub_e, sx_sub_t, sx_sub_n, sx_sub_i, sx_sub_p, sx_slice_e, sx_slice_t, sx_slice_n, sx_slice_i, sx_slice_p, sx_tup_e, sx_tup_t, sx_tup_n, sx_tup_i, sx_tup_p, sx_lst_e, sx_lst_t, sx_lst_n, sx_lst_i, sx_lst_p, sx_mls_e, sx_mls_t, sx_mls_n, sx_mls_i, sx_mls_p, sx_comp_e, sx_comp_t, sx_comp_n, sx_comp_i, sx_comp_p, sx_bi_e, sx_bi_t, sx_bi_n, sx_bi_i, sx_bi_p, sx_isin_e, sx_isin_t, sx_isin_n, sx_isin_i, sx_isin_p, sx_sm_e, sx_sm_t, sx_sm_n, sx_sm_i, sx_sm_p, sx_hear_e, sx_hear_t, sx_hear_n, sx_hear_i, sx_hear_p, sx_dct_e, sx_dct_t, sx_dct_n, sx_dct_i, sx_dct_p, sx_rng_i, sx_enum_i, sx_nil_a, sx_nil_n, sx_nil_p, sx_cons_a, asgW, putP, tru_bl, cmp_gt, cmp_lt, cmp_ge, bi_int, bi_intb, bi_abs, bin_add, bin_sub, Option.map_some, Option.getD_some, List.map_cons, List.map_nil, List.replicate_succ, List.replicate_zero, List.cons_append, List.nil_append, List.getElem?_cons_zero, List.getElem?_cons_succ, List.set_cons_zero, List.set_cons_succ, lam_int, lam_ref, lam_lst, lam_tup, lam_str, lam_non, lam_bl, lam_exn, lam_dct, lim_0, lim_1, lim_2, lim_3, lim_4, lim_5, lim_6, lim_7, lim_8, lim_9, lim_10, if_true, if_false, Bool.false_eq_true, ↓reduceIte, Nat.reduceAdd, a1']
      · rcases List.mem_cons.mp a3 with z | z
        · exact ⟨_, z, .inl rfl⟩
        · exact ⟨_, List.mem_singleton.mp z, .inr rfl⟩) 100000 0 [] s1 (by rw [lw]; omega) (Nat.zero_le _) q (by rw [lw]; show 0 + (d.toNat - 0) ≤ 16777216; omega)
  obtain ⟨xs, rfl, hx⟩ := strs_of c2.right
  refine ⟨xs, s2, ?_, c3.up (by rw [lw]; omega), ?_, hx⟩
  · rw [run_at (d := d10) rfl (k + 2) _ s rfl]
    unfold d10 t10
    have e9 : (9 : Int) + 1 = 10 := rfl
    rw [List.nil_append] at c1
    simp only [b_ok, b_exc, l_ok, l_exc, t_nx, t_rt, t_exc, c_ok, o_some, out_rt, out_nx, out_exc, k_call, k_init, k_meth, k_makes, k_wf, k_excf, k_sub, k_ask, k_hear, evB, sx_k_e, sx_k_t, sx_k_n, sx_k_i, sx_k_p, sx_v_e, sx_v_t, sx_v_n, sx_v_i, sx_v_p, sx_gl_e, sx_gl_t, sx_gl_n, sx_gl_i, sx_gl_p, sx_bin_e, sx_bin_t, sx_bin_n, sx_bin_i, sx_bin_p, sx_not_e, sx_not_t, sx_not_n, sx_neg_e, sx_neg_t, sx_neg_n, sx_neg_i, sx_neg_p, sx_one_e, sx_one_t, sx_one_n, sx_and_e, sx_and_t, sx_and_n, sx_or_e, sx_or_t, sx_or_n, sx_ite_e, sx_ite_t, sx_ite_n, sx_ite_i, sx_ite_p, sx_cmp_e, sx_cmp_t, sx_cmp_n, sx_cmp_i, sx_cmp_p, sx_cmp2_e, sx_cmp2_t, sx_cmp2_n, sx_cmp2_i, sx_cmp2_p, sx_call_e, sx_call_t, sx_call_n, sx_call_i, sx_call_p, sx_callk_e, sx_callk_t, sx_callk_n, sx_callk_i, sx_callk_p, sx_mkk_e, sx_mkk_t, sx_mkk_n, sx_mkk_i, sx_mkk_p, sx_methk_e, sx_methk_t, sx_methk_n, sx_methk_i, sx_methk_p, sx_mk_e, sx_mk_t, sx_mk_n, sx_mk_i, sx_mk_p, sx_meth_e, sx_meth_t, sx_meth_n, sx_meth_i, sx_meth_p, sx_attr_e, sx_attr_t, sx_attr_n, sx_attr_i, sx_attr_p, sx_sub_e, sx_sub_t, sx_sub_n, sx_sub_i, sx_sub_p, sx_slice_e, sx_slice_t, sx_slice_n, sx_slice_i, sx_slice_p, sx_tup_e, sx_tup_t, sx_tup_n, sx_tup_i, sx_tup_p, sx_lst_e, sx_lst_t, sx_lst_n, sx_lst_i, sx_lst_p, sx_mls_e, sx_mls_t, sx_mls_n, sx_mls_i, sx_mls_p, sx_comp_e, sx_comp_t, sx_comp_n, sx_comp_i, sx_comp_p, sx_bi_e, sx_bi_t, sx_bi_n, sx_bi_i, sx_bi_p, sx_isin_e, sx_isin_t, sx_isin_n, sx_isin_i, sx_isin_p, sx_sm_e, sx_sm_t, sx_sm_n, sx_sm_i, sx_sm_p, sx_hear_e, sx_hear_t, sx_hear_n, sx_hear_i, sx_hear_p, sx_dct_e, sx_dct_t, sx_dct_n, sx_dct_i, sx_dct_p, sx_rng_i, sx_enum_i, sx_nil_a, sx_nil_n, sx_nil_p, sx_cons_a, asgW, putP, tru_bl, cmp_gt, cmp_lt, cmp_ge, bi_int, bi_intb, bi_abs, bin_add, bin_sub, Option.map_some, Option.getD_some, List.map_cons, List.map_nil, List.replicate_succ, List.replicate_zero, List.cons_append, List.nil_append, List.getElem?_cons_zero, List.getElem?_cons_succ, List.set_cons_zero, List.set_cons_succ, lam_int, lam_ref, lam_lst, lam_tup, lam_str, lam_non, lam_bl, lam_exn, lam_dct, lim_0, lim_1, lim_2, lim_3, lim_4, lim_5, lim_6, lim_7, lim_8, lim_9, lim_10, if_true, if_false, Bool.false_eq_true, ↓reduceIte, Nat.reduceAdd, e9, e', rng1 d0 (show d < 2 ^ 60 by omega)] at c1 ⊢
    rw [show pg.wf = 100000 from rfl, c1]
    simp only [b_ok, b_exc, l_ok, l_exc, t_nx, t_rt, t_exc, c_ok, o_some, out_rt, out_nx, out_exc, k_call, k_init, k_meth, k_makes, k_wf, k_excf, k_sub, k_ask, k_hear, evB, sx_k_e, sx_k_t, sx_k_n, sx_k_i, sx_k_p, sx_v_e, sx_v_t, sx_v_n, sx_v_i, sx_v_p, sx_gl_e, sx_gl_t, sx_gl_n, sx_gl_i, sx_gl_p, sx_bin_e, sx_bin_t, sx_bin_n, sx_bin_i, sx_bin_p, sx_not_e, sx_not_t, sx_not_n, sx_neg_e, sx_neg_t, sx_neg_n, sx_neg_i, sx_neg_p, sx_one_e, sx_one_t, sx_one_n, sx_and_e, sx_and_t, sx_and_n, sx_or_e, sx_or_t, sx_or_n, sx_ite_e, sx_ite_t, sx_ite_n, sx_ite_i, sx_ite_p, sx_cmp_e, sx_cmp_t, sx_cmp_n, sx_cmp_i, sx_cmp_p, sx_cmp2_e, sx_cmp2_t, sx_cmp2_n, sx_cmp2_i, sx_cmp2_p, sx_call_e, sx_call_t, sx_call_n, sx_call_i, sx_call_p, sx_callk_e, sx_callk_t, sx_callk_n, sx_callk_i, sx_callk_p, sx_mkk_e, sx_mkk_t, sx_mkk_n, sx_mkk_i, sx_mkk_p, sx_methk_e, sx_methk_t, sx_methk_n, sx_methk_i, sx_methk_p, sx_mk_e, sx_mk_t, sx_mk_n, sx_mk_i, sx_mk_p, sx_meth_e, sx_meth_t, sx_meth_n, sx_meth_i, sx_meth_p, sx_attr_e, sx_attr_t, sx_attr_n, sx_attr_i, sx_attr_p, sx_sub_e, sx_sub_t, sx_sub_n, sx_sub_i, sx_sub_p, sx_slice_e, sx_slice_t, sx_slice_n, sx_slice_i, sx_slice_p, sx_tup_e, sx_tup_t, sx_tup_n, sx_tup_i, sx_tup_p, sx_lst_e, sx_lst_t, sx_lst_n, sx_lst_i, sx_lst_p, sx_mls_e, sx_mls_t, sx_mls_n, sx_mls_i, sx_mls_p, sx_comp_e, sx_comp_t, sx_comp_n, sx_comp_i, sx_comp_p, sx_bi_e, sx_bi_t, sx_bi_n, sx_bi_i, sx_bi_p, sx_isin_e, sx_isin_t, sx_isin_n, sx_isin_i, sx_isin_p, sx_sm_e, sx_sm_t, sx_sm_n, sx_sm_i, sx_sm_p, sx_hear_e, sx_hear_t, sx_hear_n, sx_hear_i, sx_hear_p, sx_dct_e, sx_dct_t, sx_dct_n, sx_dct_i, sx_dct_p, sx_rng_i, sx_enum_i, sx_nil_a, sx_nil_n, sx_nil_p, sx_cons_a, asgW, putP, tru_bl, cmp_gt, cmp_lt, cmp_ge, bi_int, bi_intb, bi_abs, bin_add, bin_sub, Option.map_some, Option.getD_some, List.map_cons, List.map_nil, List.replicate_succ, List.replicate_zero, List.cons_append, List.nil_append, List.getElem?_cons_zero, List.getElem?_cons_succ, List.set_cons_zero, List.set_cons_succ, lam_int, lam_ref, lam_lst, lam_tup, lam_str, lam_non, lam_bl, lam_exn, lam_dct, lim_0, lim_1, lim_2, lim_3, lim_4, lim_5, lim_6, lim_7, lim_8, lim_9, lim_10, if_true, if_false, Bool.false_eq_true, ↓reduceIte, Nat.reduceAdd, bi_tup]
  · have := c2.len
    rw [List.drop_zero, lw, List.length_map] at this
    omega
end Law

set_option linter.all false
set_option autoImplicit false
set_option maxRecDepth 100000
set_option maxHeartbeats 4000000
namespace Law
open Ev
open PySem (Str)

abbrev CK (k : Nat) : Ev.C := ctxK pg k fun _ => .fail
def okS (x : Str) : Bool := ("yes" : Str) == x || ("no" : Str) == x
theorem okS_iff {x : Str} : okS x = true ↔ isAns x := by
  unfold okS isAns
  rw [Bool.or_eq_true, beq_iff_eq, beq_iff_eq]
  exact or_congr ⟨Eq.symm, Eq.symm⟩ ⟨Eq.symm, Eq.symm⟩
theorem mem_ans {s : S} {x : Str} : memW s (.str x) (.tup [.str "yes", .str "no"]) = some (okS x) := by
  have h : memW s (.str x) (.tup [.str "yes", .str "no"]) = some ([PySem.PyData.str "yes", .str "no"].any fun y => PySem.PyData.eqv y (.str x)) := rfl
  rw [h]
  simp [PySem.PyData.eqv, okS]
theorem in_ans {s : S} {x : Str} : cmpW s .in_ (.str x) (.tup [.str "yes", .str "no"]) = some (okS x) := mem_ans (s := s)
theorem notin_ans {s : S} {x : Str} : cmpW s .notin (.str x) (.tup [.str "yes", .str "no"]) = some (!okS x) := by
  show (memW s (.str x) (.tup [.str "yes", .str "no"])).map (!·) = _
  rw [mem_ans]
  rfl
def okW : W → Bool
  | .str x => okS x
  | _ => false
inductive Item : W → Prop
  | str (x : Str) : Item (.str x)
  | non : Item .non
  | bl (b : Bool) : Item (.bl b)
  | lst (ws : List W) : Item (.lst ws)
theorem bools_of : ∀ l : List W, boolsW (l.map fun w => .bl (okW w)) = some (l.map okW)
  | [] => rfl
  | w :: l => by simp [boolsW, bools_of l]
theorem listed_run (k : Nat) {s : S} {w : W} {b : Bool} (hl : isLam w = false) (h : isMany (CK k) s w [.b "list", .b "tuple"] = some b) : callF pg (k + 4) 1 [w] s = .ok (.bl b) s := by
  rw [run_at (d := d1) rfl k _ s rfl]
  unfold d1 t1
  simp only [b_ok, b_exc, l_ok, l_exc, t_nx, t_rt, t_exc, c_ok, o_some, out_rt, out_nx, out_exc, k_call, k_init, k_meth, k_makes, k_wf, k_excf, k_sub, k_ask, k_hear, evB, sx_k_e, sx_k_t, sx_k_n, sx_k_i, sx_k_p, sx_v_e, sx_v_t, sx_v_n, sx_v_i, sx_v_p, sx_gl_e, sx_gl_t, sx_gl_n, sx_gl_i, sx_gl_p, sx_bin_e, sx_bin_t, sx_bin_n, sx_bin_i, sx_bin_p, sx_not_e, sx_not_t, sx_not_n, sx_neg_e, sx_neg_t, sx_neg_n, sx_neg_i, sx_neg_p, sx_one_e, sx_one_t, sx_one_n, sx_and_e, sx_and_t, sx_and_n, sx_or_e, sx_or_t, sx_or_n, sx_ite_e, sx_ite_t, sx_ite_n, sx_ite_i, sx_ite_p, sx_cmp_e, sx_cmp_t, sx_cmp_n, sx_cmp_i, sx_cmp_p, sx_cmp2_e, sx_cmp2_t, sx_cmp2_n, sx_cmp2_i, sx_cmp2_p, sx_call_e, sx_call_t, sx_call_n, sx_call_i, sx_call_p, sx_callk_e, sx_callk_t, sx_callk_n, sx_callk_i, sx_callk_p, sx_mkk_e, sx_mkk_t, sx_mkk_n, sx_mkk_i, sx_mkk_p, sx_methk_e, sx_methk_t, sx_methk_n, sx_methk_i, sx_methk_p, sx_mk_e, sx_mk_t, sx_mk_n, sx_mk_i, sx_mk_p, sx_meth_e, sx_meth_t, sx_meth_n, sx_meth_i, sx_meth_p, sx_attr_e, sx_attr_t, sx_attr_n, sx_attr_i, sx_attr_p, sx_sub_e, sx_sub_t, sx_sub_n, sx_sub_i, sx_sub_p, sx_slice_e, sx_slice_t, sx_slice_n, sx_slice_i, sx_slice_p, sx_tup_e, sx_tup_t, sx_tup_n, sx_tup_i, sx_tup_p, sx_lst_e, sx_lst_t, sx_lst_n, sx_lst_i, sx_lst_p, sx_mls_e, sx_mls_t, sx_mls_n, sx_mls_i, sx_mls_p, sx_comp_e, sx_comp_t, sx_comp_n, sx_comp_i, sx_comp_p, sx_bi_e, sx_bi_t, sx_bi_n, sx_bi_i, sx_bi_p, sx_isin_e, sx_isin_t, sx_isin_n, sx_isin_i, sx_isin_p, sx_sm_e, sx_sm_t, sx_sm_n, sx_sm_i, sx_sm_p, sx_hear_e, sx_hear_t, sx_hear_n, sx_hear_i, sx_hear_p, sx_dct_e, sx_dct_t, sx_dct_n, sx_dct_i, sx_dct_p, sx_rng_i, sx_enum_i, sx_nil_a, sx_nil_n, sx_nil_p, sx_cons_a, asgW, putP, tru_bl, cmp_gt, cmp_lt, cmp_ge, bi_int, bi_intb, bi_abs, bin_add, bin_sub, Option.map_some, Option.getD_some, List.map_cons, List.map_nil, List.replicate_succ, List.replicate_zero, List.cons_append, List.nil_append, List.getElem?_cons_zero, List.getElem?_cons_succ, List.set_cons_zero, List.set_cons_succ, lam_int, lam_ref, lam_lst, lam_tup, lam_str, lam_non, lam_bl, lam_exn, lam_dct, lim_0, lim_1, lim_2, lim_3, lim_4, lim_5, lim_6, lim_7, lim_8, lim_9, lim_10, if_true, if_false, Bool.false_eq_true, ↓reduceIte, Nat.reduceAdd, hl, h]
theorem course_not (k : Nat) {s : S} {w : W} (hl : isLam w = false) (h : isMany (CK k) s w [.b "list", .b "tuple"] = some false) : callF pg (k + 5) 2 [w] s = .ok (.bl false) s := by
  have e : callF pg (k + 1 + 3) 1 [w] s = .ok (.bl false) s := listed_run k hl h
  rw [run_at (d := d2) rfl (k + 1) _ s rfl]
  unfold d2 t2
  simp only [b_ok, b_exc, l_ok, l_exc, t_nx, t_rt, t_exc, c_ok, o_some, out_rt, out_nx, out_exc, k_call, k_init, k_meth, k_makes, k_wf, k_excf, k_sub, k_ask, k_hear, evB, sx_k_e, sx_k_t, sx_k_n, sx_k_i, sx_k_p, sx_v_e, sx_v_t, sx_v_n, sx_v_i, sx_v_p, sx_gl_e, sx_gl_t, sx_gl_n, sx_gl_i, sx_gl_p, sx_bin_e, sx_bin_t, sx_bin_n, sx_bin_i, sx_bin_p, sx_not_e, sx_not_t, sx_not_n, sx_neg_e, sx_neg_t, sx_neg_n, sx_neg_i, sx_neg_p, sx_one_e, sx_one_t, sx_one_n, sx_and_e, sx_and_t, sx_and_n, sx_or_e, sx_or_t, sx_or_n, sx_ite_e, sx_ite_t, sx_ite_n, sx_ite_i, sx_ite_p, sx_cmp_e, sx_cmp_t, sx_cmp_n, sx_cmp_i, sx_cmp_p, sx_cmp2_e, sx_cmp2_t, sx_cmp2_n, sx_cmp2_i, sx_cmp2_p, sx_call_e, sx_call_t, sx_call_n, sx_call_i, sx_call_p, sx_callk_e, sx_callk_t, sx_callk_n, sx_callk_i, sx_callk_p, sx_mkk_e, sx_mkk_t, sx_mkk_n, sx_mkk_i, sx_mkk_p, sx_methk_e, sx_methk_t, sx_methk_n, sx_methk_i, sx_methk_p, sx_mk_e, sx_mk_t, sx_mk_n, sx_mk_i, sx_mk_p, sx_meth_e, sx_meth_t, sx_meth_n, sx_meth_i, sx_meth_p, sx_attr_e, sx_attr_t, sx_attr_n, sx_attr_i, sx_attr_p, sx_sub_e, sx_sub_t, sx_sub_n, sx_sub_i, sx_sub_p, sx_slice_e, sx_slice_t, sx_slice_n, sx_slice_i, sx_slice_p, sx_tup_e, sx_tup_t, sx_tup_n, sx_tup_i, sx_tup_p, sx_lst_e, sx_lst_t, sx_lst_n, sx_lst_i, sx_lst_p, sx_mls_e, sx_mls_t, sx_mls_n, sx_mls_i, sx_mls_p, sx_comp_e, sx_comp_t, sx_comp_n, sx_comp_i, sx_comp_p, sx_bi_e, sx_bi_t, sx_bi_n, sx_bi_i, sx_bi_p, sx_isin_e, sx_isin_t, sx_isin_n, sx_isin_i, sx_isin_p, sx_sm_e, sx_sm_t, sx_sm_n, sx_sm_i, sx_sm_p, sx_hear_e, sx_hear_t, sx_hear_n, sx_hear_i, sx_hear_p, sx_dct_e, sx_dct_t, sx_dct_n, sx_dct_i, sx_dct_p, sx_rng_i, sx_enum_i, sx_nil_a, sx_nil_n, sx_nil_p, sx_cons_a, asgW, putP, tru_bl, cmp_gt, cmp_lt, cmp_ge, bi_int, bi_intb, bi_abs, bin_add, bin_sub, Option.map_some, Option.getD_some, List.map_cons, List.map_nil, List.replicate_succ, List.replicate_zero, List.cons_append, List.nil_append, List.getElem?_cons_zero, List.getElem?_cons_succ, List.set_cons_zero, List.set_cons_succ, lam_int, lam_ref, lam_lst, lam_tup, lam_str, lam_non, lam_bl, lam_exn, lam_dct, lim_0, lim_1, lim_2, lim_3, lim_4, lim_5, lim_6, lim_7, lim_8, lim_9, lim_10, if_true, if_false, Bool.false_eq_true, ↓reduceIte, Nat.reduceAdd, hl, e]
theorem course_items (k : Nat) {s : S} {w : W} {ws : List W} (hw : w = .lst ws ∨ w = .tup ws) (hi : ∀ w ∈ ws, Item w) (hn : ws.length < 50000) : callF pg (k + 5) 2 [w] s = .ok (.bl (ws.all okW)) s := by
  have hl : isLam w = false := by rcases hw with rfl | rfl <;> rfl
  have h : isMany (CK k) s w [.b "list", .b "tuple"] = some true := by rcases hw with rfl | rfl <;> rfl
  have e : callF pg (k + 1 + 3) 1 [w] s = .ok (.bl true) s := listed_run k hl h
  have hs : srcW s w = some (.its ws) := by rcases hw with rfl | rfl <;> rfl
  obtain ⟨ys, s2, c1, c2, c3⟩ := comp_its (pre := fun w' s => putP s (.n 1) [w'] (wipeE [some w, none] (Pt.n 1).ix)) (test := fun e s => (sem (CK (k + 1)) .nil).n e s)
    (elt := fun e s => (sem (CK (k + 1)) (.and_ (.isin (.v 1) [.b "str"] false) (.one (.cmp .in_ (.v 1) (.gl "ANSWERS" (.tup [.str "yes", .str "no"])))))).e e s)
    (ws := ws) (fun i s' => s' = s) (fun w y => y = .bl (okW w)) (fun i w' s' hi' hI => by
      subst hI
      refine ⟨[some w, some w'], .bl (okW w'), s', rfl, rfl, ?_, rfl, rfl⟩
      cases hi w' (List.mem_of_getElem? hi') with
      | str x =>
        have h1 : isMany (CK (k + 1)) s' (.str x) [.b "str"] = some true := rfl
        simp only [b_ok, b_exc, l_ok, l_exc, t_nx, t_rt, t_exc, c_ok, o_some, out_rt, out_nx, out_exc, k_call, k_init, k_meth, k_makes, k_wf, k_excf, k_sub, k_ask, k_hear, evB, sx_k_e, sx_k_t, sx_k_n, sx_k_i, sx_k_p, sx_v_e, sx_v_t, sx_v_n, sx_v_i, sx_v_p, sx_gl_e, sx_gl_t, sx_gl_n, sx_gl_i, sx_gl_p, sx_bin_e, sx_bin_t, sx_bin_n, sx_bin_i, sx_bin_p, sx_not_e, sx_not_t, sx_not_n, sx_neg_e, sx_neg_t, sx_neg_n, sx_neg_i, sx_neg_p, sx_one_e, sx_one_t, sx_one_n, sx_and_e, sx_and_t, sx_and_n, sx_or_e, sx_or_t, sx_or_n, sx_ite_e, sx_ite_t, sx_ite_n, sx_ite_i, sx_ite_p, sx_cmp_e, sx_cmp_t, sx_cmp_n, sx_cmp_i, sx_cmp_p, sx_cmp2_e, sx_cmp2_t, sx_cmp2_n, sx_cmp2_i, sx_cmp2_p, sx_call_e, sx_call_t, sx_call_n, sx_call_i, sx_call_p, sx_callk_e, sx_callk_t, sx_callk_n, sx_callk_i, sx_callk_p, sx_mkk_e, sx_mkk_t, sx_mkk_n, sx_mkk_i, sx_mkk_p, sx_methk_e, sx_methk_t, sx_methk_n, sx_methk_i, sx_methk_p, sx_mk_e, sx_mk_t, sx_mk_n, sx_mk_i, sx_mk_p, sx_meth_e, sx_meth_t, sx_meth_n, sx_meth_i, sx_meth_p, sx_attr_e, sx_attr_t, sx_attr_n, sx_attr_i, sx_attr_p, sx_sub_e, sx_sub_t, sx_sub_n, sx_sub_i, sx_sub_p, sx_slice_e, sx_slice_t, sx_slice_n, sx_slice_i, sx_slice_p, sx_tup_e, sx_tup_t, sx_tup_n, sx_tup_i, sx_tup_p, sx_lst_e, sx_lst_t, sx_lst_n, sx_lst_i, sx_lst_p, sx_mls_e, sx_mls_t, sx_mls_n, sx_mls_i, sx_mls_p, sx_comp_e, sx_comp_t, sx_comp_n, sx_comp_i, sx_comp_p, sx_bi_e, sx_bi_t, sx_bi_n, sx_bi_i, sx_bi_p, sx_isin_e, sx_isin_t, sx_isin_n, sx_isin_i, sx_isin_p, sx_sm_e, sx_sm_t, sx_sm_n, sx_sm_i, sx_sm_p, sx_hear_e, sx_hear_t, sx_hear_n, sx_hear_i, sx_hear_p, sx_dct_e, sx_dct_t, sx_dct_n, sx_dct_i, sx_dct_p, sx_rng_i, sx_enum_i, sx_nil_a, sx_nil_n, sx_nil_p, sx_cons_a, asgW, putP, tru_bl, cmp_gt, cmp_lt, cmp_ge, bi_int, bi_intb, bi_abs, bin_add, bin_sub, Option.map_some, Option.getD_some, List.map_cons, List.map_nil, List.replicate_succ, List.replicate_zero, List.cons_append, List.nil_append, List.getElem?_cons_zero, List.getElem?_cons_succ, List.set_cons_zero, List.set_cons_succ, lam_int, lam_ref, lam_lst, lam_tup, lam_str, lam_non, lam_bl, lam_exn, lam_dct, lim_0, lim_1, lim_2, lim_3, lim_4, lim_5, lim_6, lim_7, lim_8, lim_9, lim_10, if_true, if_false, Bool.false_eq_true, ↓reduceIte, Nat.reduceAdd, h1, in_ans, okW]
      | non =>
        have h1 : isMany (CK (k + 1)) s' .non [.b "str"] = some false := rfl
        simp only [b_ok, b_exc, l_ok, l_exc, t_nx, t_rt, t_exc, c_ok, o_some, out_rt, out_nx, out_exc, k_call, k_init, k_meth, k_makes, k_wf, k_excf, k_sub, k_ask, k_hear, evB, sx_k_e, sx_k_t, sx_k_n, sx_k_i, sx_k_p, sx_v_e, sx_v_t, sx_v_n, sx_v_i, sx_v_p, sx_gl_e, sx_gl_t, sx_gl_n, sx_gl_i, sx_gl_p, sx_bin_e, sx_bin_t, sx_bin_n, sx_bin_i, sx_bin_p, sx_not_e, sx_not_t, sx_not_n, sx_neg_e, sx_neg_t, sx_neg_n, sx_neg_i, sx_neg_p, sx_one_e, sx_one_t, sx_one_n, sx_and_e, sx_and_t, sx_and_n, sx_or_e, sx_or_t, sx_or_n, sx_ite_e, sx_ite_t, sx_ite_n, sx_ite_i, sx_ite_p, sx_cmp_e, sx_cmp_t, sx_cmp_n, sx_cmp_i, sx_cmp_p, sx_cmp2_e, sx_cmp2_t, sx_cmp2_n, sx_cmp2_i, sx_cmp2_p, sx_call_e, sx_call_t, sx_call_n, sx_call_i, sx_call_p, sx_callk_e, sx_callk_t, sx_callk_n, sx_callk_i, sx_callk_p, sx_mkk_e, sx_mkk_t, sx_mkk_n, sx_mkk_i, sx_mkk_p, sx_methk_e, sx_methk_t, sx_methk_n, sx_methk_i, sx_methk_p, sx_mk_e, sx_mk_t, sx_mk_n, sx_mk_i, sx_mk_p, sx_meth_e, sx_meth_t, sx_meth_n, sx_meth_i, sx_meth_p, sx_attr_e, sx_attr_t, sx_attr_n, sx_attr_i, sx_attr_p, sx_sub_e, sx_sub_t, sx_sub_n, sx_sub_i, sx_sub_p, sx_slice_e, sx_slice_t, sx_slice_n, sx_slice_i, sx_slice_p, sx_tup_e, sx_tup_t, sx_tup_n, sx_tup_i, sx_tup_p, sx_lst_e, sx_lst_t, sx_lst_n, sx_lst_i, sx_lst_p, sx_mls_e, sx_mls_t, sx_mls_n, sx_mls_i, sx_mls_p, sx_comp_e, sx_comp_t, sx_comp_n, sx_comp_i, sx_comp_p, sx_bi_e, sx_bi_t, sx_bi_n, sx_bi_i, sx_bi_p, sx_isin_e, sx_isin_t, sx_isin_n, sx_isin_i, sx_isin_p, sx_sm_e, sx_sm_t, sx_sm_n, sx_sm_i, sx_sm_p, sx_hear_e, sx_hear_t, sx_hear_n, sx_hear_i, sx_hear_p, sx_dct_e, sx_dct_t, sx_dct_n, sx_dct_i, sx_dct_p, sx_rng_i, sx_enum_i, sx_nil_a, sx_nil_n, sx_nil_p, sx_cons_a, asgW, putP, tru_bl, cmp_gt, cmp_lt, cmp_ge, bi_int, bi_intb, bi_abs, bin_add, bin_sub, Option.map_some, Option.getD_some, List.map_cons, List.map_nil, List.replicate_succ, List.replicate_zero, List.cons_append, List.nil_append, List.getElem?_cons_zero, List.getElem?_cons_succ, List.set_cons_zero, List.set_cons_succ, lam_int, lam_ref, lam_lst, lam_tup, lam_str, lam_non, lam_bl, lam_exn, lam_dct, lim_0, lim_1, lim_2, lim_3, lim_4, lim_5, lim_6, lim_7, lim_8, lim_9, lim_10, if_true, if_false, Bool.false_eq_true, ↓reduceIte, Nat.reduceAdd, h1, okW]
      | bl b =>
        have h1 : isMany (CK (k + 1)) s' (.bl b) [.b "str"] = some false := rfl
        simp only [b_ok, b_exc, l_ok, l_exc, t_nx, t_rt, t_exc, c_ok, o_some, out_rt, out_nx, out_exc, k_call, k_init, k_meth, k_makes, k_wf, k_excf, k_sub, k_ask, k_hear, evB, sx_k_e, sx_k_t, sx_k_n, sx_k_i, sx_k_p, sx_v_e, sx_v_t, sx_v_n, sx_v_i, sx_v_p, sx_gl_e, sx_gl_t, sx_gl_n, sx_gl_i, sx_gl_p, sx_bin_e, sx_bin_t, sx_bin_n, sx_bin_i, sx_bin_p, sx_not_e, sx_not_t, sx_not_n, sx_neg_e, sx_neg_t, sx_neg_n, sx_neg_i, sx_neg_p, sx_one_e, sx_one_t, sx_one_n, sx_and_e, sx_and_t, sx_and_n, sx_or_e, sx_or_t, sx_or_n, sx_ite_e, sx_ite_t, sx_ite_n, sx_ite_i, sx_ite_p, sx_cmp_e, sx_cmp_t, sx_cmp_n, sx_cmp_i, sx_cmp_p, sx_cmp2_e, sx_cmp2_t, sx_cmp2_n, sx_cmp2_i, sx_cmp2_p, sx_call_e, sx_call_t, sx_call_n, sx_call_i, sx_call_p, sx_callk_e, sx_callk_t, sx_callk_n, sx_callk_i, sx_callk_p, sx_mkk_e, sx_mkk_t, sx_mkk_n, sx_mkk_i, sx_mkk_p, sx_methk_e, sx_methk_t, sx_methk_n, sx_methk_i, sx_methk_p, sx_mk_e, sx_mk_t, sx_mk_n, sx_mk_i, sx_mk_p, sx_meth_e, sx_meth_t, sx_meth_n, sx_meth_i, sx_meth_p, sx_attr_e, sx_attr_t, sx_attr_n, sx_attr_i, sx_attr_p, sx_sub_e, sx_sub_t, sx_sub_n, sx_sub_i, sx_sub_p, sx_slice_e, sx_slice_t, sx_slice_n, sx_slice_i, sx_slice_p, sx_tup_e, sx_tup_t, sx_tup_n, sx_tup_i, sx_tup_p, sx_lst_e, sx_lst_t, sx_lst_n, sx_lst_i, sx_lst_p, sx_mls_e, sx_mls_t, sx_mls_n, sx_mls_i, sx_mls_p, sx_comp_e, sx_comp_t, sx_comp_n, sx_comp_i, sx_comp_p, sx_bi_e, sx_bi_t, sx_bi_n, sx_bi_i, sx_bi_p, sx_isin_e, sx_isin_t, sx_isin_n, sx_isin_i, sx_isin_p, sx_sm_e, sx_sm_t, sx_sm_n, sx_sm_i, sx_sm_p, sx_hear_e, sx_hear_t, sx_hear_n, sx_hear_i, sx_hear_p, sx_dct_e, sx_dct_t, sx_dct_n, sx_dct_i, sx_dct_p, sx_rng_i, sx_enum_i, sx_nil_a, sx_nil_n, sx_nil_p, sx_cons_a, asgW, putP, tru_bl, cmp_gt, cmp_lt, cmp_ge, bi_int, bi_intb, bi_abs, bin_add, bin_sub, Option.map_some, Option.getD_some, List.map_cons, List.map_nil, List.replicate_succ, List.replicate_zero, List.cons_append, List.nil_append, List.getElem?_cons_zero, List.getElem?_cons_succ, List.set_cons_zero, List.set_cons_succ, lam_int, lam_ref, lam_lst, lam_tup, lam_str, lam_non, lam_bl, lam_exn, lam_dct, lim_0, lim_1, lim_2, lim_3, lim_4, lim_5, lim_6, lim_7, lim_8, lim_9, lim_10, if_true, if_false, Bool.false_eq_true, ↓reduceIte, Nat.reduceAdd, h1, okW]
      | lst l =>
        have h1 : isMany (CK (k + 1)) s' (.lst l) [.b "str"] = some false := rfl
        simp only [b_ok, b_exc, l_ok, l_exc, t_nx, t_rt, t_exc, c_ok, o_some, out_rt, out_nx, out_exc, k_call, k_init, k_meth, k_makes, k_wf, k_excf, k_sub, k_ask, k_hear, evB, sx_k_e, sx_k_t, sx_k_n, sx_k_i, sx_k_p, sx_v_e, sx_v_t, sx_v_n, sx_v_i, sx_v_p, sx_gl_e, sx_gl_t, sx_gl_n, sx_gl_i, sx_gl_p, sx_bin_e, sx_bin_t, sx_bin_n, sx_bin_i, sx_bin_p, sx_not_e, sx_not_t, sx_not_n, sx_neg_e, sx_neg_t, sx_neg_n, sx_neg_i, sx_neg_p, sx_one_e, sx_one_t, sx_one_n, sx_and_e, sx_and_t, sx_and_n, sx_or_e, sx_or_t, sx_or_n, sx_ite_e, sx_ite_t, sx_ite_n, sx_ite_i, sx_ite_p, sx_cmp_e, sx_cmp_t, sx_cmp_n, sx_cmp_i, sx_cmp_p, sx_cmp2_e, sx_cmp2_t, sx_cmp2_n, sx_cmp2_i, sx_cmp2_p, sx_call_e, sx_call_t, sx_call_n, sx_call_i, sx_call_p, sx_callk_e, sx_callk_t, sx_callk_n, sx_callk_i, sx_callk_p, sx_mkk_e, sx_mkk_t, sx_mkk_n, sx_mkk_i, sx_mkk_p, sx_methk_e, sx_methk_t, sx_methk_n, sx_methk_i, sx_methk_p, sx_mk_e, sx_mk_t, sx_mk_n, sx_mk_i, sx_mk_p, sx_meth_e, sx_meth_t, sx_meth_n, sx_meth_i, sx_meth_p, sx_attr_e, sx_attr_t, sx_attr_n, sx_attr_i, sx_attr_p, sx_sub_e, sx_sub_t, sx_sub_n, sx_sub_i, sx_sub_p, sx_slice_e, sx_slice_t, sx_slice_n, sx_slice_i, sx_slice_p, sx_tup_e, sx_tup_t, sx_tup_n, sx_tup_i, sx_tup_p, sx_lst_e, sx_lst_t, sx_lst_n, sx_lst_i, sx_lst_p, sx_mls_e, sx_mls_t, sx_mls_n, sx_mls_i, sx_mls_p, sx_comp_e, sx_comp_t, sx_comp_n, sx_comp_i, sx_comp_p, sx_bi_e, sx_bi_t, sx_bi_n, sx_bi_i, sx_bi_p, sx_isin_e, sx_isin_t, sx_isin_n, sx_isin_i, sx_isin_p, sx_sm_e, sx_sm_t, sx_sm_n, sx_sm_i, sx_sm_p, sx_hear_e, sx_hear_t, sx_hear_n, sx_hear_i, sx_hear_p, sx_dct_e, sx_dct_t, sx_dct_n, sx_dct_i, sx_dct_p, sx_rng_i, sx_enum_i, sx_nil_a, sx_nil_n, sx_nil_p, sx_cons_a, asgW, putP, tru_bl, cmp_gt, cmp_lt, cmp_ge, bi_int, bi_intb, bi_abs, bin_add, bin_sub, Option.map_some, Option.getD_some, List.map_cons, List.map_nil, List.replicate_succ, List.replicate_zero, List.cons_append, List.nil_append, List.getElem?_cons_zero, List.getElem?_cons_succ, List.set_cons_zero, List.set_cons_succ, lam_int, lam_ref, lam_lst, lam_tup, lam_str, lam_non, lam_bl, lam_exn, lam_dct, lim_0, lim_1, lim_2, lim_3, lim_4, lim_5, lim_6, lim_7, lim_8, lim_9, lim_10, if_true, if_false, Bool.false_eq_true, ↓reduceIte, Nat.reduceAdd, h1, okW]) 100000 0 [] s (by omega) (Nat.zero_le _) rfl (by show 0 + (ws.length - 0) ≤ 16777216; omega)
  subst c3
  rw [List.drop_zero] at c2
  have ey := c2.map_eq
  subst ey
  rw [run_at (d := d2) rfl (k + 1) _ s2 rfl]
  unfold d2 t2
  rw [List.nil_append] at c1
  have ball : biW s2 .all [.lst (ws.map fun w => .bl (okW w))] = .ok (.bl ((ws.map okW).all id)) s2 := by
    show (match boolsW (ws.map fun w => .bl (okW w)) with
      | some bs => R.ok (W.bl (bs.all id)) s2
      | none => .fail) = _
    rw [bools_of]
  have ea : (ws.map okW).all id = ws.all okW := by rw [List.all_map]; rfl
  simp only [b_ok, b_exc, l_ok, l_exc, t_nx, t_rt, t_exc, c_ok, o_some, out_rt, out_nx, out_exc, k_call, k_init, k_meth, k_makes, k_wf, k_excf, k_sub, k_ask, k_hear, evB, sx_k_e, sx_k_t, sx_k_n, sx_k_i, sx_k_p, sx_v_e, sx_v_t, sx_v_n, sx_v_i, sx_v_p, sx_gl_e, sx_gl_t, sx_gl_n, sx_gl_i, sx_gl_p, sx_bin_e, sx_bin_t, sx_bin_n, sx_bin_i, sx_bin_p, sx_not_e, sx_not_t, sx_not_n, sx_neg_e, sx_neg_t, sx_neg_n, sx_neg_i, sx_neg_p, sx_one_e, sx_one_t, sx_one_n, sx_and_e, sx_and_t, sx_and_n, sx_or_e, sx_or_t, sx_or_n, sx_ite_e, sx_ite_t, sx_ite_n, sx_ite_i, sx_ite_p, sx_cmp_e, sx_cmp_t, sx_cmp_n, sx_cmp_i, sx_cmp_p, sx_cmp2_e, sx_cmp2_t, sx_cmp2_n, sx_cmp2_i, sx_cmp2_p, sx_call_e, sx_call_t, sx_call_n, sx_call_i, sx_call_p, sx_callk_e, sx_callk_t, sx_callk_n, sx_callk_i, sx_callk_p, sx_mkk_e, sx_mkk_t, sx_mkk_n, sx_mkk_i, sx_mkk_p, sx_methk_e, sx_methk_t, sx_methk_n, sx_methk_i, sx_methk_p, sx_mk_e, sx_mk_t, sx_mk_n, sx_mk_i, sx_mk_p, sx_meth_e, sx_meth_t, sx_meth_n, sx_meth_i, sx_meth_p, sx_attr_e, sx_attr_t, sx_attr_n, sx_attr_i, sx_attr_p, sx_sub_e, sx_sub_t, sx_sub_n, sx_sub_i, sx_sub_p, sx_slice_e, sx_slice_t, sx_slice_n, sx_slice_i, sx_slice_p, sx_tup_e, sx_tup_t, sx_tup_n, sx_tup_i, sx_tup_p, sx_lst_e, sx_lst_t, sx_lst_n, sx_lst_i, sx_lst_p, sx_mls_e, sx_mls_t, sx_mls_n, sx_mls_i, sx_mls_p, sx_comp_e, sx_comp_t, sx_comp_n, sx_comp_i, sx_comp_p, sx_bi_e, sx_bi_t, sx_bi_n, sx_bi_i, sx_bi_p, sx_isin_e, sx_isin_t, sx_isin_n, sx_isin_i, sx_isin_p, sx_sm_e, sx_sm_t, sx_sm_n, sx_sm_i, sx_sm_p, sx_hear_e, sx_hear_t, sx_hear_n, sx_hear_i, sx_hear_p, sx_dct_e, sx_dct_t, sx_dct_n, sx_dct_i, sx_dct_p, sx_rng_i, sx_enum_i, sx_nil_a, sx_nil_n, sx_nil_p, sx_cons_a, asgW, putP, tru_bl, cmp_gt, cmp_lt, cmp_ge, bi_int, bi_intb, bi_abs, bin_add, bin_sub, Option.map_some, Option.getD_some, List.map_cons, List.map_nil, List.replicate_succ, List.replicate_zero, List.cons_append, List.nil_append, List.getElem?_cons_zero, List.getElem?_cons_succ, List.set_cons_zero, List.set_cons_succ, lam_int, lam_ref, lam_lst, lam_tup, lam_str, lam_non, lam_bl, lam_exn, lam_dct, lim_0, lim_1, lim_2, lim_3, lim_4, lim_5, lim_6, lim_7, lim_8, lim_9, lim_10, if_true, if_false, Bool.false_eq_true, ↓reduceIte, Nat.reduceAdd, hl, e, hs] at c1 ⊢
  rw [show pg.wf = 100000 from rfl, c1]
  simp only [b_ok, b_exc, l_ok, l_exc, t_nx, t_rt, t_exc, c_ok, o_some, out_rt, out_nx, out_exc, k_call, k_init, k_meth, k_makes, k_wf, k_excf, k_sub, k_ask, k_hear, evB, sx_k_e, sx_k_t, sx_k_n, sx_k_i, sx_k_p, sx_v_e, sx_v_t, sx_v_n, sx_v_i, sx_v_p, sx_gl_e, sx_gl_t, sx_gl_n, sx_gl_i, sx_gl_p, sx_bin_e, sx_bin_t, sx_bin_n, sx_bin_i, sx_bin_p, sx_not_e, sx_not_t, sx_not_n, sx_neg_e, sx_neg_t, sx_neg_n, sx_neg_i, sx_neg_p, sx_one_e, sx_one_t, sx_one_n, sx_and_e, sx_and_t, sx_and_n, sx_or_e, sx_or_t, sx_or_n, sx_ite_e, sx_ite_t, sx_ite_n, sx_ite_i, sx_ite_p, sx_cmp_e, sx_cmp_t, sx_cmp_n, sx_cmp_i, sx_cmp_p, sx_cmp2_e, sx_cmp2_t, sx_cmp2_n, sx_cmp2_i, sx_cmp2_p, sx_call_e, sx_call_t, sx_call_n, sx_call_i, sx_call_p, sx_callk_e, sx_callk_t, sx_callk_n, sx_callk_i, sx_callk_p, sx_mkk_e, sx_mkk_t, sx_mkk_n, sx_mkk_i, sx_mkk_p, sx_methk_e, sx_methk_t, sx_methk_n, sx_methk_i, sx_methk_p, sx_mk_e, sx_mk_t, sx_mk_n, sx_mk_i, sx_mk_p, sx_meth_e, sx_meth_t, sx_meth_n, sx_meth_i, sx_meth_p, sx_attr_e, sx_attr_t, sx_attr_n, sx_attr_i, sx_attr_p, sx_sub_e, sx_sub_t, sx_sub_n, sx_sub_i, sx_sub_p, sx_slice_e, sx_slice_t, sx_slice_n, sx_slice_i, sx_slice_p, sx_tup_e, sx_tup_t, sx_tup_n, sx_tup_i, sx_tup_p, sx_lst_e, sx_lst_t, sx_lst_n, sx_lst_i, sx_lst_p, sx_mls_e, sx_mls_t, sx_mls_n, sx_mls_i, sx_mls_p, sx_comp_e, sx_comp_t, sx_comp_n, sx_comp_i, sx_comp_p, sx_bi_e, sx_bi_t, sx_bi_n, sx_bi_i, sx_bi_p, sx_isin_e, sx_isin_t, sx_isin_n, sx_isin_i, sx_isin_p, sx_sm_e, sx_sm_t, sx_sm_n, sx_sm_i, sx_sm_p, sx_hear_e, sx_hear_t, sx_hear_n, sx_hear_i, sx_hear_p, sx_dct_e, sx_dct_t, sx_dct_n, sx_dct_i, sx_dct_p, sx_rng_i, sx_enum_i, sx_nil_a, sx_nil_n, sx_nil_p, sx_cons_a, asgW, putP, tru_bl, cmp_gt, cmp_lt, cmp_ge, bi_int, bi_intb, bi_abs, bin_add, bin_sub, Option.map_some, Option.getD_some, List.map_cons, List.map_nil, List.replicate_succ, List.replicate_zero, List.cons_append, List.nil_append, List.getElem?_cons_zero, List.getElem?_cons_succ, List.set_cons_zero, List.set_cons_succ, lam_int, lam_ref, lam_lst, lam_tup, lam_str, lam_non, lam_bl, lam_exn, lam_dct, lim_0, lim_1, lim_2, lim_3, lim_4, lim_5, lim_6, lim_7, lim_8, lim_9, lim_10, if_true, if_false, Bool.false_eq_true, ↓reduceIte, Nat.reduceAdd, ball, ea]
theorem strs_eq : ∀ xs : List Str, strsW (xs.map .str) = some xs
  | [] => rfl
  | x :: xs => by simp [strsW, strs_eq xs]
theorem join_run {s : S} {w : W} {xs : List Str} {y : Str} (hw : items s w = some (xs.map .str)) (hl : (xs.map PySem.Str.length).sum + xs.length * y.length ≤ lim) : smW s .join (.str y) [w] = .ok (.str (PySem.Txt.join y xs)) s := by
  show (match items s w with
    | some ws => (match strsW ws with
      | some ys => if (ys.map PySem.Str.length).sum + ys.length * y.length ≤ lim then R.ok (W.str (PySem.Txt.join y ys)) s else .fail
      | none => .fail)
    | none => .fail) = _
  rw [hw]
  dsimp only
  rw [strs_eq]
  exact if_pos hl
theorem ans_len {x : Str} (h : isAns x) : x.length ≤ 3 := by
  rcases h with rfl | rfl <;> decide
theorem sum_len {xs : List Str} {m : Nat} (h : ∀ x ∈ xs, x.length ≤ m) : (xs.map PySem.Str.length).sum ≤ m * xs.length := by
  induction xs with
  | nil => simp
  | cons x xs ih =>
    have h1 := h x (by simp)
    have h2 := ih fun z hz => h z (by simp [hz])
    simp only [List.map_cons, List.sum_cons, List.length_cons]
    rw [Nat.mul_succ]
    omega
theorem sp_len : (" " : Str).length = 1 := by decide
theorem ctext_bad (k : Nat) {s : S} {w : W} (hl : isLam w = false) (h : callF pg (k + 5) 2 [w] s = .ok (.bl false) s) : callF pg (k + 6) 4 [w] s = .exc 6 [(1, .str "course")] s := by
  have e : callF pg (k + 2 + 3) 2 [w] s = .ok (.bl false) s := h
  rw [run_at (d := d4) rfl (k + 2) _ s rfl]
  unfold d4 t4
  have hx : pg.excf 6 = some [1] := rfl
  simp only [b_ok, b_exc, l_ok, l_exc, t_nx, t_rt, t_exc, c_ok, o_some, out_rt, out_nx, out_exc, k_call, k_init, k_meth, k_makes, k_wf, k_excf, k_sub, k_ask, k_hear, evB, sx_k_e, sx_k_t, sx_k_n, sx_k_i, sx_k_p, sx_v_e, sx_v_t, sx_v_n, sx_v_i, sx_v_p, sx_gl_e, sx_gl_t, sx_gl_n, sx_gl_i, sx_gl_p, sx_bin_e, sx_bin_t, sx_bin_n, sx_bin_i, sx_bin_p, sx_not_e, sx_not_t, sx_not_n, sx_neg_e, sx_neg_t, sx_neg_n, sx_neg_i, sx_neg_p, sx_one_e, sx_one_t, sx_one_n, sx_and_e, sx_and_t, sx_and_n, sx_or_e, sx_or_t, sx_or_n, sx_ite_e, sx_ite_t, sx_ite_n, sx_ite_i, sx_ite_p, sx_cmp_e, sx_cmp_t, sx_cmp_n, sx_cmp_i, sx_cmp_p, sx_cmp2_e, sx_cmp2_t, sx_cmp2_n, sx_cmp2_i, sx_cmp2_p, sx_call_e, sx_call_t, sx_call_n, sx_call_i, sx_call_p, sx_callk_e, sx_callk_t, sx_callk_n, sx_callk_i, sx_callk_p, sx_mkk_e, sx_mkk_t, sx_mkk_n, sx_mkk_i, sx_mkk_p, sx_methk_e, sx_methk_t, sx_methk_n, sx_methk_i, sx_methk_p, sx_mk_e, sx_mk_t, sx_mk_n, sx_mk_i, sx_mk_p, sx_meth_e, sx_meth_t, sx_meth_n, sx_meth_i, sx_meth_p, sx_attr_e, sx_attr_t, sx_attr_n, sx_attr_i, sx_attr_p, sx_sub_e, sx_sub_t, sx_sub_n, sx_sub_i, sx_sub_p, sx_slice_e, sx_slice_t, sx_slice_n, sx_slice_i, sx_slice_p, sx_tup_e, sx_tup_t, sx_tup_n, sx_tup_i, sx_tup_p, sx_lst_e, sx_lst_t, sx_lst_n, sx_lst_i, sx_lst_p, sx_mls_e, sx_mls_t, sx_mls_n, sx_mls_i, sx_mls_p, sx_comp_e, sx_comp_t, sx_comp_n, sx_comp_i, sx_comp_p, sx_bi_e, sx_bi_t, sx_bi_n, sx_bi_i, sx_bi_p, sx_isin_e, sx_isin_t, sx_isin_n, sx_isin_i, sx_isin_p, sx_sm_e, sx_sm_t, sx_sm_n, sx_sm_i, sx_sm_p, sx_hear_e, sx_hear_t, sx_hear_n, sx_hear_i, sx_hear_p, sx_dct_e, sx_dct_t, sx_dct_n, sx_dct_i, sx_dct_p, sx_rng_i, sx_enum_i, sx_nil_a, sx_nil_n, sx_nil_p, sx_cons_a, asgW, putP, tru_bl, cmp_gt, cmp_lt, cmp_ge, bi_int, bi_intb, bi_abs, bin_add, bin_sub, Option.map_some, Option.getD_some, List.map_cons, List.map_nil, List.replicate_succ, List.replicate_zero, List.cons_append, List.nil_append, List.getElem?_cons_zero, List.getElem?_cons_succ, List.set_cons_zero, List.set_cons_succ, lam_int, lam_ref, lam_lst, lam_tup, lam_str, lam_non, lam_bl, lam_exn, lam_dct, lim_0, lim_1, lim_2, lim_3, lim_4, lim_5, lim_6, lim_7, lim_8, lim_9, lim_10, if_true, if_false, Bool.false_eq_true, ↓reduceIte, Nat.reduceAdd, hl, e, Bool.not_false, hx, List.length_cons, List.length_nil, List.zip_cons_cons, List.zip_nil_right]
theorem ctext_ok (k : Nat) {s : S} {w : W} {xs : List Str} (hw : w = .lst (xs.map .str) ∨ w = .tup (xs.map .str)) (hx : ∀ x ∈ xs, isAns x) (hn : xs.length < 50000) : callF pg (k + 6) 4 [w] s = .ok (.str (PySem.Txt.join " " xs)) s := by
  have hl : isLam w = false := by rcases hw with rfl | rfl <;> rfl
  have ea : (xs.map W.str).all okW = true := by
    rw [List.all_map, List.all_eq_true]
    exact fun x h => okS_iff.mpr (hx x h)
  have e : callF pg (k + 2 + 3) 2 [w] s = .ok (.bl true) s := by
    rw [← ea]
    exact course_items k hw (fun w hw => by obtain ⟨x, _, rfl⟩ := List.mem_map.mp hw; exact .str x) (by rw [List.length_map]; exact hn)
  have hi : items s w = some (xs.map .str) := by rcases hw with rfl | rfl <;> rfl
  have hj := join_run (s := s) (y := " ") hi (by
    have := sum_len (m := 3) fun x h => ans_len (hx x h)
    rw [sp_len]
    show _ ≤ 16777216
    omega)
  have hk : smOk s .join (.str " ") = true := rfl
  rw [run_at (d := d4) rfl (k + 2) _ s rfl]
  unfold d4 t4
  simp only [b_ok, b_exc, l_ok, l_exc, t_nx, t_rt, t_exc, c_ok, o_some, out_rt, out_nx, out_exc, k_call, k_init, k_meth, k_makes, k_wf, k_excf, k_sub, k_ask, k_hear, evB, sx_k_e, sx_k_t, sx_k_n, sx_k_i, sx_k_p, sx_v_e, sx_v_t, sx_v_n, sx_v_i, sx_v_p, sx_gl_e, sx_gl_t, sx_gl_n, sx_gl_i, sx_gl_p, sx_bin_e, sx_bin_t, sx_bin_n, sx_bin_i, sx_bin_p, sx_not_e, sx_not_t, sx_not_n, sx_neg_e, sx_neg_t, sx_neg_n, sx_neg_i, sx_neg_p, sx_one_e, sx_one_t, sx_one_n, sx_and_e, sx_and_t, sx_and_n, sx_or_e, sx_or_t, sx_or_n, sx_ite_e, sx_ite_t, sx_ite_n, sx_ite_i, sx_ite_p, sx_cmp_e, sx_cmp_t, sx_cmp_n, sx_cmp_i, sx_cmp_p, sx_cmp2_e, sx_cmp2_t, sx_cmp2_n, sx_cmp2_i, sx_cmp2_p, sx_call_e, sx_call_t, sx_call_n, sx_call_i, sx_call_p, sx_callk_e, sx_callk_t, sx_callk_n, sx_callk_i, sx_callk_p, sx_mkk_e, sx_mkk_t, sx_mkk_n, sx_mkk_i, sx_mkk_p, sx_methk_e, sx_methk_t, sx_methk_n, sx_methk_i, sx_methk_p, sx_mk_e, sx_mk_t, sx_mk_n, sx_mk_i, sx_mk_p, sx_meth_e, sx_meth_t, sx_meth_n, sx_meth_i, sx_meth_p, sx_attr_e, sx_attr_t, sx_attr_n, sx_attr_i, sx_attr_p, sx_sub_e, sx_sub_t, sx_sub_n, sx_sub_i, sx_sub_p, sx_slice_e, sx_slice_t, sx_slice_n, sx_slice_i, sx_slice_p, sx_tup_e, sx_tup_t, sx_tup_n, sx_tup_i, sx_tup_p, sx_lst_e, sx_lst_t, sx_lst_n, sx_lst_i, sx_lst_p, sx_mls_e, sx_mls_t, sx_mls_n, sx_mls_i, sx_mls_p, sx_comp_e, sx_comp_t, sx_comp_n, sx_comp_i, sx_comp_p, sx_bi_e, sx_bi_t, sx_bi_n, sx_bi_i, sx_bi_p, sx_isin_e, sx_isin_t, sx_isin_n, sx_isin_i, sx_isin_p, sx_sm_e, sx_sm_t, sx_sm_n, sx_sm_i, sx_sm_p, sx_hear_e, sx_hear_t, sx_hear_n, sx_hear_i, sx_hear_p, sx_dct_e, sx_dct_t, sx_dct_n, sx_dct_i, sx_dct_p, sx_rng_i, sx_enum_i, sx_nil_a, sx_nil_n, sx_nil_p, sx_cons_a, asgW, putP, tru_bl, cmp_gt, cmp_lt, cmp_ge, bi_int, bi_intb, bi_abs, bin_add, bin_sub, Option.map_some, Option.getD_some, List.map_cons, List.map_nil, List.replicate_succ, List.replicate_zero, List.cons_append, List.nil_append, List.getElem?_cons_zero, List.getElem?_cons_succ, List.set_cons_zero, List.set_cons_succ, lam_int, lam_ref, lam_lst, lam_tup, lam_str, lam_non, lam_bl, lam_exn, lam_dct, lim_0, lim_1, lim_2, lim_3, lim_4, lim_5, lim_6, lim_7, lim_8, lim_9, lim_10, if_true, if_false, Bool.false_eq_true, ↓reduceIte, Nat.reduceAdd, hl, e, Bool.not_true, hk, hj]
end Law

set_option linter.all false
set_option autoImplicit false
set_option maxRecDepth 100000
set_option maxHeartbeats 4000000
namespace Law
open Ev
open PySem (Str)

/-! ### lines -/
def nlIn (t : Str) : Bool := !(PySem.Builtin.Str.occurrences t "\n" 0 t.length 1).isEmpty
theorem nl_no {t : Str} (h : nlIn t = false) : PySem.Txt.split t "\n" = [t] := by
  unfold nlIn at h
  rw [Bool.not_eq_false'] at h
  have h0 := List.isEmpty_iff.mp h
  have h1 : PySem.Builtin.Str.occurrences t "\n" 0 t.length (t.length + 1) = [] := by
    rcases PySem.StrLaws.occ_head t "\n" (t.length + 1) (by omega) with ⟨z, _⟩ | ⟨i, r, _, a, _⟩
    · exact z
    · rcases PySem.StrLaws.occ_head t "\n" 1 (by omega) with ⟨_, z⟩ | ⟨j, r2, e2, _⟩
      · exact absurd a (z i)
      · rw [h0] at e2; cases e2
  unfold PySem.Txt.split
  split
  · rfl
  · rw [h1]; rfl
theorem parts_len {x : Str} {cuts : List Nat} {w : Nat} : (PySem.Builtin.Str.partsBetween x cuts w).length = cuts.length + 1 := by
  unfold PySem.Builtin.Str.partsBetween
  simp
theorem nl_yes {t : Str} (h : nlIn t = true) : 2 ≤ (PySem.Txt.split t "\n").length := by
  unfold nlIn at h
  rw [Bool.not_eq_true'] at h
  rcases PySem.StrLaws.occ_head t "\n" 1 (by omega) with ⟨z, _⟩ | ⟨i, r, _, a, _⟩
  · rw [z] at h; cases h
  · rcases PySem.StrLaws.occ_head t "\n" (t.length + 1) (by omega) with ⟨_, z⟩ | ⟨j, r2, e2, _⟩
    · exact absurd a (z i)
    · unfold PySem.Txt.split
      have l1 : ("\n" : Str).length = 1 := by decide
      have k1 : ¬ (decide (t.length < ("\n" : Str).length) || decide (PySem.Builtin.Str.strKind t < PySem.Builtin.Str.strKind "\n")) = true := by
        rw [Bool.or_eq_true, decide_eq_true_eq, decide_eq_true_eq]
        rintro (q | q)
        · have := a.1; omega
        · exact TL.kind_ok (by decide +kernel) q
      rw [if_neg k1, e2]
      show 2 ≤ (PySem.Builtin.Str.partsBetween t (j :: r2) _).length
      rw [parts_len]
      simp
theorem split_ne (x y : Str) : PySem.Txt.split x y ≠ [] := by
  unfold PySem.Txt.split
  split
  · simp
  · split
    · simp
    · intro h
      have := congrArg List.length h
      rw [parts_len] at this
      simp at this
/-! ### objects -/
def lineO (a : Int) (ws : List Str) (j : Int) : Ob := .ins 15 [(7, .int a), (8, .lst (ws.map .str)), (9, .int j)]
def linesO (rs : List W) (j : Int) : Ob := .ins 16 [(10, .lst rs), (11, .int 0), (9, .int j)]
theorem setA {k : Nat} {s : S} {r c f : Nat} {fs : List (Nat × W)} {w : W} (h : s.get r = some (.ins c fs)) (hm : (pg.makes c).isSome = true) (hl : fs.length < 900) : setAttr (CK k) s (.ref r) f w = some (s.set r (.ins c (putW f w fs))) := by
  show (match s.get r with
    | some (.ins c fs) => if (pg.makes c).isSome && decide (fs.length < 900) then some (s.set r (.ins c (putW f w fs))) else none
    | _ => none) = _
  rw [h]
  dsimp only
  rw [if_pos (by rw [hm, decide_eq_true hl]; rfl)]
theorem getA {k : Nat} {s : S} {r c f : Nat} {fs : List (Nat × W)} {w : W} (h : s.get r = some (.ins c fs)) (hm : (pg.makes c).isSome = true) (hf : fs.lookup f = some w) : attrW (CK k) s (.ref r) f = .ok w s := by
  show (match s.get r with
    | some (.ins c fs) => if (pg.makes c).isSome then optR (fs.lookup f) s else .fail
    | _ => .fail) = _
  rw [h]
  dsimp only
  rw [if_pos hm, hf]
  rfl
theorem new_get {s : S} {o : Ob} : (s.new o).get s.size = some o := by
  unfold S.new S.get S.size
  simp
theorem new_set {s : S} {a b : Ob} : (s.new a).set s.size b = s.new b := by
  unfold S.new S.set S.size
  simp
theorem line_init (k : Nat) {s : S} {r : Nat} {a : Int} {ws : List Str} (h : s.get r = some (.ins 15 [])) : callF pg (k + 4) 13 [.ref r, .int a, .lst (ws.map .str)] s = .ok .non (s.set r (lineO a ws 0)) := by
  have s1 := setA (k := k) (f := 7) (w := .int a) h rfl (by simp)
  have h1 : (s.set r (.ins 15 (putW 7 (.int a) []))).get r = _ := get_set h
  have s2 := setA (k := k) (f := 8) (w := .lst (ws.map .str)) h1 rfl (by simp [putW])
  have h2 : ((s.set r (.ins 15 (putW 7 (.int a) []))).set r (.ins 15 (putW 8 (.lst (ws.map .str)) (putW 7 (.int a) [])))).get r = _ := get_set h1
  have s3 := setA (k := k) (f := 9) (w := .int 0) h2 rfl (by simp [putW])
  simp only [set_set] at s2 s3
  rw [run_at (d := d13) rfl k _ s rfl]
  unfold d13 t13
  simp only [b_ok, b_exc, l_ok, l_exc, t_nx, t_rt, t_exc, c_ok, o_some, out_rt, out_nx, out_exc, k_call, k_init, k_meth, k_makes, k_wf, k_excf, k_sub, k_ask, k_hear, evB, sx_k_e, sx_k_t, sx_k_n, sx_k_i, sx_k_p, sx_v_e, sx_v_t, sx_v_n, sx_v_i, sx_v_p, sx_gl_e, sx_gl_t, sx_gl_n, sx_gl_i, sx_gl_p, sx_bin_e, sx_bin_t, sx_bin_n, sx_bin_i, sx_bin_p, sx_not_e, sx_not_t, sx_not_n, sx_neg_e, sx_neg_t, sx_neg_n, sx_neg_i, sx_neg_p, sx_one_e, sx_one_t, sx_one_n, sx_and_e, sx_and_t, sx_and_n, sx_or_e, sx_or_t, sx_or_n, sx_ite_e, sx_ite_t, sx_ite_n, sx_ite_i, sx_ite_p, sx_cmp_e, sx_cmp_t, sx_cmp_n, sx_cmp_i, sx_cmp_p, sx_cmp2_e, sx_cmp2_t, sx_cmp2_n, sx_cmp2_i, sx_cmp2_p, sx_call_e, sx_call_t, sx_call_n, sx_call_i, sx_call_p, sx_callk_e, sx_callk_t, sx_callk_n, sx_callk_i, sx_callk_p, sx_mkk_e, sx_mkk_t, sx_mkk_n, sx_mkk_i, sx_mkk_p, sx_methk_e, sx_methk_t, sx_methk_n, sx_methk_i, sx_methk_p, sx_mk_e, sx_mk_t, sx_mk_n, sx_mk_i, sx_mk_p, sx_meth_e, sx_meth_t, sx_meth_n, sx_meth_i, sx_meth_p, sx_attr_e, sx_attr_t, sx_attr_n, sx_attr_i, sx_attr_p, sx_sub_e, sx_sub_t, sx_sub_n, sx_sub_i, sx_sub_p, sx_slice_e, sx_slice_t, sx_slice_n, sx_slice_i, sx_slice_p, sx_tup_e, sx_tup_t, sx_tup_n, sx_tup_i, sx_tup_p, sx_lst_e, sx_lst_t, sx_lst_n, sx_lst_i, sx_lst_p, sx_mls_e, sx_mls_t, sx_mls_n, sx_mls_i, sx_mls_p, sx_comp_e, sx_comp_t, sx_comp_n, sx_comp_i, sx_comp_p, sx_bi_e, sx_bi_t, sx_bi_n, sx_bi_i, sx_bi_p, sx_isin_e, sx_isin_t, sx_isin_n, sx_isin_i, sx_isin_p, sx_sm_e, sx_sm_t, sx_sm_n, sx_sm_i, sx_sm_p, sx_hear_e, sx_hear_t, sx_hear_n, sx_hear_i, sx_hear_p, sx_dct_e, sx_dct_t, sx_dct_n, sx_dct_i, sx_dct_p, sx_rng_i, sx_enum_i, sx_nil_a, sx_nil_n, sx_nil_p, sx_cons_a, asgW, putP, tru_bl, cmp_gt, cmp_lt, cmp_ge, bi_int, bi_intb, bi_abs, bin_add, bin_sub, Option.map_some, Option.getD_some, List.map_cons, List.map_nil, List.replicate_succ, List.replicate_zero, List.cons_append, List.nil_append, List.getElem?_cons_zero, List.getElem?_cons_succ, List.set_cons_zero, List.set_cons_succ, lam_int, lam_ref, lam_lst, lam_tup, lam_str, lam_non, lam_bl, lam_exn, lam_dct, lim_0, lim_1, lim_2, lim_3, lim_4, lim_5, lim_6, lim_7, lim_8, lim_9, lim_10, if_true, if_false, Bool.false_eq_true, ↓reduceIte, Nat.reduceAdd, s1, s2, s3, set_set]
  rfl
theorem line_mk (k : Nat) {s : S} {a : Int} {ws : List Str} : mkW (CK (k + 2)) 15 [.int a, .lst (ws.map .str)] s = .ok (.ref s.size) (s.new (lineO a ws 0)) := by
  have e : callF pg (k + 2 + 2) 13 [.ref s.size, .int a, .lst (ws.map .str)] (s.new (.ins 15 [])) = _ := line_init k new_get
  show (callF pg (k + 2 + 2) 13 (.ref s.size :: [.int a, .lst (ws.map .str)]) (s.new (.ins 15 []))).bind _ = _
  rw [e, new_set]
  rfl
theorem lines_init (k : Nat) {s : S} {r : Nat} {rs : List W} (h : s.get r = some (.ins 16 [])) : callF pg (k + 4) 25 [.ref r, .lst rs, .int 0] s = .ok .non (s.set r (linesO rs 0)) := by
  have s1 := setA (k := k) (f := 10) (w := .lst rs) h rfl (by simp)
  have h1 : (s.set r (.ins 16 (putW 10 (.lst rs) []))).get r = _ := get_set h
  have s2 := setA (k := k) (f := 11) (w := .int 0) h1 rfl (by simp [putW])
  have h2 : ((s.set r (.ins 16 (putW 10 (.lst rs) []))).set r (.ins 16 (putW 11 (.int 0) (putW 10 (.lst rs) [])))).get r = _ := get_set h1
  have s3 := setA (k := k) (f := 9) (w := .int 0) h2 rfl (by simp [putW])
  simp only [set_set] at s2 s3
  rw [run_at (d := d25) rfl k _ s rfl]
  unfold d25 t25
  simp only [b_ok, b_exc, l_ok, l_exc, t_nx, t_rt, t_exc, c_ok, o_some, out_rt, out_nx, out_exc, k_call, k_init, k_meth, k_makes, k_wf, k_excf, k_sub, k_ask, k_hear, evB, sx_k_e, sx_k_t, sx_k_n, sx_k_i, sx_k_p, sx_v_e, sx_v_t, sx_v_n, sx_v_i, sx_v_p, sx_gl_e, sx_gl_t, sx_gl_n, sx_gl_i, sx_gl_p, sx_bin_e, sx_bin_t, sx_bin_n, sx_bin_i, sx_bin_p, sx_not_e, sx_not_t, sx_not_n, sx_neg_e, sx_neg_t, sx_neg_n, sx_neg_i, sx_neg_p, sx_one_e, sx_one_t, sx_one_n, sx_and_e, sx_and_t, sx_and_n, sx_or_e, sx_or_t, sx_or_n, sx_ite_e, sx_ite_t, sx_ite_n, sx_ite_i, sx_ite_p, sx_cmp_e, sx_cmp_t, sx_cmp_n, sx_cmp_i, sx_cmp_p, sx_cmp2_e, sx_cmp2_t, sx_cmp2_n, sx_cmp2_i, sx_cmp2_p, sx_call_e, sx_call_t, sx_call_n, sx_call_i, sx_call_p, sx_callk_e, sx_callk_t, sx_callk_n, sx_callk_i, sx_callk_p, sx_mkk_e, sx_mkk_t, sx_mkk_n, sx_mkk_i, sx_mkk_p, sx_methk_e, sx_methk_t, sx_methk_n, sx_methk_i, sx_methk_p, sx_mk_e, sx_mk_t, sx_mk_n, sx_mk_i, sx_mk_p, sx_meth_e, sx_meth_t, sx_meth_n, sx_meth_i, sx_meth_p, sx_attr_e, sx_attr_t, sx_attr_n, sx_attr_i, sx_attr_p, sx_sub_e, sx_sub_t, sx_sub_n, sx_sub_i, sx_sub_p, sx_slice_e, sx_slice_t, sx_slice_n, sx_slice_i, sx_slice_p, sx_tup_e, sx_tup_t, sx_tup_n, sx_tup_i, sx_tup_p, sx_lst_e, sx_lst_t, sx_lst_n, sx_lst_i, sx_lst_p, sx_mls_e, sx_mls_t, sx_mls_n, sx_mls_i, sx_mls_p, sx_comp_e, sx_comp_t, sx_comp_n, sx_comp_i, sx_comp_p, sx_bi_e, sx_bi_t, sx_bi_n, sx_bi_i, sx_bi_p, sx_isin_e, sx_isin_t, sx_isin_n, sx_isin_i, sx_isin_p, sx_sm_e, sx_sm_t, sx_sm_n, sx_sm_i, sx_sm_p, sx_hear_e, sx_hear_t, sx_hear_n, sx_hear_i, sx_hear_p, sx_dct_e, sx_dct_t, sx_dct_n, sx_dct_i, sx_dct_p, sx_rng_i, sx_enum_i, sx_nil_a, sx_nil_n, sx_nil_p, sx_cons_a, asgW, putP, tru_bl, cmp_gt, cmp_lt, cmp_ge, bi_int, bi_intb, bi_abs, bin_add, bin_sub, Option.map_some, Option.getD_some, List.map_cons, List.map_nil, List.replicate_succ, List.replicate_zero, List.cons_append, List.nil_append, List.getElem?_cons_zero, List.getElem?_cons_succ, List.set_cons_zero, List.set_cons_succ, lam_int, lam_ref, lam_lst, lam_tup, lam_str, lam_non, lam_bl, lam_exn, lam_dct, lim_0, lim_1, lim_2, lim_3, lim_4, lim_5, lim_6, lim_7, lim_8, lim_9, lim_10, if_true, if_false, Bool.false_eq_true, ↓reduceIte, Nat.reduceAdd, s1, s2, s3, set_set]
  rfl
theorem lines_mk (k : Nat) {s : S} {rs : List W} : mkW (CK (k + 2)) 16 [.lst rs, .int 0] s = .ok (.ref s.size) (s.new (linesO rs 0)) := by
  have e : callF pg (k + 2 + 2) 25 [.ref s.size, .lst rs, .int 0] (s.new (.ins 16 [])) = _ := lines_init k new_get
  show (callF pg (k + 2 + 2) 25 (.ref s.size :: [.lst rs, .int 0]) (s.new (.ins 16 []))).bind _ = _
  rw [e, new_set]
  rfl
theorem split_run {s : S} {x y : Str} (h0 : y.length ≠ 0) (h1 : x.length + 2 ≤ lim) : smW s .split (.str x) [.str y] = .ok (.lst ((PySem.Txt.split x y).map .str)) s := if_neg (by rintro (z | z) <;> omega)
theorem nl_len : ("\n" : Str).length = 1 := by decide
theorem enum_lst {s : S} {ws : List W} : enumW (.lst ws) s = .ok (.its (ws.zipIdx.map fun p => W.tup [.int p.2, p.1])) s := rfl
/-- lines_of -/
theorem lines_run (k : Nat) {s : S} {t : Str} (ht : t.length ≤ 40000) : ∃ (s' : S) (L r0 : Nat) (rs : List W) (l0 : Str) (ls : List Str), callF pg (k + 6) 3 [.str t] s = .ok (.ref L) s' ∧ Keep s s' ∧ PySem.Txt.split t "\n" = l0 :: ls ∧ rs.length = ls.length ∧
    s'.get L = some (linesO (.ref r0 :: rs) 0) ∧ s'.get r0 = some (lineO 0 (PySem.Txt.split l0 " ") 0) ∧ s.size ≤ r0 ∧ s.size ≤ L ∧ L ≠ r0 := by
  cases hs : PySem.Txt.split t "\n" with
  | nil => exact absurd hs (split_ne _ _)
  | cons l0 ls =>
    have short : ∀ l ∈ l0 :: ls, l.length ≤ 40000 := fun l hl => Nat.le_trans (PyProof.Rows.part_short (x := t) (y := "\n") (by rw [hs]; exact hl)) ht
    have many : (l0 :: ls).length ≤ 40002 := by
      rw [← hs]
      exact Nat.le_trans (PyProof.Rows.split_le t "\n") (by omega)
    have lw : ((((l0 :: ls).map W.str).zipIdx).map fun p => W.tup [.int p.2, p.1]).length = (l0 :: ls).length := by simp
    have smk : smOk s .split (.str t) = true := rfl
    obtain ⟨ys, s2, c1, c2, c3⟩ := comp_its (pre := fun w' s => putP s (.t (.cons (.n 1) (.cons (.n 2) .nil))) [w'] (wipeE [some (.str t), none, none] (Pt.t (.cons (.n 1) (.cons (.n 2) .nil))).ix)) (test := fun e s => (sem (CK (k + 2)) .nil).n e s)
      (elt := fun e s => (sem (CK (k + 2)) (.mk "Line" 15 (.cons (.v 1) (.cons (.sm .split (.v 2) (.cons (.k (.str " ")) .nil)) .nil)))).e e s)
      (ws := ((((l0 :: ls).map W.str).zipIdx).map fun p => W.tup [.int p.2, p.1])) (fun i s' => s'.size = s.size + i ∧ Keep s s' ∧ (0 < i → s'.get s.size = some (lineO 0 (PySem.Txt.split l0 " ") 0)))
      (fun w y => ∀ l : W, w = .tup [.int 0, l] → y = .ref s.size) (fun i w' s' hi' hI => by
        obtain ⟨i1, i2, i3⟩ := hI
        rw [List.getElem?_map, List.getElem?_zipIdx, List.getElem?_map] at hi'
        cases hq : (l0 :: ls)[i]? with
        | none => rw [hq] at hi'; cases hi'
        | some l =>
          rw [hq] at hi'
          have hw : w' = .tup [.int i, .str l] := by
            have := Option.some.inj hi'
            rw [← this]; simp
          subst hw
          have hsp := split_run (s := s') (x := l) (y := " ") (by rw [sp_len]; omega) (by have := short l (List.mem_of_getElem? hq); show _ ≤ 16777216; omega)
          have hk : smOk s' .split (.str l) = true := rfl
          have hm := line_mk k (s := s') (a := i) (ws := PySem.Txt.split l " ")
          refine ⟨[some (.str t), some (.int i), some (.str l)], .ref s'.size, s'.new (lineO i (PySem.Txt.split l " ") 0), rfl, rfl, ?_, ?_, ?_, i2.trans (Keep.new _ _), ?_⟩
          · simp only [b_ok, b_exc, l_ok, l_exc, t_nx, t_rt, t_exc, c_ok, o_some, out_rt, out_nx, out_exc, k_call, k_init, k_meth, k_makes, k_wf, k_excf, k_sub, k_ask, k_hear, evB, sx_k_e, sx_k_t, sx_k_n, sx_k_i, sx_k_p, sx_v_e, sx_v_t, sx_v_n, sx_v_i, sx_v_p, sx_gl_e, sx_gl_t, sx_gl_n, sx_gl_i, sx_gl_p, sx_bin_e, sx_bin_t, sx_bin_n, sx_bin_i, sx_bin_p, sx_not_e, sx_not_t, sx_not_n, sx_neg_e, sx_neg_t, sx_neg_n, sx_neg_i, sx_neg_p, sx_one_e, sx_one_t, sx_one_n, sx_and_e, sx_and_t, sx_and_n, sx_or_e, sx_or_t, sx_or_n, sx_ite_e, sx_ite_t, sx_ite_n, sx_ite_i, sx_ite_p, sx_cmp_e, sx_cmp_t, sx_cmp_n, sx_cmp_i, sx_cmp_p, sx_cmp2_e, sx_cmp2_t, sx_cmp2_n, sx_cmp2_i, sx_cmp2_p, sx_call_e, sx_call_t, sx_call_n, sx_call_i, sx_call_p, sx_callk_e, sx_callk_t, sx_callk_n, sx_callk_i, sx_callk_p, sx_mkk_e, sx_mkk_t, sx_mkk_n, sx_mkk_i, sx_mkk_p, sx_methk_e, sx_methk_t, sx_methk_n, sx_methk_i, sx_methk_p, sx_mk_e, sx_mk_t, sx_mk_n, sx_mk_i, sx_mk_p, sx_meth_e, sx_meth_t, sx_meth_n, sx_meth_i, sx_meth_p, sx_attr_e, sx_attr_t, sx_attr_n, sx_attr_i, sx_attr_p, sx_sub_e, sx_sub_t, sx_sub_n, sx_sub_i, sx_sub_p, sx_slice_e, sx_slice_t, sx_slice_n, sx_slice_i, sx_slice_p, sx_tup_e, sx_tup_t, sx_tup_n, sx_tup_i, sx_tup_p, sx_lst_e, sx_lst_t, sx_lst_n, sx_lst_i, sx_lst_p, sx_mls_e, sx_mls_t, sx_mls_n, sx_mls_i, sx_mls_p, sx_comp_e, sx_comp_t, sx_comp_n, sx_comp_i, sx_comp_p, sx_bi_e, sx_bi_t, sx_bi_n, sx_bi_i, sx_bi_p, sx_isin_e, sx_isin_t, sx_isin_n, sx_isin_i, sx_isin_p, sx_sm_e, sx_sm_t, sx_sm_n, sx_sm_i, sx_sm_p, sx_hear_e, sx_hear_t, sx_hear_n, sx_hear_i, sx_hear_p, sx_dct_e, sx_dct_t, sx_dct_n, sx_dct_i, sx_dct_p, sx_rng_i, sx_enum_i, sx_nil_a, sx_nil_n, sx_nil_p, sx_cons_a, asgW, putP, tru_bl, cmp_gt, cmp_lt, cmp_ge, bi_int, bi_intb, bi_abs, bin_add, bin_sub, Option.map_some, Option.getD_some, List.map_cons, List.map_nil, List.replicate_succ, List.replicate_zero, List.cons_append, List.nil_append, List.getElem?_cons_zero, List.getElem?_cons_succ, List.set_cons_zero, List.set_cons_succ, lam_int, lam_ref, lam_lst, lam_tup, lam_str, lam_non, lam_bl, lam_exn, lam_dct, lim_0, lim_1, lim_2, lim_3, lim_4, lim_5, lim_6, lim_7, lim_8, lim_9, lim_10, if_true, if_false, Bool.false_eq_true, ↓reduceIte, Nat.reduceAdd, hk, hsp, hm]
          · intro l' e'
            have : (i : Int) = 0 := by injection e' with e'; injection e' with e' _; injection e'
            rw [i1, show i = 0 by omega]; rfl
          · simp [S.new, S.size] at *; omega
          · intro _
            by_cases ci : 0 < i
            · rw [(Keep.new s' _).2 s.size (by omega)]; exact i3 ci
            · have : i = 0 := by omega
              subst this
              have : l0 = l := Option.some.inj hq
              subst this
              have : s'.size = s.size := i1
              rw [← this]; exact new_get) 100000 0 [] s (by rw [lw]; omega) (Nat.zero_le _) ⟨rfl, Keep.refl s, fun h => absurd h (by omega)⟩ (by rw [lw]; show 0 + (_ - 0) ≤ 16777216; omega)
    obtain ⟨z1, z2, z3⟩ := c3
    rw [lw] at z1 z3
    rw [List.drop_zero] at c2
    have ly := c2.len
    rw [lw] at ly
    cases ys with
    | nil => simp at ly
    | cons y0 rs =>
      cases c2 with
      | cons g _ =>
        have ey : y0 = .ref s.size := g (.str l0) (by simp)
        subst ey
        have hm := lines_mk k (s := s2) (rs := .ref s.size :: rs)
        refine ⟨s2.new (linesO (.ref s.size :: rs) 0), s2.size, s.size, rs, l0, ls, ?_, z2.trans (Keep.new _ _), rfl, by simpa using ly.symm, new_get, ?_, Nat.le_refl _, z2.1, ?_⟩
        · have hsp := split_run (s := s) (x := t) (y := "\n") (by rw [nl_len]; omega) (by show _ ≤ 16777216; omega)
          rw [hs] at hsp
          have h1 : isMany (CK (k + 2)) s (.str t) [.b "str"] = some true := rfl
          rw [run_at (d := d3) rfl (k + 2) _ s rfl]
          unfold d3 t3
          rw [List.nil_append] at c1
          simp only [b_ok, b_exc, l_ok, l_exc, t_nx, t_rt, t_exc, c_ok, o_some, out_rt, out_nx, out_exc, k_call, k_init, k_meth, k_makes, k_wf, k_excf, k_sub, k_ask, k_hear, evB, sx_k_e, sx_k_t, sx_k_n, sx_k_i, sx_k_p, sx_v_e, sx_v_t, sx_v_n, sx_v_i, sx_v_p, sx_gl_e, sx_gl_t, sx_gl_n, sx_gl_i, sx_gl_p, sx_bin_e, sx_bin_t, sx_bin_n, sx_bin_i, sx_bin_p, sx_not_e, sx_not_t, sx_not_n, sx_neg_e, sx_neg_t, sx_neg_n, sx_neg_i, sx_neg_p, sx_one_e, sx_one_t, sx_one_n, sx_and_e, sx_and_t, sx_and_n, sx_or_e, sx_or_t, sx_or_n, sx_ite_e, sx_ite_t, sx_ite_n, sx_ite_i, sx_ite_p, sx_cmp_e, sx_cmp_t, sx_cmp_n, sx_cmp_i, sx_cmp_p, sx_cmp2_e, sx_cmp2_t, sx_cmp2_n, sx_cmp2_i, sx_cmp2_p, sx_call_e, sx_call_t, sx_call_n, sx_call_i, sx_call_p, sx_callk_e, sx_callk_t, sx_callk_n, sx_callk_i, sx_callk_p, sx_mkk_e, sx_mkk_t, sx_mkk_n, sx_mkk_i, sx_mkk_p, sx_methk_e, sx_methk_t, sx_methk_n, sx_methk_i, sx_methk_p, sx_mk_e, sx_mk_t, sx_mk_n, sx_mk_i, sx_mk_p, sx_meth_e, sx_meth_t, sx_meth_n, sx_meth_i, sx_meth_p, sx_attr_e, sx_attr_t, sx_attr_n, sx_attr_i, sx_attr_p, sx_sub_e, sx_sub_t, sx_sub_n, sx_sub_i, sx_sub_p, sx_slice_e, sx_slice_t, sx_slice_n, sx_slice_i, sx_slice_p, sx_tup_e, sx_tup_t, sx_tup_n, sx_tup_i, sx_tup_p, sx_lst_e, sx_lst_t, sx_lst_n, sx_lst_i, sx_lst_p, sx_mls_e, sx_mls_t, sx_mls_n, sx_mls_i, sx_mls_p, sx_comp_e, sx_comp_t, sx_comp_n, sx_comp_i, sx_comp_p, sx_bi_e, sx_bi_t, sx_bi_n, sx_bi_i, sx_bi_p, sx_isin_e, sx_isin_t, sx_isin_n, sx_isin_i, sx_isin_p, sx_sm_e, sx_sm_t, sx_sm_n, sx_sm_i, sx_sm_p, sx_hear_e, sx_hear_t, sx_hear_n, sx_hear_i, sx_hear_p, sx_dct_e, sx_dct_t, sx_dct_n, sx_dct_i, sx_dct_p, sx_rng_i, sx_enum_i, sx_nil_a, sx_nil_n, sx_nil_p, sx_cons_a, asgW, putP, tru_bl, cmp_gt, cmp_lt, cmp_ge, bi_int, bi_intb, bi_abs, bin_add, bin_sub, Option.map_some, Option.getD_some, List.map_cons, List.map_nil, List.replicate_succ, List.replicate_zero, List.cons_append, List.nil_append, List.getElem?_cons_zero, List.getElem?_cons_succ, List.set_cons_zero, List.set_cons_succ, lam_int, lam_ref, lam_lst, lam_tup, lam_str, lam_non, lam_bl, lam_exn, lam_dct, lim_0, lim_1, lim_2, lim_3, lim_4, lim_5, lim_6, lim_7, lim_8, lim_9, lim_10, if_true, if_false, Bool.false_eq_true, ↓reduceIte, Nat.reduceAdd, h1, Bool.not_true, smk, hsp, enum_lst] at c1 ⊢
          rw [show pg.wf = 100000 from rfl, c1]
          have hp : ∀ {β : Type} (f : List W → S → R β), pickW 1 [] [0, 1] [W.int 0] [W.lst (.ref s.size :: rs)] [] s2 f = f [W.lst (.ref s.size :: rs), .int 0] s2 := fun f => rfl
          simp only [b_ok, b_exc, l_ok, l_exc, t_nx, t_rt, t_exc, c_ok, o_some, out_rt, out_nx, out_exc, k_call, k_init, k_meth, k_makes, k_wf, k_excf, k_sub, k_ask, k_hear, evB, sx_k_e, sx_k_t, sx_k_n, sx_k_i, sx_k_p, sx_v_e, sx_v_t, sx_v_n, sx_v_i, sx_v_p, sx_gl_e, sx_gl_t, sx_gl_n, sx_gl_i, sx_gl_p, sx_bin_e, sx_bin_t, sx_bin_n, sx_bin_i, sx_bin_p, sx_not_e, sx_not_t, sx_not_n, sx_neg_e, sx_neg_t, sx_neg_n, sx_neg_i, sx_neg_p, sx_one_e, sx_one_t, sx_one_n, sx_and_e, sx_and_t, sx_and_n, sx_or_e, sx_or_t, sx_or_n, sx_ite_e, sx_ite_t, sx_ite_n, sx_ite_i, sx_ite_p, sx_cmp_e, sx_cmp_t, sx_cmp_n, sx_cmp_i, sx_cmp_p, sx_cmp2_e, sx_cmp2_t, sx_cmp2_n, sx_cmp2_i, sx_cmp2_p, sx_call_e, sx_call_t, sx_call_n, sx_call_i, sx_call_p, sx_callk_e, sx_callk_t, sx_callk_n, sx_callk_i, sx_callk_p, sx_mkk_e, sx_mkk_t, sx_mkk_n, sx_mkk_i, sx_mkk_p, sx_methk_e, sx_methk_t, sx_methk_n, sx_methk_i, sx_methk_p, sx_mk_e, sx_mk_t, sx_mk_n, sx_mk_i, sx_mk_p, sx_meth_e, sx_meth_t, sx_meth_n, sx_meth_i, sx_meth_p, sx_attr_e, sx_attr_t, sx_attr_n, sx_attr_i, sx_attr_p, sx_sub_e, sx_sub_t, sx_sub_n, sx_sub_i, sx_sub_p, sx_slice_e, sx_slice_t, sx_slice_n, sx_slice_i, sx_slice_p, sx_tup_e, sx_tup_t, sx_tup_n, sx_tup_i, sx_tup_p, sx_lst_e, sx_lst_t, sx_lst_n, sx_lst_i, sx_lst_p, sx_mls_e, sx_mls_t, sx_mls_n, sx_mls_i, sx_mls_p, sx_comp_e, sx_comp_t, sx_comp_n, sx_comp_i, sx_comp_p, sx_bi_e, sx_bi_t, sx_bi_n, sx_bi_i, sx_bi_p, sx_isin_e, sx_isin_t, sx_isin_n, sx_isin_i, sx_isin_p, sx_sm_e, sx_sm_t, sx_sm_n, sx_sm_i, sx_sm_p, sx_hear_e, sx_hear_t, sx_hear_n, sx_hear_i, sx_hear_p, sx_dct_e, sx_dct_t, sx_dct_n, sx_dct_i, sx_dct_p, sx_rng_i, sx_enum_i, sx_nil_a, sx_nil_n, sx_nil_p, sx_cons_a, asgW, putP, tru_bl, cmp_gt, cmp_lt, cmp_ge, bi_int, bi_intb, bi_abs, bin_add, bin_sub, Option.map_some, Option.getD_some, List.map_cons, List.map_nil, List.replicate_succ, List.replicate_zero, List.cons_append, List.nil_append, List.getElem?_cons_zero, List.getElem?_cons_succ, List.set_cons_zero, List.set_cons_succ, lam_int, lam_ref, lam_lst, lam_tup, lam_str, lam_non, lam_bl, lam_exn, lam_dct, lim_0, lim_1, lim_2, lim_3, lim_4, lim_5, lim_6, lim_7, lim_8, lim_9, lim_10, if_true, if_false, Bool.false_eq_true, ↓reduceIte, Nat.reduceAdd, hp, hm]
        · rw [(Keep.new s2 _).2 s.size (by rw [z1]; simp)]
          exact z3 (by simp)
        · have : 0 < (l0 :: ls).length := by simp
          omega
end Law

set_option linter.all false
set_option autoImplicit false
set_option maxRecDepth 100000
set_option maxHeartbeats 4000000
namespace Law
open Ev
open PySem (Str)

theorem eq_int {s : S} {i j : Int} : cmpW s .eq (.int i) (.int j) = some (i == j) := by
  show eqW s (.int i) (.int j) = _
  rw [eq_of (d := .int i) (e := .int j) rfl rfl rfl]
  simp [PySem.PyData.eqv]
theorem meth_line {k : Nat} {s : S} {r : Nat} {fs : List (Nat × W)} {m : Str} (h : s.get r = some (.ins 15 fs)) : methOf (CK k) (.ref r) m s = pg.meth 15 m := by
  show (match s.get r with
    | some (.ins c _) => if (pg.makes c).isSome then pg.meth c m else none
    | _ => none) = _
  rw [h]
  rfl
theorem meth_lines {k : Nat} {s : S} {r : Nat} {fs : List (Nat × W)} {m : Str} (h : s.get r = some (.ins 16 fs)) : methOf (CK k) (.ref r) m s = pg.meth 16 m := by
  show (match s.get r with
    | some (.ins c _) => if (pg.makes c).isSome then pg.meth c m else none
    | _ => none) = _
  rw [h]
  rfl
theorem lines_read (k : Nat) {s : S} {L : Nat} {rs : List W} {j : Int} (h : s.get L = some (linesO rs j)) : callF pg (k + 4) 27 [.ref L] s = .ok (.bl (j == (rs.length : Int))) s := by
  have g1 := getA (k := k) (f := 9) (w := .int j) h rfl rfl
  have g2 := getA (k := k) (f := 10) (w := .lst rs) h rfl rfl
  rw [run_at (d := d27) rfl k _ s rfl]
  unfold d27 t27
  simp only [b_ok, b_exc, l_ok, l_exc, t_nx, t_rt, t_exc, c_ok, o_some, out_rt, out_nx, out_exc, k_call, k_init, k_meth, k_makes, k_wf, k_excf, k_sub, k_ask, k_hear, evB, sx_k_e, sx_k_t, sx_k_n, sx_k_i, sx_k_p, sx_v_e, sx_v_t, sx_v_n, sx_v_i, sx_v_p, sx_gl_e, sx_gl_t, sx_gl_n, sx_gl_i, sx_gl_p, sx_bin_e, sx_bin_t, sx_bin_n, sx_bin_i, sx_bin_p, sx_not_e, sx_not_t, sx_not_n, sx_neg_e, sx_neg_t, sx_neg_n, sx_neg_i, sx_neg_p, sx_one_e, sx_one_t, sx_one_n, sx_and_e, sx_and_t, sx_and_n, sx_or_e, sx_or_t, sx_or_n, sx_ite_e, sx_ite_t, sx_ite_n, sx_ite_i, sx_ite_p, sx_cmp_e, sx_cmp_t, sx_cmp_n, sx_cmp_i, sx_cmp_p, sx_cmp2_e, sx_cmp2_t, sx_cmp2_n, sx_cmp2_i, sx_cmp2_p, sx_call_e, sx_call_t, sx_call_n, sx_call_i, sx_call_p, sx_callk_e, sx_callk_t, sx_callk_n, sx_callk_i, sx_callk_p, sx_mkk_e, sx_mkk_t, sx_mkk_n, sx_mkk_i, sx_mkk_p, sx_methk_e, sx_methk_t, sx_methk_n, sx_methk_i, sx_methk_p, sx_mk_e, sx_mk_t, sx_mk_n, sx_mk_i, sx_mk_p, sx_meth_e, sx_meth_t, sx_meth_n, sx_meth_i, sx_meth_p, sx_attr_e, sx_attr_t, sx_attr_n, sx_attr_i, sx_attr_p, sx_sub_e, sx_sub_t, sx_sub_n, sx_sub_i, sx_sub_p, sx_slice_e, sx_slice_t, sx_slice_n, sx_slice_i, sx_slice_p, sx_tup_e, sx_tup_t, sx_tup_n, sx_tup_i, sx_tup_p, sx_lst_e, sx_lst_t, sx_lst_n, sx_lst_i, sx_lst_p, sx_mls_e, sx_mls_t, sx_mls_n, sx_mls_i, sx_mls_p, sx_comp_e, sx_comp_t, sx_comp_n, sx_comp_i, sx_comp_p, sx_bi_e, sx_bi_t, sx_bi_n, sx_bi_i, sx_bi_p, sx_isin_e, sx_isin_t, sx_isin_n, sx_isin_i, sx_isin_p, sx_sm_e, sx_sm_t, sx_sm_n, sx_sm_i, sx_sm_p, sx_hear_e, sx_hear_t, sx_hear_n, sx_hear_i, sx_hear_p, sx_dct_e, sx_dct_t, sx_dct_n, sx_dct_i, sx_dct_p, sx_rng_i, sx_enum_i, sx_nil_a, sx_nil_n, sx_nil_p, sx_cons_a, asgW, putP, tru_bl, cmp_gt, cmp_lt, cmp_ge, bi_int, bi_intb, bi_abs, bin_add, bin_sub, Option.map_some, Option.getD_some, List.map_cons, List.map_nil, List.replicate_succ, List.replicate_zero, List.cons_append, List.nil_append, List.getElem?_cons_zero, List.getElem?_cons_succ, List.set_cons_zero, List.set_cons_succ, lam_int, lam_ref, lam_lst, lam_tup, lam_str, lam_non, lam_bl, lam_exn, lam_dct, lim_0, lim_1, lim_2, lim_3, lim_4, lim_5, lim_6, lim_7, lim_8, lim_9, lim_10, if_true, if_false, Bool.false_eq_true, ↓reduceIte, Nat.reduceAdd, g1, g2, bi_len len_lst, eq_int]
theorem line_read (k : Nat) {s : S} {r : Nat} {a : Int} {ws : List Str} {j : Int} (h : s.get r = some (lineO a ws j)) : callF pg (k + 4) 14 [.ref r] s = .ok (.bl (j == (ws.length : Int))) s := by
  have g1 := getA (k := k) (f := 9) (w := .int j) h rfl rfl
  have g2 := getA (k := k) (f := 8) (w := .lst (ws.map .str)) h rfl rfl
  rw [run_at (d := d14) rfl k _ s rfl]
  unfold d14 t14
  simp only [b_ok, b_exc, l_ok, l_exc, t_nx, t_rt, t_exc, c_ok, o_some, out_rt, out_nx, out_exc, k_call, k_init, k_meth, k_makes, k_wf, k_excf, k_sub, k_ask, k_hear, evB, sx_k_e, sx_k_t, sx_k_n, sx_k_i, sx_k_p, sx_v_e, sx_v_t, sx_v_n, sx_v_i, sx_v_p, sx_gl_e, sx_gl_t, sx_gl_n, sx_gl_i, sx_gl_p, sx_bin_e, sx_bin_t, sx_bin_n, sx_bin_i, sx_bin_p, sx_not_e, sx_not_t, sx_not_n, sx_neg_e, sx_neg_t, sx_neg_n, sx_neg_i, sx_neg_p, sx_one_e, sx_one_t, sx_one_n, sx_and_e, sx_and_t, sx_and_n, sx_or_e, sx_or_t, sx_or_n, sx_ite_e, sx_ite_t, sx_ite_n, sx_ite_i, sx_ite_p, sx_cmp_e, sx_cmp_t, sx_cmp_n, sx_cmp_i, sx_cmp_p, sx_cmp2_e, sx_cmp2_t, sx_cmp2_n, sx_cmp2_i, sx_cmp2_p, sx_call_e, sx_call_t, sx_call_n, sx_call_i, sx_call_p, sx_callk_e, sx_callk_t, sx_callk_n, sx_callk_i, sx_callk_p, sx_mkk_e, sx_mkk_t, sx_mkk_n, sx_mkk_i, sx_mkk_p, sx_methk_e, sx_methk_t, sx_methk_n, sx_methk_i, sx_methk_p, sx_mk_e, sx_mk_t, sx_mk_n, sx_mk_i, sx_mk_p, sx_meth_e, sx_meth_t, sx_meth_n, sx_meth_i, sx_meth_p, sx_attr_e, sx_attr_t, sx_attr_n, sx_attr_i, sx_attr_p, sx_sub_e, sx_sub_t, sx_sub_n, sx_sub_i, sx_sub_p, sx_slice_e, sx_slice_t, sx_slice_n, sx_slice_i, sx_slice_p, sx_tup_e, sx_tup_t, sx_tup_n, sx_tup_i, sx_tup_p, sx_lst_e, sx_lst_t, sx_lst_n, sx_lst_i, sx_lst_p, sx_mls_e, sx_mls_t, sx_mls_n, sx_mls_i, sx_mls_p, sx_comp_e, sx_comp_t, sx_comp_n, sx_comp_i, sx_comp_p, sx_bi_e, sx_bi_t, sx_bi_n, sx_bi_i, sx_bi_p, sx_isin_e, sx_isin_t, sx_isin_n, sx_isin_i, sx_isin_p, sx_sm_e, sx_sm_t, sx_sm_n, sx_sm_i, sx_sm_p, sx_hear_e, sx_hear_t, sx_hear_n, sx_hear_i, sx_hear_p, sx_dct_e, sx_dct_t, sx_dct_n, sx_dct_i, sx_dct_p, sx_rng_i, sx_enum_i, sx_nil_a, sx_nil_n, sx_nil_p, sx_cons_a, asgW, putP, tru_bl, cmp_gt, cmp_lt, cmp_ge, bi_int, bi_intb, bi_abs, bin_add, bin_sub, Option.map_some, Option.getD_some, List.map_cons, List.map_nil, List.replicate_succ, List.replicate_zero, List.cons_append, List.nil_append, List.getElem?_cons_zero, List.getElem?_cons_succ, List.set_cons_zero, List.set_cons_succ, lam_int, lam_ref, lam_lst, lam_tup, lam_str, lam_non, lam_bl, lam_exn, lam_dct, lim_0, lim_1, lim_2, lim_3, lim_4, lim_5, lim_6, lim_7, lim_8, lim_9, lim_10, if_true, if_false, Bool.false_eq_true, ↓reduceIte, Nat.reduceAdd, g1, g2, bi_len len_lst, eq_int, List.length_map]
theorem line_refuse (k : Nat) {s : S} {r : Nat} {a : Int} {ws : List Str} {j : Int} (h : s.get r = some (lineO a ws j)) : callF pg (k + 4) 16 [.ref r] s = .exc 11 [(4, .int a), (3, .int j)] s := by
  have g1 := getA (k := k) (f := 9) (w := .int j) h rfl rfl
  have g2 := getA (k := k) (f := 7) (w := .int a) h rfl rfl
  have hx : pg.excf 11 = some [4, 3] := rfl
  rw [run_at (d := d16) rfl k _ s rfl]
  unfold d16 t16
  simp only [b_ok, b_exc, l_ok, l_exc, t_nx, t_rt, t_exc, c_ok, o_some, out_rt, out_nx, out_exc, k_call, k_init, k_meth, k_makes, k_wf, k_excf, k_sub, k_ask, k_hear, evB, sx_k_e, sx_k_t, sx_k_n, sx_k_i, sx_k_p, sx_v_e, sx_v_t, sx_v_n, sx_v_i, sx_v_p, sx_gl_e, sx_gl_t, sx_gl_n, sx_gl_i, sx_gl_p, sx_bin_e, sx_bin_t, sx_bin_n, sx_bin_i, sx_bin_p, sx_not_e, sx_not_t, sx_not_n, sx_neg_e, sx_neg_t, sx_neg_n, sx_neg_i, sx_neg_p, sx_one_e, sx_one_t, sx_one_n, sx_and_e, sx_and_t, sx_and_n, sx_or_e, sx_or_t, sx_or_n, sx_ite_e, sx_ite_t, sx_ite_n, sx_ite_i, sx_ite_p, sx_cmp_e, sx_cmp_t, sx_cmp_n, sx_cmp_i, sx_cmp_p, sx_cmp2_e, sx_cmp2_t, sx_cmp2_n, sx_cmp2_i, sx_cmp2_p, sx_call_e, sx_call_t, sx_call_n, sx_call_i, sx_call_p, sx_callk_e, sx_callk_t, sx_callk_n, sx_callk_i, sx_callk_p, sx_mkk_e, sx_mkk_t, sx_mkk_n, sx_mkk_i, sx_mkk_p, sx_methk_e, sx_methk_t, sx_methk_n, sx_methk_i, sx_methk_p, sx_mk_e, sx_mk_t, sx_mk_n, sx_mk_i, sx_mk_p, sx_meth_e, sx_meth_t, sx_meth_n, sx_meth_i, sx_meth_p, sx_attr_e, sx_attr_t, sx_attr_n, sx_attr_i, sx_attr_p, sx_sub_e, sx_sub_t, sx_sub_n, sx_sub_i, sx_sub_p, sx_slice_e, sx_slice_t, sx_slice_n, sx_slice_i, sx_slice_p, sx_tup_e, sx_tup_t, sx_tup_n, sx_tup_i, sx_tup_p, sx_lst_e, sx_lst_t, sx_lst_n, sx_lst_i, sx_lst_p, sx_mls_e, sx_mls_t, sx_mls_n, sx_mls_i, sx_mls_p, sx_comp_e, sx_comp_t, sx_comp_n, sx_comp_i, sx_comp_p, sx_bi_e, sx_bi_t, sx_bi_n, sx_bi_i, sx_bi_p, sx_isin_e, sx_isin_t, sx_isin_n, sx_isin_i, sx_isin_p, sx_sm_e, sx_sm_t, sx_sm_n, sx_sm_i, sx_sm_p, sx_hear_e, sx_hear_t, sx_hear_n, sx_hear_i, sx_hear_p, sx_dct_e, sx_dct_t, sx_dct_n, sx_dct_i, sx_dct_p, sx_rng_i, sx_enum_i, sx_nil_a, sx_nil_n, sx_nil_p, sx_cons_a, asgW, putP, tru_bl, cmp_gt, cmp_lt, cmp_ge, bi_int, bi_intb, bi_abs, bin_add, bin_sub, Option.map_some, Option.getD_some, List.map_cons, List.map_nil, List.replicate_succ, List.replicate_zero, List.cons_append, List.nil_append, List.getElem?_cons_zero, List.getElem?_cons_succ, List.set_cons_zero, List.set_cons_succ, lam_int, lam_ref, lam_lst, lam_tup, lam_str, lam_non, lam_bl, lam_exn, lam_dct, lim_0, lim_1, lim_2, lim_3, lim_4, lim_5, lim_6, lim_7, lim_8, lim_9, lim_10, if_true, if_false, Bool.false_eq_true, ↓reduceIte, Nat.reduceAdd, g1, g2, hx, List.length_cons, List.length_nil, List.zip_cons_cons, List.zip_nil_right]
theorem aug_ii {s : S} {i j : Int} : augW s .add (.int i) (.int j) = .ok (.int (i + j)) s := rfl
theorem cls_at {s : S} {r c : Nat} {fs : List (Nat × W)} (h : s.get r = some (.ins c fs)) : clsAt s (.ref r) = some c := by
  unfold clsAt
  dsimp only
  rw [h]
theorem lines_take (k : Nat) {s : S} {L : Nat} {r : W} {rs : List W} (h : s.get L = some (linesO (r :: rs) 0)) (hn : rs.length < 100000) : callF pg (k + 5) 31 [.ref L] s = .ok r (s.set L (linesO (r :: rs) 1)) := by
  have e1 : callF pg (k + 1 + 3) 27 [.ref L] s = .ok (.bl false) s := by
    have := lines_read k h
    rw [show ((0 : Int) == ((r :: rs).length : Int)) = false from beq_eq_false_iff_ne.mpr (by simp; omega)] at this
    exact this
  have m1 := meth_lines (k := k + 1) (m := "is_read") h
  have m2 : pg.meth 16 "is_read" = some 27 := rfl
  have g1 := getA (k := k + 1) (f := 9) (w := .int 0) h rfl rfl
  have sA := setA (k := k + 1) (f := 9) (w := .int (0 + 1)) h rfl (by simp)
  have h2 : (s.set L (linesO (r :: rs) 1)).get L = some (linesO (r :: rs) 1) := get_set h
  have sB : setAttr (CK (k + 1)) s (.ref L) 9 (.int (0 + 1)) = some (s.set L (linesO (r :: rs) 1)) := sA
  have g2 := getA (k := k + 1) (f := 9) (w := .int 1) h2 rfl rfl
  have g3 := getA (k := k + 1) (f := 10) (w := .lst (r :: rs)) h2 rfl rfl
  have sb := sub_at (s := s.set L (linesO (r :: rs) 1)) (x := .lst (r :: rs)) (ws := r :: rs) (i := 1 - 1) rfl (by decide) (by simp) (by simp; omega)
  rw [run_at (d := d31) rfl (k + 1) _ s rfl]
  unfold d31 t31
  simp only [b_ok, b_exc, l_ok, l_exc, t_nx, t_rt, t_exc, c_ok, o_some, out_rt, out_nx, out_exc, k_call, k_init, k_meth, k_makes, k_wf, k_excf, k_sub, k_ask, k_hear, evB, sx_k_e, sx_k_t, sx_k_n, sx_k_i, sx_k_p, sx_v_e, sx_v_t, sx_v_n, sx_v_i, sx_v_p, sx_gl_e, sx_gl_t, sx_gl_n, sx_gl_i, sx_gl_p, sx_bin_e, sx_bin_t, sx_bin_n, sx_bin_i, sx_bin_p, sx_not_e, sx_not_t, sx_not_n, sx_neg_e, sx_neg_t, sx_neg_n, sx_neg_i, sx_neg_p, sx_one_e, sx_one_t, sx_one_n, sx_and_e, sx_and_t, sx_and_n, sx_or_e, sx_or_t, sx_or_n, sx_ite_e, sx_ite_t, sx_ite_n, sx_ite_i, sx_ite_p, sx_cmp_e, sx_cmp_t, sx_cmp_n, sx_cmp_i, sx_cmp_p, sx_cmp2_e, sx_cmp2_t, sx_cmp2_n, sx_cmp2_i, sx_cmp2_p, sx_call_e, sx_call_t, sx_call_n, sx_call_i, sx_call_p, sx_callk_e, sx_callk_t, sx_callk_n, sx_callk_i, sx_callk_p, sx_mkk_e, sx_mkk_t, sx_mkk_n, sx_mkk_i, sx_mkk_p, sx_methk_e, sx_methk_t, sx_methk_n, sx_methk_i, sx_methk_p, sx_mk_e, sx_mk_t, sx_mk_n, sx_mk_i, sx_mk_p, sx_meth_e, sx_meth_t, sx_meth_n, sx_meth_i, sx_meth_p, sx_attr_e, sx_attr_t, sx_attr_n, sx_attr_i, sx_attr_p, sx_sub_e, sx_sub_t, sx_sub_n, sx_sub_i, sx_sub_p, sx_slice_e, sx_slice_t, sx_slice_n, sx_slice_i, sx_slice_p, sx_tup_e, sx_tup_t, sx_tup_n, sx_tup_i, sx_tup_p, sx_lst_e, sx_lst_t, sx_lst_n, sx_lst_i, sx_lst_p, sx_mls_e, sx_mls_t, sx_mls_n, sx_mls_i, sx_mls_p, sx_comp_e, sx_comp_t, sx_comp_n, sx_comp_i, sx_comp_p, sx_bi_e, sx_bi_t, sx_bi_n, sx_bi_i, sx_bi_p, sx_isin_e, sx_isin_t, sx_isin_n, sx_isin_i, sx_isin_p, sx_sm_e, sx_sm_t, sx_sm_n, sx_sm_i, sx_sm_p, sx_hear_e, sx_hear_t, sx_hear_n, sx_hear_i, sx_hear_p, sx_dct_e, sx_dct_t, sx_dct_n, sx_dct_i, sx_dct_p, sx_rng_i, sx_enum_i, sx_nil_a, sx_nil_n, sx_nil_p, sx_cons_a, asgW, putP, tru_bl, cmp_gt, cmp_lt, cmp_ge, bi_int, bi_intb, bi_abs, bin_add, bin_sub, Option.map_some, Option.getD_some, List.map_cons, List.map_nil, List.replicate_succ, List.replicate_zero, List.cons_append, List.nil_append, List.getElem?_cons_zero, List.getElem?_cons_succ, List.set_cons_zero, List.set_cons_succ, lam_int, lam_ref, lam_lst, lam_tup, lam_str, lam_non, lam_bl, lam_exn, lam_dct, lim_0, lim_1, lim_2, lim_3, lim_4, lim_5, lim_6, lim_7, lim_8, lim_9, lim_10, if_true, if_false, Bool.false_eq_true, ↓reduceIte, Nat.reduceAdd, m1, m2, e1, g1, cls_at h, aug_ii, sB, g2, g3, sb]
  rfl
theorem line_take (k : Nat) {s : S} {r : Nat} {a : Int} {ws : List Str} {j : Nat} (h : s.get r = some (lineO a ws j)) (hj : j < ws.length) (hn : ws.length < 100000) : callF pg (k + 5) 17 [.ref r] s = .ok (.str ws[j]) (s.set r (lineO a ws (j + 1 : Nat))) := by
  have e1 : callF pg (k + 1 + 3) 14 [.ref r] s = .ok (.bl false) s := by
    have := line_read k h
    rw [show ((j : Int) == (ws.length : Int)) = false from beq_eq_false_iff_ne.mpr (by omega)] at this
    exact this
  have m1 := meth_line (k := k + 1) (m := "is_read") h
  have m2 : pg.meth 15 "is_read" = some 14 := rfl
  have g1 := getA (k := k + 1) (f := 9) (w := .int j) h rfl rfl
  have sA := setA (k := k + 1) (f := 9) (w := .int (j + 1)) h rfl (by simp)
  have sB : setAttr (CK (k + 1)) s (.ref r) 9 (.int (j + 1)) = some (s.set r (lineO a ws (j + 1 : Nat))) := sA
  have h2 : (s.set r (lineO a ws (j + 1 : Nat))).get r = some (lineO a ws (j + 1 : Nat)) := get_set h
  have g2 := getA (k := k + 1) (f := 9) (w := .int (j + 1 : Nat)) h2 rfl rfl
  have g3 := getA (k := k + 1) (f := 8) (w := .lst (ws.map .str)) h2 rfl rfl
  have ej : (((j + 1 : Nat) : Int) - 1).toNat = j := by omega
  have sb := sub_at (s := s.set r (lineO a ws (j + 1 : Nat))) (x := .lst (ws.map .str)) (ws := ws.map .str) (i := ((j + 1 : Nat) : Int) - 1) rfl (by omega) (by rw [List.length_map]; omega) (by rw [List.length_map]; omega)
  have sb2 : subW (s.set r (lineO a ws (j + 1 : Nat))) (.lst (ws.map .str)) (.int (((j + 1 : Nat) : Int) - 1)) = .ok (.str ws[j]) (s.set r (lineO a ws (j + 1 : Nat))) := by
    rw [sb]
    simp only [ej, List.getElem_map]
  rw [run_at (d := d17) rfl (k + 1) _ s rfl]
  unfold d17 t17
  simp only [b_ok, b_exc, l_ok, l_exc, t_nx, t_rt, t_exc, c_ok, o_some, out_rt, out_nx, out_exc, k_call, k_init, k_meth, k_makes, k_wf, k_excf, k_sub, k_ask, k_hear, evB, sx_k_e, sx_k_t, sx_k_n, sx_k_i, sx_k_p, sx_v_e, sx_v_t, sx_v_n, sx_v_i, sx_v_p, sx_gl_e, sx_gl_t, sx_gl_n, sx_gl_i, sx_gl_p, sx_bin_e, sx_bin_t, sx_bin_n, sx_bin_i, sx_bin_p, sx_not_e, sx_not_t, sx_not_n, sx_neg_e, sx_neg_t, sx_neg_n, sx_neg_i, sx_neg_p, sx_one_e, sx_one_t, sx_one_n, sx_and_e, sx_and_t, sx_and_n, sx_or_e, sx_or_t, sx_or_n, sx_ite_e, sx_ite_t, sx_ite_n, sx_ite_i, sx_ite_p, sx_cmp_e, sx_cmp_t, sx_cmp_n, sx_cmp_i, sx_cmp_p, sx_cmp2_e, sx_cmp2_t, sx_cmp2_n, sx_cmp2_i, sx_cmp2_p, sx_call_e, sx_call_t, sx_call_n, sx_call_i, sx_call_p, sx_callk_e, sx_callk_t, sx_callk_n, sx_callk_i, sx_callk_p, sx_mkk_e, sx_mkk_t, sx_mkk_n, sx_mkk_i, sx_mkk_p, sx_methk_e, sx_methk_t, sx_methk_n, sx_methk_i, sx_methk_p, sx_mk_e, sx_mk_t, sx_mk_n, sx_mk_i, sx_mk_p, sx_meth_e, sx_meth_t, sx_meth_n, sx_meth_i, sx_meth_p, sx_attr_e, sx_attr_t, sx_attr_n, sx_attr_i, sx_attr_p, sx_sub_e, sx_sub_t, sx_sub_n, sx_sub_i, sx_sub_p, sx_slice_e, sx_slice_t, sx_slice_n, sx_slice_i, sx_slice_p, sx_tup_e, sx_tup_t, sx_tup_n, sx_tup_i, sx_tup_p, sx_lst_e, sx_lst_t, sx_lst_n, sx_lst_i, sx_lst_p, sx_mls_e, sx_mls_t, sx_mls_n, sx_mls_i, sx_mls_p, sx_comp_e, sx_comp_t, sx_comp_n, sx_comp_i, sx_comp_p, sx_bi_e, sx_bi_t, sx_bi_n, sx_bi_i, sx_bi_p, sx_isin_e, sx_isin_t, sx_isin_n, sx_isin_i, sx_isin_p, sx_sm_e, sx_sm_t, sx_sm_n, sx_sm_i, sx_sm_p, sx_hear_e, sx_hear_t, sx_hear_n, sx_hear_i, sx_hear_p, sx_dct_e, sx_dct_t, sx_dct_n, sx_dct_i, sx_dct_p, sx_rng_i, sx_enum_i, sx_nil_a, sx_nil_n, sx_nil_p, sx_cons_a, asgW, putP, tru_bl, cmp_gt, cmp_lt, cmp_ge, bi_int, bi_intb, bi_abs, bin_add, bin_sub, Option.map_some, Option.getD_some, List.map_cons, List.map_nil, List.replicate_succ, List.replicate_zero, List.cons_append, List.nil_append, List.getElem?_cons_zero, List.getElem?_cons_succ, List.set_cons_zero, List.set_cons_succ, lam_int, lam_ref, lam_lst, lam_tup, lam_str, lam_non, lam_bl, lam_exn, lam_dct, lim_0, lim_1, lim_2, lim_3, lim_4, lim_5, lim_6, lim_7, lim_8, lim_9, lim_10, if_true, if_false, Bool.false_eq_true, ↓reduceIte, Nat.reduceAdd, m1, m2, e1, g1, cls_at h, aug_ii, sB, g2, g3, sb2]
def ANS : W := .tup [.str "yes", .str "no"]
theorem need_one (k : Nat) {s : S} {r : Nat} {a : Int} {ws : List Str} {j : Nat} (h : s.get r = some (lineO a ws j)) (hj : j < ws.length) (hn : ws.length < 100000) :
    callF pg (k + 6) 19 [.ref r, .tup [.str "yes", .str "no"]] s = if okS ws[j] = true then .ok (.str ws[j]) (s.set r (lineO a ws (j + 1 : Nat))) else .exc 11 [(4, .int a), (3, .int j)] s := by
  have e1 : callF pg (k + 2 + 3) 14 [.ref r] s = .ok (.bl false) s := by
    have := line_read (k + 1) h
    rw [show ((j : Int) == (ws.length : Int)) = false from beq_eq_false_iff_ne.mpr (by omega)] at this
    exact this
  have m1 := fun m => meth_line (k := k + 2) (m := m) h
  have m2 : pg.meth 15 "is_read" = some 14 := rfl
  have m3 : pg.meth 15 "refuse" = some 16 := rfl
  have m4 : pg.meth 15 "take_word" = some 17 := rfl
  have g1 := getA (k := k + 2) (f := 9) (w := .int j) h rfl rfl
  have g3 := getA (k := k + 2) (f := 8) (w := .lst (ws.map .str)) h rfl rfl
  have sb := sub_at (s := s) (x := .lst (ws.map .str)) (ws := ws.map .str) (i := (j : Int)) rfl (by omega) (by rw [List.length_map]; omega) (by rw [List.length_map]; omega)
  have sb2 : subW s (.lst (ws.map .str)) (.int j) = .ok (.str ws[j]) s := by
    rw [sb]
    simp
  have e2 : callF pg (k + 2 + 3) 16 [.ref r] s = _ := line_refuse (k + 1) h
  have e3 : callF pg (k + 2 + 3) 17 [.ref r] s = _ := line_take k h hj hn
  rw [run_at (d := d19) rfl (k + 2) _ s rfl]
  unfold d19 t19
  by_cases c : okS ws[j] = true
  · rw [if_pos c]
    simp only [b_ok, b_exc, l_ok, l_exc, t_nx, t_rt, t_exc, c_ok, o_some, out_rt, out_nx, out_exc, k_call, k_init, k_meth, k_makes, k_wf, k_excf, k_sub, k_ask, k_hear, evB, sx_k_e, sx_k_t, sx_k_n, sx_k_i, sx_k_p, sx_v_e, sx_v_t, sx_v_n, sx_v_i, sx_v_p, sx_gl_e, sx_gl_t, sx_gl_n, sx_gl_i, sx_gl_p, sx_bin_e, sx_bin_t, sx_bin_n, sx_bin_i, sx_bin_p, sx_not_e, sx_not_t, sx_not_n, sx_neg_e, sx_neg_t, sx_neg_n, sx_neg_i, sx_neg_p, sx_one_e, sx_one_t, sx_one_n, sx_and_e, sx_and_t, sx_and_n, sx_or_e, sx_or_t, sx_or_n, sx_ite_e, sx_ite_t, sx_ite_n, sx_ite_i, sx_ite_p, sx_cmp_e, sx_cmp_t, sx_cmp_n, sx_cmp_i, sx_cmp_p, sx_cmp2_e, sx_cmp2_t, sx_cmp2_n, sx_cmp2_i, sx_cmp2_p, sx_call_e, sx_call_t, sx_call_n, sx_call_i, sx_call_p, sx_callk_e, sx_callk_t, sx_callk_n, sx_callk_i, sx_callk_p, sx_mkk_e, sx_mkk_t, sx_mkk_n, sx_mkk_i, sx_mkk_p, sx_methk_e, sx_methk_t, sx_methk_n, sx_methk_i, sx_methk_p, sx_mk_e, sx_mk_t, sx_mk_n, sx_mk_i, sx_mk_p, sx_meth_e, sx_meth_t, sx_meth_n, sx_meth_i, sx_meth_p, sx_attr_e, sx_attr_t, sx_attr_n, sx_attr_i, sx_attr_p, sx_sub_e, sx_sub_t, sx_sub_n, sx_sub_i, sx_sub_p, sx_slice_e, sx_slice_t, sx_slice_n, sx_slice_i, sx_slice_p, sx_tup_e, sx_tup_t, sx_tup_n, sx_tup_i, sx_tup_p, sx_lst_e, sx_lst_t, sx_lst_n, sx_lst_i, sx_lst_p, sx_mls_e, sx_mls_t, sx_mls_n, sx_mls_i, sx_mls_p, sx_comp_e, sx_comp_t, sx_comp_n, sx_comp_i, sx_comp_p, sx_bi_e, sx_bi_t, sx_bi_n, sx_bi_i, sx_bi_p, sx_isin_e, sx_isin_t, sx_isin_n, sx_isin_i, sx_isin_p, sx_sm_e, sx_sm_t, sx_sm_n, sx_sm_i, sx_sm_p, sx_hear_e, sx_hear_t, sx_hear_n, sx_hear_i, sx_hear_p, sx_dct_e, sx_dct_t, sx_dct_n, sx_dct_i, sx_dct_p, sx_rng_i, sx_enum_i, sx_nil_a, sx_nil_n, sx_nil_p, sx_cons_a, asgW, putP, tru_bl, cmp_gt, cmp_lt, cmp_ge, bi_int, bi_intb, bi_abs, bin_add, bin_sub, Option.map_some, Option.getD_some, List.map_cons, List.map_nil, List.replicate_succ, List.replicate_zero, List.cons_append, List.nil_append, List.getElem?_cons_zero, List.getElem?_cons_succ, List.set_cons_zero, List.set_cons_succ, lam_int, lam_ref, lam_lst, lam_tup, lam_str, lam_non, lam_bl, lam_exn, lam_dct, lim_0, lim_1, lim_2, lim_3, lim_4, lim_5, lim_6, lim_7, lim_8, lim_9, lim_10, if_true, if_false, Bool.false_eq_true, ↓reduceIte, Nat.reduceAdd, m1, m2, m3, m4, e1, g1, g3, sb2, notin_ans, c, Bool.not_true, e3]
  · rw [if_neg c]
    rw [Bool.not_eq_true] at c
    simp only [b_ok, b_exc, l_ok, l_exc, t_nx, t_rt, t_exc, c_ok, o_some, out_rt, out_nx, out_exc, k_call, k_init, k_meth, k_makes, k_wf, k_excf, k_sub, k_ask, k_hear, evB, sx_k_e, sx_k_t, sx_k_n, sx_k_i, sx_k_p, sx_v_e, sx_v_t, sx_v_n, sx_v_i, sx_v_p, sx_gl_e, sx_gl_t, sx_gl_n, sx_gl_i, sx_gl_p, sx_bin_e, sx_bin_t, sx_bin_n, sx_bin_i, sx_bin_p, sx_not_e, sx_not_t, sx_not_n, sx_neg_e, sx_neg_t, sx_neg_n, sx_neg_i, sx_neg_p, sx_one_e, sx_one_t, sx_one_n, sx_and_e, sx_and_t, sx_and_n, sx_or_e, sx_or_t, sx_or_n, sx_ite_e, sx_ite_t, sx_ite_n, sx_ite_i, sx_ite_p, sx_cmp_e, sx_cmp_t, sx_cmp_n, sx_cmp_i, sx_cmp_p, sx_cmp2_e, sx_cmp2_t, sx_cmp2_n, sx_cmp2_i, sx_cmp2_p, sx_call_e, sx_call_t, sx_call_n, sx_call_i, sx_call_p, sx_callk_e, sx_callk_t, sx_callk_n, sx_callk_i, sx_callk_p, sx_mkk_e, sx_mkk_t, sx_mkk_n, sx_mkk_i, sx_mkk_p, sx_methk_e, sx_methk_t, sx_methk_n, sx_methk_i, sx_methk_p, sx_mk_e, sx_mk_t, sx_mk_n, sx_mk_i, sx_mk_p, sx_meth_e, sx_meth_t, sx_meth_n, sx_meth_i, sx_meth_p, sx_attr_e, sx_attr_t, sx_attr_n, sx_attr_i, sx_attr_p, sx_sub_e, sx_sub_t, sx_sub_n, sx_sub_i, sx_sub_p, sx_slice_e, sx_slice_t, sx_slice_n, sx_slice_i, sx_slice_p, sx_tup_e, sx_tup_t, sx_tup_n, sx_tup_i, sx_tup_p, sx_lst_e, sx_lst_t, sx_lst_n, sx_lst_i, sx_lst_p, sx_mls_e, sx_mls_t, sx_mls_n, sx_mls_i, sx_mls_p, sx_comp_e, sx_comp_t, sx_comp_n, sx_comp_i, sx_comp_p, sx_bi_e, sx_bi_t, sx_bi_n, sx_bi_i, sx_bi_p, sx_isin_e, sx_isin_t, sx_isin_n, sx_isin_i, sx_isin_p, sx_sm_e, sx_sm_t, sx_sm_n, sx_sm_i, sx_sm_p, sx_hear_e, sx_hear_t, sx_hear_n, sx_hear_i, sx_hear_p, sx_dct_e, sx_dct_t, sx_dct_n, sx_dct_i, sx_dct_p, sx_rng_i, sx_enum_i, sx_nil_a, sx_nil_n, sx_nil_p, sx_cons_a, asgW, putP, tru_bl, cmp_gt, cmp_lt, cmp_ge, bi_int, bi_intb, bi_abs, bin_add, bin_sub, Option.map_some, Option.getD_some, List.map_cons, List.map_nil, List.replicate_succ, List.replicate_zero, List.cons_append, List.nil_append, List.getElem?_cons_zero, List.getElem?_cons_succ, List.set_cons_zero, List.set_cons_succ, lam_int, lam_ref, lam_lst, lam_tup, lam_str, lam_non, lam_bl, lam_exn, lam_dct, lim_0, lim_1, lim_2, lim_3, lim_4, lim_5, lim_6, lim_7, lim_8, lim_9, lim_10, if_true, if_false, Bool.false_eq_true, ↓reduceIte, Nat.reduceAdd, m1, m2, m3, m4, e1, g1, g3, sb2, notin_ans, c, Bool.not_false, e2]
end Law

set_option linter.all false
set_option autoImplicit false
set_option maxRecDepth 100000
set_option maxHeartbeats 4000000
namespace Law
open Ev
open PySem (Str)

/-- the first word that cannot stand -/
def fb : List Str → Nat → Option Nat
  | [], _ => none
  | x :: xs, j => if okS x = true then fb xs (j + 1) else some j
theorem fb_none {xs : List Str} : ∀ {j : Nat}, fb xs j = none → ∀ x ∈ xs, isAns x := by
  induction xs with
  | nil => intro j _ x h; exact absurd h (by simp)
  | cons a xs ih =>
    intro j h x hx
    unfold fb at h
    split at h
    · rename_i c
      rcases List.mem_cons.mp hx with rfl | hx
      · exact okS_iff.mp c
      · exact ih h x hx
    · cases h
theorem fb_all {xs : List Str} : ∀ {j : Nat}, (∀ x ∈ xs, isAns x) → fb xs j = none := by
  induction xs with
  | nil => intro j _; rfl
  | cons a xs ih =>
    intro j h
    unfold fb
    rw [if_pos (okS_iff.mpr (h a (by simp)))]
    exact ih fun x hx => h x (by simp [hx])
section
variable {test : Env → S → R Bool} {body : Env → S → RS} {n : Nat} {e e2 : Env} {s s1 s2 : S}
theorem whl_end (h : test e s = .ok false s1) : whlL test body (n + 1) e s = .ok (.nx e) s1 := by
  rw [whlL, h, l_ok]
  exact if_neg (by simp)
theorem whl_step (h : test e s = .ok true s1) (h2 : body e s1 = .ok (.nx e2) s2) : whlL test body (n + 1) e s = whlL test body n e2 s2 := by
  rw [whlL, h, l_ok, if_pos rfl, h2]
  rfl
theorem whl_exc {c fs} (h : test e s = .ok true s1) (h2 : body e s1 = .exc c fs e2 s2) : whlL test body (n + 1) e s = .exc c fs e2 s2 := by
  rw [whlL, h, l_ok, if_pos rfl, h2]
  rfl
end
theorem append_run {s : S} {F : Nat} {ws : List W} {w : W} (h : s.get F = some (.lst ws)) (hl : ws.length < 1000000) : smW s .append (.ref F) [w] = .ok .non (s.set F (.lst (ws ++ [w]))) := by
  show (match s.get F with
    | some (.lst ws) => if ws.length < lim then R.ok W.non (s.set F (.lst (ws ++ [w]))) else .fail
    | _ => .fail) = _
  rw [h]
  exact if_pos (show ws.length < 16777216 by omega)
theorem append_ok {s : S} {F : Nat} {ws : List W} (h : s.get F = some (.lst ws)) : smOk s .append (.ref F) = true := by
  show (match s.get F with
    | some (.lst _) => true
    | _ => false) = true
  rw [h]
theorem get_ne {s : S} {a b : Nat} {o : Ob} (h : a ≠ b) : (s.set a o).get b = s.get b := by
  unfold S.set S.get
  exact List.getElem?_set_ne h
/-- the loop of read_course -/
def rT (k : Nat) : Env → S → R Bool := fun e s => (sem (CK k) (.not_ (.meth (.v 2) "is_read" .nil))).t e s
def rB (k : Nat) : Env → S → RS := fun e s => evB (CK k) (.cons (.ex (.sm .append (.v 3) (.cons (.meth (.v 2) "need_one_of" (.cons (.gl "ANSWERS" (.tup [.str "yes", .str "no"])) .nil)) .nil))) .nil) e s
theorem loop_run (k : Nat) {L r F : Nat} {t : Str} {ws : List Str} {a : Int} (hn : ws.length < 100000) (hrF : r ≠ F) : ∀ (m j : Nat) (s : S) (n : Nat), ws.length - j = m → j ≤ ws.length → m < n → s.get r = some (lineO a ws j) → s.get F = some (.lst ((ws.take j).map .str)) →
    ∃ s' : S, s'.size = s.size ∧ (∀ i, i ≠ r → i ≠ F → s'.get i = s.get i) ∧
      (match fb (ws.drop j) j with
      | none => whlL (rT (k + 3)) (rB (k + 3)) n [some (.str t), some (.ref L), some (.ref r), some (.ref F)] s = .ok (.nx [some (.str t), some (.ref L), some (.ref r), some (.ref F)]) s' ∧ s'.get F = some (.lst (ws.map .str))
      | some i => whlL (rT (k + 3)) (rB (k + 3)) n [some (.str t), some (.ref L), some (.ref r), some (.ref F)] s = .exc 11 [(4, .int a), (3, .int i)] [some (.str t), some (.ref L), some (.ref r), some (.ref F)] s')
  | m, j, s, 0, _, _, h, _, _ => absurd h (by omega)
  | m, j, s, n + 1, hm, hj, hmn, hr, hF => by
    have e1 : callF pg (k + 3 + 3) 14 [.ref r] s = .ok (.bl ((j : Int) == (ws.length : Int))) s := line_read (k + 2) hr
    have m1 := fun m => meth_line (k := k + 3) (m := m) hr
    have m2 : pg.meth 15 "is_read" = some 14 := rfl
    have m3 : pg.meth 15 "need_one_of" = some 19 := rfl
    by_cases c : j = ws.length
    · refine ⟨s, rfl, fun i _ _ => rfl, ?_⟩
      have ed : ws.drop j = [] := by rw [c, List.drop_length]
      have et : ws.take j = ws := by rw [c, List.take_length]
      rw [ed]
      rw [et] at hF
      refine ⟨whl_end (s1 := s) ?_, hF⟩
      unfold rT
      have ec : ((j : Int) == (ws.length : Int)) = true := by rw [c]; exact beq_self_eq_true _
      rw [ec] at e1
      simp only [b_ok, b_exc, l_ok, l_exc, t_nx, t_rt, t_exc, c_ok, o_some, out_rt, out_nx, out_exc, k_call, k_init, k_meth, k_makes, k_wf, k_excf, k_sub, k_ask, k_hear, evB, sx_k_e, sx_k_t, sx_k_n, sx_k_i, sx_k_p, sx_v_e, sx_v_t, sx_v_n, sx_v_i, sx_v_p, sx_gl_e, sx_gl_t, sx_gl_n, sx_gl_i, sx_gl_p, sx_bin_e, sx_bin_t, sx_bin_n, sx_bin_i, sx_bin_p, sx_not_e, sx_not_t, sx_not_n, sx_neg_e, sx_neg_t, sx_neg_n, sx_neg_i, sx_neg_p, sx_one_e, sx_one_t, sx_one_n, sx_and_e, sx_and_t, sx_and_n, sx_or_e, sx_or_t, sx_or_n, sx_ite_e, sx_ite_t, sx_ite_n, sx_ite_i, sx_ite_p, sx_cmp_e, sx_cmp_t, sx_cmp_n, sx_cmp_i, sx_cmp_p, sx_cmp2_e, sx_cmp2_t, sx_cmp2_n, sx_cmp2_i, sx_cmp2_p, sx_call_e, sx_call_t, sx_call_n, sx_call_i, sx_call_p, sx_callk_e, sx_callk_t, sx_callk_n, sx_callk_i, sx_callk_p, sx_mkk_e, sx_mkk_t, sx_mkk_n, sx_mkk_i, sx_mkk_p, sx_methk_e, sx_methk_t, sx_methk_n, sx_methk_i, sx_methk_p, sx_mk_e, sx_mk_t, sx_mk_n, sx_mk_i, sx_mk_p, sx_meth_e, sx_meth_t, sx_meth_n, sx_meth_i, sx_meth_p, sx_attr_e, sx_attr_t, sx_attr_n, sx_attr_i, sx_attr_p, sx_sub_e, sx_sub_t, sx_sub_n, sx_sub_i, sx_sub_p, sx_slice_e, sx_slice_t, sx_slice_n, sx_slice_i, sx_slice_p, sx_tup_e, sx_tup_t, sx_tup_n, sx_tup_i, sx_tup_p, sx_lst_e, sx_lst_t, sx_lst_n, sx_lst_i, sx_lst_p, sx_mls_e, sx_mls_t, sx_mls_n, sx_mls_i, sx_mls_p, sx_comp_e, sx_comp_t, sx_comp_n, sx_comp_i, sx_comp_p, sx_bi_e, sx_bi_t, sx_bi_n, sx_bi_i, sx_bi_p, sx_isin_e, sx_isin_t, sx_isin_n, sx_isin_i, sx_isin_p, sx_sm_e, sx_sm_t, sx_sm_n, sx_sm_i, sx_sm_p, sx_hear_e, sx_hear_t, sx_hear_n, sx_hear_i, sx_hear_p, sx_dct_e, sx_dct_t, sx_dct_n, sx_dct_i, sx_dct_p, sx_rng_i, sx_enum_i, sx_nil_a, sx_nil_n, sx_nil_p, sx_cons_a, asgW, putP, tru_bl, cmp_gt, cmp_lt, cmp_ge, bi_int, bi_intb, bi_abs, bin_add, bin_sub, Option.map_some, Option.getD_some, List.map_cons, List.map_nil, List.replicate_succ, List.replicate_zero, List.cons_append, List.nil_append, List.getElem?_cons_zero, List.getElem?_cons_succ, List.set_cons_zero, List.set_cons_succ, lam_int, lam_ref, lam_lst, lam_tup, lam_str, lam_non, lam_bl, lam_exn, lam_dct, lim_0, lim_1, lim_2, lim_3, lim_4, lim_5, lim_6, lim_7, lim_8, lim_9, lim_10, if_true, if_false, Bool.false_eq_true, ↓reduceIte, Nat.reduceAdd, m1, m2, e1, Bool.not_true]
    · have hlt : j < ws.length := by omega
      have ec : ((j : Int) == (ws.length : Int)) = false := beq_eq_false_iff_ne.mpr (by omega)
      rw [ec] at e1
      have ht : rT (k + 3) [some (.str t), some (.ref L), some (.ref r), some (.ref F)] s = .ok true s := by
        unfold rT
        simp only [b_ok, b_exc, l_ok, l_exc, t_nx, t_rt, t_exc, c_ok, o_some, out_rt, out_nx, out_exc, k_call, k_init, k_meth, k_makes, k_wf, k_excf, k_sub, k_ask, k_hear, evB, sx_k_e, sx_k_t, sx_k_n, sx_k_i, sx_k_p, sx_v_e, sx_v_t, sx_v_n, sx_v_i, sx_v_p, sx_gl_e, sx_gl_t, sx_gl_n, sx_gl_i, sx_gl_p, sx_bin_e, sx_bin_t, sx_bin_n, sx_bin_i, sx_bin_p, sx_not_e, sx_not_t, sx_not_n, sx_neg_e, sx_neg_t, sx_neg_n, sx_neg_i, sx_neg_p, sx_one_e, sx_one_t, sx_one_n, sx_and_e, sx_and_t, sx_and_n, sx_or_e, sx_or_t, sx_or_n, sx_ite_e, sx_ite_t, sx_ite_n, sx_ite_i, sx_ite_p, sx_cmp_e, sx_cmp_t, sx_cmp_n, sx_cmp_i, sx_cmp_p, sx_cmp2_e, sx_cmp2_t, sx_cmp2_n, sx_cmp2_i, sx_cmp2_p, sx_call_e, sx_call_t, sx_call_n, sx_call_i, sx_call_p, sx_callk_e, sx_callk_t, sx_callk_n, sx_callk_i, sx_callk_p, sx_mkk_e, sx_mkk_t, sx_mkk_n, sx_mkk_i, sx_mkk_p, sx_methk_e, sx_methk_t, sx_methk_n, sx_methk_i, sx_methk_p, sx_mk_e, sx_mk_t, sx_mk_n, sx_mk_i, sx_mk_p, sx_meth_e, sx_meth_t, sx_meth_n, sx_meth_i, sx_meth_p, sx_attr_e, sx_attr_t, sx_attr_n, sx_attr_i, sx_attr_p, sx_sub_e, sx_sub_t, sx_sub_n, sx_sub_i, sx_sub_p, sx_slice_e, sx_slice_t, sx_slice_n, sx_slice_i, sx_slice_p, sx_tup_e, sx_tup_t, sx_tup_n, sx_tup_i, sx_tup_p, sx_lst_e, sx_lst_t, sx_lst_n, sx_lst_i, sx_lst_p, sx_mls_e, sx_mls_t, sx_mls_n, sx_mls_i, sx_mls_p, sx_comp_e, sx_comp_t, sx_comp_n, sx_comp_i, sx_comp_p, sx_bi_e, sx_bi_t, sx_bi_n, sx_bi_i, sx_bi_p, sx_isin_e, sx_isin_t, sx_isin_n, sx_isin_i, sx_isin_p, sx_sm_e, sx_sm_t, sx_sm_n, sx_sm_i, sx_sm_p, sx_hear_e, sx_hear_t, sx_hear_n, sx_hear_i, sx_hear_p, sx_dct_e, sx_dct_t, sx_dct_n, sx_dct_i, sx_dct_p, sx_rng_i, sx_enum_i, sx_nil_a, sx_nil_n, sx_nil_p, sx_cons_a, asgW, putP, tru_bl, cmp_gt, cmp_lt, cmp_ge, bi_int, bi_intb, bi_abs, bin_add, bin_sub, Option.map_some, Option.getD_some, List.map_cons, List.map_nil, List.replicate_succ, List.replicate_zero, List.cons_append, List.nil_append, List.getElem?_cons_zero, List.getElem?_cons_succ, List.set_cons_zero, List.set_cons_succ, lam_int, lam_ref, lam_lst, lam_tup, lam_str, lam_non, lam_bl, lam_exn, lam_dct, lim_0, lim_1, lim_2, lim_3, lim_4, lim_5, lim_6, lim_7, lim_8, lim_9, lim_10, if_true, if_false, Bool.false_eq_true, ↓reduceIte, Nat.reduceAdd, m1, m2, e1, Bool.not_false]
      have e2 : callF pg (k + 3 + 3) 19 [.ref r, .tup [.str "yes", .str "no"]] s = _ := need_one k hr hlt hn
      have ok := append_ok hF
      rw [List.drop_eq_getElem_cons hlt]
      unfold fb
      by_cases g : okS ws[j] = true
      · rw [if_pos g] at e2 ⊢
        have hF2 : (s.set r (lineO a ws (j + 1 : Nat))).get F = some (.lst ((ws.take j).map .str)) := by rw [get_ne hrF]; exact hF
        have ap := append_run (w := .str ws[j]) hF2 (by rw [List.length_map, List.length_take]; omega)
        have hb : rB (k + 3) [some (.str t), some (.ref L), some (.ref r), some (.ref F)] s = .ok (.nx [some (.str t), some (.ref L), some (.ref r), some (.ref F)]) ((s.set r (lineO a ws (j + 1 : Nat))).set F (.lst ((ws.take j).map .str ++ [.str ws[j]]))) := by
          unfold rB
          simp only [b_ok, b_exc, l_ok, l_exc, t_nx, t_rt, t_exc, c_ok, o_some, out_rt, out_nx, out_exc, k_call, k_init, k_meth, k_makes, k_wf, k_excf, k_sub, k_ask, k_hear, evB, sx_k_e, sx_k_t, sx_k_n, sx_k_i, sx_k_p, sx_v_e, sx_v_t, sx_v_n, sx_v_i, sx_v_p, sx_gl_e, sx_gl_t, sx_gl_n, sx_gl_i, sx_gl_p, sx_bin_e, sx_bin_t, sx_bin_n, sx_bin_i, sx_bin_p, sx_not_e, sx_not_t, sx_not_n, sx_neg_e, sx_neg_t, sx_neg_n, sx_neg_i, sx_neg_p, sx_one_e, sx_one_t, sx_one_n, sx_and_e, sx_and_t, sx_and_n, sx_or_e, sx_or_t, sx_or_n, sx_ite_e, sx_ite_t, sx_ite_n, sx_ite_i, sx_ite_p, sx_cmp_e, sx_cmp_t, sx_cmp_n, sx_cmp_i, sx_cmp_p, sx_cmp2_e, sx_cmp2_t, sx_cmp2_n, sx_cmp2_i, sx_cmp2_p, sx_call_e, sx_call_t, sx_call_n, sx_call_i, sx_call_p, sx_callk_e, sx_callk_t, sx_callk_n, sx_callk_i, sx_callk_p, sx_mkk_e, sx_mkk_t, sx_mkk_n, sx_mkk_i, sx_mkk_p, sx_methk_e, sx_methk_t, sx_methk_n, sx_methk_i, sx_methk_p, sx_mk_e, sx_mk_t, sx_mk_n, sx_mk_i, sx_mk_p, sx_meth_e, sx_meth_t, sx_meth_n, sx_meth_i, sx_meth_p, sx_attr_e, sx_attr_t, sx_attr_n, sx_attr_i, sx_attr_p, sx_sub_e, sx_sub_t, sx_sub_n, sx_sub_i, sx_sub_p, sx_slice_e, sx_slice_t, sx_slice_n, sx_slice_i, sx_slice_p, sx_tup_e, sx_tup_t, sx_tup_n, sx_tup_i, sx_tup_p, sx_lst_e, sx_lst_t, sx_lst_n, sx_lst_i, sx_lst_p, sx_mls_e, sx_mls_t, sx_mls_n, sx_mls_i, sx_mls_p, sx_comp_e, sx_comp_t, sx_comp_n, sx_comp_i, sx_comp_p, sx_bi_e, sx_bi_t, sx_bi_n, sx_bi_i, sx_bi_p, sx_isin_e, sx_isin_t, sx_isin_n, sx_isin_i, sx_isin_p, sx_sm_e, sx_sm_t, sx_sm_n, sx_sm_i, sx_sm_p, sx_hear_e, sx_hear_t, sx_hear_n, sx_hear_i, sx_hear_p, sx_dct_e, sx_dct_t, sx_dct_n, sx_dct_i, sx_dct_p, sx_rng_i, sx_enum_i, sx_nil_a, sx_nil_n, sx_nil_p, sx_cons_a, asgW, putP, tru_bl, cmp_gt, cmp_lt, cmp_ge, bi_int, bi_intb, bi_abs, bin_add, bin_sub, Option.map_some, Option.getD_some, List.map_cons, List.map_nil, List.replicate_succ, List.replicate_zero, List.cons_append, List.nil_append, List.getElem?_cons_zero, List.getElem?_cons_succ, List.set_cons_zero, List.set_cons_succ, lam_int, lam_ref, lam_lst, lam_tup, lam_str, lam_non, lam_bl, lam_exn, lam_dct, lim_0, lim_1, lim_2, lim_3, lim_4, lim_5, lim_6, lim_7, lim_8, lim_9, lim_10, if_true, if_false, Bool.false_eq_true, ↓reduceIte, Nat.reduceAdd, m1, m3, ok, e2, ap]
        have et : (ws.take j).map W.str ++ [.str ws[j]] = (ws.take (j + 1)).map .str := by
          rw [List.take_succ_eq_append_getElem hlt, List.map_append]; rfl
        rw [et] at hb
        obtain ⟨s', z1, z2, z3⟩ := loop_run k (L := L) (t := t) hn hrF (m - 1) (j + 1) ((s.set r (lineO a ws (j + 1 : Nat))).set F (.lst ((ws.take (j + 1)).map .str))) n (by omega) (by omega) (by omega)
          (by rw [get_ne hrF.symm]; exact get_set hr) (get_set hF2)
        refine ⟨s', by rw [z1]; simp [S.set, S.size], fun i h1 h2 => by rw [z2 i h1 h2, get_ne h2.symm, get_ne h1.symm], ?_⟩
        rw [whl_step ht hb]
        exact z3
      · rw [if_neg g] at e2 ⊢
        refine ⟨s, rfl, fun i _ _ => rfl, whl_exc ht ?_⟩
        unfold rB
        simp only [b_ok, b_exc, l_ok, l_exc, t_nx, t_rt, t_exc, c_ok, o_some, out_rt, out_nx, out_exc, k_call, k_init, k_meth, k_makes, k_wf, k_excf, k_sub, k_ask, k_hear, evB, sx_k_e, sx_k_t, sx_k_n, sx_k_i, sx_k_p, sx_v_e, sx_v_t, sx_v_n, sx_v_i, sx_v_p, sx_gl_e, sx_gl_t, sx_gl_n, sx_gl_i, sx_gl_p, sx_bin_e, sx_bin_t, sx_bin_n, sx_bin_i, sx_bin_p, sx_not_e, sx_not_t, sx_not_n, sx_neg_e, sx_neg_t, sx_neg_n, sx_neg_i, sx_neg_p, sx_one_e, sx_one_t, sx_one_n, sx_and_e, sx_and_t, sx_and_n, sx_or_e, sx_or_t, sx_or_n, sx_ite_e, sx_ite_t, sx_ite_n, sx_ite_i, sx_ite_p, sx_cmp_e, sx_cmp_t, sx_cmp_n, sx_cmp_i, sx_cmp_p, sx_cmp2_e, sx_cmp2_t, sx_cmp2_n, sx_cmp2_i, sx_cmp2_p, sx_call_e, sx_call_t, sx_call_n, sx_call_i, sx_call_p, sx_callk_e, sx_callk_t, sx_callk_n, sx_callk_i, sx_callk_p, sx_mkk_e, sx_mkk_t, sx_mkk_n, sx_mkk_i, sx_mkk_p, sx_methk_e, sx_methk_t, sx_methk_n, sx_methk_i, sx_methk_p, sx_mk_e, sx_mk_t, sx_mk_n, sx_mk_i, sx_mk_p, sx_meth_e, sx_meth_t, sx_meth_n, sx_meth_i, sx_meth_p, sx_attr_e, sx_attr_t, sx_attr_n, sx_attr_i, sx_attr_p, sx_sub_e, sx_sub_t, sx_sub_n, sx_sub_i, sx_sub_p, sx_slice_e, sx_slice_t, sx_slice_n, sx_slice_i, sx_slice_p, sx_tup_e, sx_tup_t, sx_tup_n, sx_tup_i, sx_tup_p, sx_lst_e, sx_lst_t, sx_lst_n, sx_lst_i, sx_lst_p, sx_mls_e, sx_mls_t, sx_mls_n, sx_mls_i, sx_mls_p, sx_comp_e, sx_comp_t, sx_comp_n, sx_comp_i, sx_comp_p, sx_bi_e, sx_bi_t, sx_bi_n, sx_bi_i, sx_bi_p, sx_isin_e, sx_isin_t, sx_isin_n, sx_isin_i, sx_isin_p, sx_sm_e, sx_sm_t, sx_sm_n, sx_sm_i, sx_sm_p, sx_hear_e, sx_hear_t, sx_hear_n, sx_hear_i, sx_hear_p, sx_dct_e, sx_dct_t, sx_dct_n, sx_dct_i, sx_dct_p, sx_rng_i, sx_enum_i, sx_nil_a, sx_nil_n, sx_nil_p, sx_cons_a, asgW, putP, tru_bl, cmp_gt, cmp_lt, cmp_ge, bi_int, bi_intb, bi_abs, bin_add, bin_sub, Option.map_some, Option.getD_some, List.map_cons, List.map_nil, List.replicate_succ, List.replicate_zero, List.cons_append, List.nil_append, List.getElem?_cons_zero, List.getElem?_cons_succ, List.set_cons_zero, List.set_cons_succ, lam_int, lam_ref, lam_lst, lam_tup, lam_str, lam_non, lam_bl, lam_exn, lam_dct, lim_0, lim_1, lim_2, lim_3, lim_4, lim_5, lim_6, lim_7, lim_8, lim_9, lim_10, if_true, if_false, Bool.false_eq_true, ↓reduceIte, Nat.reduceAdd, m1, m3, ok, e2]
end Law

set_option linter.all false
set_option autoImplicit false
set_option maxRecDepth 100000
set_option maxHeartbeats 4000000
namespace Law
open Ev
open PySem (Str)

theorem eq_str {s : S} {x y : Str} : cmpW s .eq (.str x) (.str y) = some (x == y) := by
  show eqW s (.str x) (.str y) = _
  rw [eq_of (d := .str x) (e := .str y) rfl rfl rfl]
  simp [PySem.PyData.eqv]
theorem ne_str {s : S} {x y : Str} : cmpW s .ne (.str x) (.str y) = some (!(x == y)) := by
  show (cmpW s .eq (.str x) (.str y)).map (!·) = _
  rw [eq_str]; rfl
theorem it_tup {s : S} {ws : List W} : items s (.tup ws) = some ws := Eq.trans rfl rfl
/-- the words of the first line -/
def wds (t : Str) : List Str := PySem.Txt.split ((PySem.Txt.split t "\n").headD "") " "
def rcR (t : Str) (s : S) : R W :=
  if t = "" then .ok (.tup []) s else match fb (wds t) 0 with
    | some i => .exc 11 [(4, .int 0), (3, .int i)] s
    | none => if nlIn t = true then .exc 11 [(4, .int 1), (3, .int 0)] s else .ok (.tup ((PySem.Txt.split t " ").map .str)) s
theorem nl_iff {t l0 : Str} {ls : List Str} (h : PySem.Txt.split t "\n" = l0 :: ls) : (nlIn t = true ∧ ls ≠ []) ∨ (nlIn t = false ∧ ls = [] ∧ l0 = t) := by
  cases c : nlIn t with
  | true =>
    have := nl_yes c
    rw [h] at this
    refine .inl ⟨rfl, fun z => ?_⟩
    rw [z] at this
    simp at this
  | false =>
    have := nl_no c
    rw [h] at this
    injection this with h1 h2
    exact .inr ⟨rfl, h2, h1⟩
theorem read_run (k : Nat) {s : S} {t : Str} (ht : t.length ≤ 40000) : ∃ s' : S, Keep s s' ∧ callF pg (k + 7) 5 [.str t] s = rcR t s' := by
  by_cases c : t = ""
  · refine ⟨s, Keep.refl s, ?_⟩
    unfold rcR
    rw [if_pos c, run_at (d := d5) rfl (k + 3) _ s rfl]
    unfold d5 t5
    have ec : (t == ("" : Str)) = true := by rw [c]; exact beq_self_eq_true _
    simp only [b_ok, b_exc, l_ok, l_exc, t_nx, t_rt, t_exc, c_ok, o_some, out_rt, out_nx, out_exc, k_call, k_init, k_meth, k_makes, k_wf, k_excf, k_sub, k_ask, k_hear, evB, sx_k_e, sx_k_t, sx_k_n, sx_k_i, sx_k_p, sx_v_e, sx_v_t, sx_v_n, sx_v_i, sx_v_p, sx_gl_e, sx_gl_t, sx_gl_n, sx_gl_i, sx_gl_p, sx_bin_e, sx_bin_t, sx_bin_n, sx_bin_i, sx_bin_p, sx_not_e, sx_not_t, sx_not_n, sx_neg_e, sx_neg_t, sx_neg_n, sx_neg_i, sx_neg_p, sx_one_e, sx_one_t, sx_one_n, sx_and_e, sx_and_t, sx_and_n, sx_or_e, sx_or_t, sx_or_n, sx_ite_e, sx_ite_t, sx_ite_n, sx_ite_i, sx_ite_p, sx_cmp_e, sx_cmp_t, sx_cmp_n, sx_cmp_i, sx_cmp_p, sx_cmp2_e, sx_cmp2_t, sx_cmp2_n, sx_cmp2_i, sx_cmp2_p, sx_call_e, sx_call_t, sx_call_n, sx_call_i, sx_call_p, sx_callk_e, sx_callk_t, sx_callk_n, sx_callk_i, sx_callk_p, sx_mkk_e, sx_mkk_t, sx_mkk_n, sx_mkk_i, sx_mkk_p, sx_methk_e, sx_methk_t, sx_methk_n, sx_methk_i, sx_methk_p, sx_mk_e, sx_mk_t, sx_mk_n, sx_mk_i, sx_mk_p, sx_meth_e, sx_meth_t, sx_meth_n, sx_meth_i, sx_meth_p, sx_attr_e, sx_attr_t, sx_attr_n, sx_attr_i, sx_attr_p, sx_sub_e, sx_sub_t, sx_sub_n, sx_sub_i, sx_sub_p, sx_slice_e, sx_slice_t, sx_slice_n, sx_slice_i, sx_slice_p, sx_tup_e, sx_tup_t, sx_tup_n, sx_tup_i, sx_tup_p, sx_lst_e, sx_lst_t, sx_lst_n, sx_lst_i, sx_lst_p, sx_mls_e, sx_mls_t, sx_mls_n, sx_mls_i, sx_mls_p, sx_comp_e, sx_comp_t, sx_comp_n, sx_comp_i, sx_comp_p, sx_bi_e, sx_bi_t, sx_bi_n, sx_bi_i, sx_bi_p, sx_isin_e, sx_isin_t, sx_isin_n, sx_isin_i, sx_isin_p, sx_sm_e, sx_sm_t, sx_sm_n, sx_sm_i, sx_sm_p, sx_hear_e, sx_hear_t, sx_hear_n, sx_hear_i, sx_hear_p, sx_dct_e, sx_dct_t, sx_dct_n, sx_dct_i, sx_dct_p, sx_rng_i, sx_enum_i, sx_nil_a, sx_nil_n, sx_nil_p, sx_cons_a, asgW, putP, tru_bl, cmp_gt, cmp_lt, cmp_ge, bi_int, bi_intb, bi_abs, bin_add, bin_sub, Option.map_some, Option.getD_some, List.map_cons, List.map_nil, List.replicate_succ, List.replicate_zero, List.cons_append, List.nil_append, List.getElem?_cons_zero, List.getElem?_cons_succ, List.set_cons_zero, List.set_cons_succ, lam_int, lam_ref, lam_lst, lam_tup, lam_str, lam_non, lam_bl, lam_exn, lam_dct, lim_0, lim_1, lim_2, lim_3, lim_4, lim_5, lim_6, lim_7, lim_8, lim_9, lim_10, if_true, if_false, Bool.false_eq_true, ↓reduceIte, Nat.reduceAdd, eq_str, ec]
  · obtain ⟨s1, L, r0, rs, l0, ls, e1, k1, hs, hl, gL, gr, r0s, Ls, Lr⟩ := lines_run k (s := s) ht
    have ew : wds t = PySem.Txt.split l0 " " := by unfold wds; rw [hs]; rfl
    have short : l0.length ≤ 40000 := Nat.le_trans (PyProof.Rows.part_short (x := t) (y := "\n") (by rw [hs]; simp)) ht
    have many : (wds t).length ≤ 40002 := by rw [ew]; exact Nat.le_trans (PyProof.Rows.split_le l0 " ") (by omega)
    have lmany : ls.length ≤ 40002 := by
      have h1 := PyProof.Rows.split_le t "\n"
      rw [hs, List.length_cons] at h1
      omega
    rw [← ew] at gr
    have e2 : callF pg (k + 3 + 3) 31 [.ref L] s1 = _ := lines_take (k + 1) gL (by omega)
    have m1 := fun m => meth_lines (k := k + 3) (m := m) gL
    have m2 : pg.meth 16 "take_line" = some 31 := rfl
    have m3 : pg.meth 16 "is_read" = some 27 := rfl
    have ec : (t == ("" : Str)) = false := beq_eq_false_iff_ne.mpr c
    let s2 := s1.set L (linesO (.ref r0 :: rs) 1)
    have g2 : s2.get L = some (linesO (.ref r0 :: rs) 1) := get_set gL
    have g2r : s2.get r0 = some (lineO 0 (wds t) 0) := by
      show (s1.set L _).get r0 = _
      rw [get_ne Lr]; exact gr
    let s3 := s2.new (.lst [])
    have F_ne : r0 ≠ s2.size := fun z => by have := get_lt g2r; rw [z] at this; exact absurd this (by simp [S.size])
    have F_neL : L ≠ s2.size := fun z => by have := get_lt g2; rw [z] at this; exact absurd this (by simp [S.size])
    have g3r : s3.get r0 = some (lineO 0 (wds t) (0 : Nat)) := by rw [(Keep.new s2 (.lst [])).2 r0 (get_lt g2r)]; exact g2r
    have g3F : s3.get s2.size = some (.lst (((wds t).take 0).map .str)) := new_get
    have g3L : s3.get L = some (linesO (.ref r0 :: rs) 1) := by rw [(Keep.new s2 (.lst [])).2 L (get_lt g2)]; exact g2
    obtain ⟨s4, z1, z2, z3⟩ := loop_run k (L := L) (t := t) (by omega) F_ne _ 0 s3 100000 rfl (Nat.zero_le _) (by omega) g3r g3F
    have k2 : Keep s s2 := k1.set Ls _
    have k3 : Keep s s3 := k2.trans (Keep.new _ _)
    have k4 : Keep s s4 := ⟨by rw [z1]; exact k3.1, fun i hi => by
      have h1 := k2.1
      rw [z2 i (by omega) (by omega)]; exact k3.2 i hi⟩
    refine ⟨s4, k4, ?_⟩
    unfold rcR
    rw [if_neg c, run_at (d := d5) rfl (k + 3) _ s rfl]
    unfold d5 t5
    rw [List.drop_zero] at z3
    have hd : ∀ {C : Ev.C} {c : E} {b : T} {e : Env} {s : S}, evB C (.whl c b) e s = whlL (fun e s => (sem C c).t e s) (fun e s => evB C b e s) C.wf e s := Eq.trans rfl rfl
    have fold : ∀ {e : Env} {s : S}, evB (CK (k + 3)) (.whl (.not_ (.meth (.v 2) "is_read" .nil)) (.cons (.ex (.sm .append (.v 3) (.cons (.meth (.v 2) "need_one_of" (.cons (.gl "ANSWERS" (.tup [.str "yes", .str "no"])) .nil)) .nil))) .nil)) e s = whlL (rT (k + 3)) (rB (k + 3)) 100000 e s := Eq.trans rfl rfl
    cases hf : fb (wds t) 0 with
    | some i =>
      rw [hf] at z3
      have z3' : whlL (rT (k + 3)) (rB (k + 3)) 100000 [some (.str t), some (.ref L), some (.ref r0), some (.ref (s1.set L (linesO (.ref r0 :: rs) 1)).size)] ((s1.set L (linesO (.ref r0 :: rs) 1)).new (.lst [])) = .exc 11 [(4, .int 0), (3, .int i)] [some (.str t), some (.ref L), some (.ref r0), some (.ref (s1.set L (linesO (.ref r0 :: rs) 1)).size)] s4 := z3
      simp only [b_ok, b_exc, l_ok, l_exc, t_nx, t_rt, t_exc, c_ok, o_some, out_rt, out_nx, out_exc, k_call, k_init, k_meth, k_makes, k_wf, k_excf, k_sub, k_ask, k_hear, evB, sx_k_e, sx_k_t, sx_k_n, sx_k_i, sx_k_p, sx_v_e, sx_v_t, sx_v_n, sx_v_i, sx_v_p, sx_gl_e, sx_gl_t, sx_gl_n, sx_gl_i, sx_gl_p, sx_bin_e, sx_bin_t, sx_bin_n, sx_bin_i, sx_bin_p, sx_not_e, sx_not_t, sx_not_n, sx_neg_e, sx_neg_t, sx_neg_n, sx_neg_i, sx_neg_p, sx_one_e, sx_one_t, sx_one_n, sx_and_e, sx_and_t, sx_and_n, sx_or_e, sx_or_t, sx_or_n, sx_ite_e, sx_ite_t, sx_ite_n, sx_ite_i, sx_ite_p, sx_cmp_e, sx_cmp_t, sx_cmp_n, sx_cmp_i, sx_cmp_p, sx_cmp2_e, sx_cmp2_t, sx_cmp2_n, sx_cmp2_i, sx_cmp2_p, sx_call_e, sx_call_t, sx_call_n, sx_call_i, sx_call_p, sx_callk_e, sx_callk_t, sx_callk_n, sx_callk_i, sx_callk_p, sx_mkk_e, sx_mkk_t, sx_mkk_n, sx_mkk_i, sx_mkk_p, sx_methk_e, sx_methk_t, sx_methk_n, sx_methk_i, sx_methk_p, sx_mk_e, sx_mk_t, sx_mk_n, sx_mk_i, sx_mk_p, sx_meth_e, sx_meth_t, sx_meth_n, sx_meth_i, sx_meth_p, sx_attr_e, sx_attr_t, sx_attr_n, sx_attr_i, sx_attr_p, sx_sub_e, sx_sub_t, sx_sub_n, sx_sub_i, sx_sub_p, sx_slice_e, sx_slice_t, sx_slice_n, sx_slice_i, sx_slice_p, sx_tup_e, sx_tup_t, sx_tup_n, sx_tup_i, sx_tup_p, sx_lst_e, sx_lst_t, sx_lst_n, sx_lst_i, sx_lst_p, sx_mls_e, sx_mls_t, sx_mls_n, sx_mls_i, sx_mls_p, sx_comp_e, sx_comp_t, sx_comp_n, sx_comp_i, sx_comp_p, sx_bi_e, sx_bi_t, sx_bi_n, sx_bi_i, sx_bi_p, sx_isin_e, sx_isin_t, sx_isin_n, sx_isin_i, sx_isin_p, sx_sm_e, sx_sm_t, sx_sm_n, sx_sm_i, sx_sm_p, sx_hear_e, sx_hear_t, sx_hear_n, sx_hear_i, sx_hear_p, sx_dct_e, sx_dct_t, sx_dct_n, sx_dct_i, sx_dct_p, sx_rng_i, sx_enum_i, sx_nil_a, sx_nil_n, sx_nil_p, sx_cons_a, asgW, putP, tru_bl, cmp_gt, cmp_lt, cmp_ge, bi_int, bi_intb, bi_abs, bin_add, bin_sub, Option.map_some, Option.getD_some, List.map_cons, List.map_nil, List.replicate_succ, List.replicate_zero, List.cons_append, List.nil_append, List.getElem?_cons_zero, List.getElem?_cons_succ, List.set_cons_zero, List.set_cons_succ, lam_int, lam_ref, lam_lst, lam_tup, lam_str, lam_non, lam_bl, lam_exn, lam_dct, lim_0, lim_1, lim_2, lim_3, lim_4, lim_5, lim_6, lim_7, lim_8, lim_9, lim_10, if_true, if_false, Bool.false_eq_true, ↓reduceIte, Nat.reduceAdd, eq_str, ec, ↓fold, e1, m1, m2, e2, it_tup, z3']
    | none =>
      rw [hf] at z3
      obtain ⟨z3, z4⟩ := z3
      have z3' : whlL (rT (k + 3)) (rB (k + 3)) 100000 [some (.str t), some (.ref L), some (.ref r0), some (.ref (s1.set L (linesO (.ref r0 :: rs) 1)).size)] ((s1.set L (linesO (.ref r0 :: rs) 1)).new (.lst [])) = .ok (.nx [some (.str t), some (.ref L), some (.ref r0), some (.ref (s1.set L (linesO (.ref r0 :: rs) 1)).size)]) s4 := z3
      have g4L : s4.get L = some (linesO (.ref r0 :: rs) 1) := by rw [z2 L Lr F_neL]; exact g3L
      have m4 := fun m => meth_lines (k := k + 3) (m := m) g4L
      have e5 : callF pg (k + 3 + 3) 27 [.ref L] s4 = _ := lines_read (k + 2) g4L
      have hx : pg.excf 11 = some [4, 3] := rfl
      have l2 : ∀ {c d : W}, (([4, 3] : List Nat).length = [c, d].length) = True := eq_true rfl
      dsimp only
      rcases nl_iff hs with ⟨n1, n2⟩ | ⟨n1, n2, n3⟩
      · have ee : ((1 : Int) == ((W.ref r0 :: rs).length : Int)) = false := beq_eq_false_iff_ne.mpr (by
          have : 0 < ls.length := List.length_pos_iff.mpr n2
          rw [List.length_cons]; omega)
        rw [ee] at e5
        rw [if_pos n1]
        simp only [b_ok, b_exc, l_ok, l_exc, t_nx, t_rt, t_exc, c_ok, o_some, out_rt, out_nx, out_exc, k_call, k_init, k_meth, k_makes, k_wf, k_excf, k_sub, k_ask, k_hear, evB, sx_k_e, sx_k_t, sx_k_n, sx_k_i, sx_k_p, sx_v_e, sx_v_t, sx_v_n, sx_v_i, sx_v_p, sx_gl_e, sx_gl_t, sx_gl_n, sx_gl_i, sx_gl_p, sx_bin_e, sx_bin_t, sx_bin_n, sx_bin_i, sx_bin_p, sx_not_e, sx_not_t, sx_not_n, sx_neg_e, sx_neg_t, sx_neg_n, sx_neg_i, sx_neg_p, sx_one_e, sx_one_t, sx_one_n, sx_and_e, sx_and_t, sx_and_n, sx_or_e, sx_or_t, sx_or_n, sx_ite_e, sx_ite_t, sx_ite_n, sx_ite_i, sx_ite_p, sx_cmp_e, sx_cmp_t, sx_cmp_n, sx_cmp_i, sx_cmp_p, sx_cmp2_e, sx_cmp2_t, sx_cmp2_n, sx_cmp2_i, sx_cmp2_p, sx_call_e, sx_call_t, sx_call_n, sx_call_i, sx_call_p, sx_callk_e, sx_callk_t, sx_callk_n, sx_callk_i, sx_callk_p, sx_mkk_e, sx_mkk_t, sx_mkk_n, sx_mkk_i, sx_mkk_p, sx_methk_e, sx_methk_t, sx_methk_n, sx_methk_i, sx_methk_p, sx_mk_e, sx_mk_t, sx_mk_n, sx_mk_i, sx_mk_p, sx_meth_e, sx_meth_t, sx_meth_n, sx_meth_i, sx_meth_p, sx_attr_e, sx_attr_t, sx_attr_n, sx_attr_i, sx_attr_p, sx_sub_e, sx_sub_t, sx_sub_n, sx_sub_i, sx_sub_p, sx_slice_e, sx_slice_t, sx_slice_n, sx_slice_i, sx_slice_p, sx_tup_e, sx_tup_t, sx_tup_n, sx_tup_i, sx_tup_p, sx_lst_e, sx_lst_t, sx_lst_n, sx_lst_i, sx_lst_p, sx_mls_e, sx_mls_t, sx_mls_n, sx_mls_i, sx_mls_p, sx_comp_e, sx_comp_t, sx_comp_n, sx_comp_i, sx_comp_p, sx_bi_e, sx_bi_t, sx_bi_n, sx_bi_i, sx_bi_p, sx_isin_e, sx_isin_t, sx_isin_n, sx_isin_i, sx_isin_p, sx_sm_e, sx_sm_t, sx_sm_n, sx_sm_i, sx_sm_p, sx_hear_e, sx_hear_t, sx_hear_n, sx_hear_i, sx_hear_p, sx_dct_e, sx_dct_t, sx_dct_n, sx_dct_i, sx_dct_p, sx_rng_i, sx_enum_i, sx_nil_a, sx_nil_n, sx_nil_p, sx_cons_a, asgW, putP, tru_bl, cmp_gt, cmp_lt, cmp_ge, bi_int, bi_intb, bi_abs, bin_add, bin_sub, Option.map_some, Option.getD_some, List.map_cons, List.map_nil, List.replicate_succ, List.replicate_zero, List.cons_append, List.nil_append, List.getElem?_cons_zero, List.getElem?_cons_succ, List.set_cons_zero, List.set_cons_succ, lam_int, lam_ref, lam_lst, lam_tup, lam_str, lam_non, lam_bl, lam_exn, lam_dct, lim_0, lim_1, lim_2, lim_3, lim_4, lim_5, lim_6, lim_7, lim_8, lim_9, lim_10, if_true, if_false, Bool.false_eq_true, ↓reduceIte, Nat.reduceAdd, eq_str, ec, ↓fold, e1, m1, m2, e2, it_tup, z3', m4, m3, e5, Bool.not_false, hx, l2, List.zip_cons_cons, List.zip_nil_right]
      · have ee : ((1 : Int) == ((W.ref r0 :: rs).length : Int)) = true := by
          rw [List.length_cons, hl, n2]; rfl
        rw [ee] at e5
        rw [if_neg (by rw [n1]; simp)]
        have bt : biW s4 .tuple [.ref (s1.set L (linesO (.ref r0 :: rs) 1)).size] = .ok (.tup ((wds t).map .str)) s4 := by
          show (match items s4 (.ref (s1.set L (linesO (.ref r0 :: rs) 1)).size) with
            | some ws => R.ok (W.tup ws) s4
            | none => .fail) = _
          have : items s4 (.ref (s1.set L (linesO (.ref r0 :: rs) 1)).size) = some ((wds t).map .str) := by
            show (match s4.get s2.size with
              | some (.lst ws) => some ws
              | _ => none) = _
            rw [z4]
          rw [this]
        have ewt : wds t = PySem.Txt.split t " " := by rw [ew, n3]
        rw [← ewt]
        simp only [b_ok, b_exc, l_ok, l_exc, t_nx, t_rt, t_exc, c_ok, o_some, out_rt, out_nx, out_exc, k_call, k_init, k_meth, k_makes, k_wf, k_excf, k_sub, k_ask, k_hear, evB, sx_k_e, sx_k_t, sx_k_n, sx_k_i, sx_k_p, sx_v_e, sx_v_t, sx_v_n, sx_v_i, sx_v_p, sx_gl_e, sx_gl_t, sx_gl_n, sx_gl_i, sx_gl_p, sx_bin_e, sx_bin_t, sx_bin_n, sx_bin_i, sx_bin_p, sx_not_e, sx_not_t, sx_not_n, sx_neg_e, sx_neg_t, sx_neg_n, sx_neg_i, sx_neg_p, sx_one_e, sx_one_t, sx_one_n, sx_and_e, sx_and_t, sx_and_n, sx_or_e, sx_or_t, sx_or_n, sx_ite_e, sx_ite_t, sx_ite_n, sx_ite_i, sx_ite_p, sx_cmp_e, sx_cmp_t, sx_cmp_n, sx_cmp_i, sx_cmp_p, sx_cmp2_e, sx_cmp2_t, sx_cmp2_n, sx_cmp2_i, sx_cmp2_p, sx_call_e, sx_call_t, sx_call_n, sx_call_i, sx_call_p, sx_callk_e, sx_callk_t, sx_callk_n, sx_callk_i, sx_callk_p, sx_mkk_e, sx_mkk_t, sx_mkk_n, sx_mkk_i, sx_mkk_p, sx_methk_e, sx_methk_t, sx_methk_n, sx_methk_i, sx_methk_p, sx_mk_e, sx_mk_t, sx_mk_n, sx_mk_i, sx_mk_p, sx_meth_e, sx_meth_t, sx_meth_n, sx_meth_i, sx_meth_p, sx_attr_e, sx_attr_t, sx_attr_n, sx_attr_i, sx_attr_p, sx_sub_e, sx_sub_t, sx_sub_n, sx_sub_i, sx_sub_p, sx_slice_e, sx_slice_t, sx_slice_n, sx_slice_i, sx_slice_p, sx_tup_e, sx_tup_t, sx_tup_n, sx_tup_i, sx_tup_p, sx_lst_e, sx_lst_t, sx_lst_n, sx_lst_i, sx_lst_p, sx_mls_e, sx_mls_t, sx_mls_n, sx_mls_i, sx_mls_p, sx_comp_e, sx_comp_t, sx_comp_n, sx_comp_i, sx_comp_p, sx_bi_e, sx_bi_t, sx_bi_n, sx_bi_i, sx_bi_p, sx_isin_e, sx_isin_t, sx_isin_n, sx_isin_i, sx_isin_p, sx_sm_e, sx_sm_t, sx_sm_n, sx_sm_i, sx_sm_p, sx_hear_e, sx_hear_t, sx_hear_n, sx_hear_i, sx_hear_p, sx_dct_e, sx_dct_t, sx_dct_n, sx_dct_i, sx_dct_p, sx_rng_i, sx_enum_i, sx_nil_a, sx_nil_n, sx_nil_p, sx_cons_a, asgW, putP, tru_bl, cmp_gt, cmp_lt, cmp_ge, bi_int, bi_intb, bi_abs, bin_add, bin_sub, Option.map_some, Option.getD_some, List.map_cons, List.map_nil, List.replicate_succ, List.replicate_zero, List.cons_append, List.nil_append, List.getElem?_cons_zero, List.getElem?_cons_succ, List.set_cons_zero, List.set_cons_succ, lam_int, lam_ref, lam_lst, lam_tup, lam_str, lam_non, lam_bl, lam_exn, lam_dct, lim_0, lim_1, lim_2, lim_3, lim_4, lim_5, lim_6, lim_7, lim_8, lim_9, lim_10, if_true, if_false, Bool.false_eq_true, ↓reduceIte, Nat.reduceAdd, eq_str, ec, ↓fold, e1, m1, m2, e2, it_tup, z3', m4, m3, e5, Bool.not_true, bt]
end Law

set_option linter.all false
set_option autoImplicit false
set_option maxRecDepth 100000
set_option maxHeartbeats 4000000
namespace Law
open Ev
open PySem (Str)

section
variable {pre : W → Env → S → Option Env} {body : Env → S → RS} {src : Src} {n i : Nat} {e e1 e2 : Env} {s s2 : S} {w u : W}
theorem for_end (h : src.at s i = some none) : forL pre body src (n + 1) i e s = .ok (.nx e) s := by
  rw [forL, h]
theorem for_step (h : src.at s i = some (some w)) (h1 : pre w e s = some e1) (h2 : body e1 s = .ok (.nx e2) s2) : forL pre body src (n + 1) i e s = forL pre body src n (i + 1) e2 s2 := by
  rw [forL, h]
  dsimp only
  rw [h1]
  dsimp only
  rw [h2]
  rfl
theorem for_ret (h : src.at s i = some (some w)) (h1 : pre w e s = some e1) (h2 : body e1 s = .ok (.rt u) s2) : forL pre body src (n + 1) i e s = .ok (.rt u) s2 := by
  rw [forL, h]
  dsimp only
  rw [h1]
  dsimp only
  rw [h2]
  rfl
end
/-- the loop of _law_bad -/
def bB (k : Nat) : Env → S → RS := fun e s => evB (CK k) (.cons (.ite (.cmp .notin (.v 3) (.tup (.cons (.k (.str "yes")) (.cons (.k (.str "no")) .nil)))) (.cons (.ret (.tup (.cons (.k (.str "text")) (.cons (.k (.int 0)) (.cons (.v 2) .nil))))) .nil) .nil) .nil) e s
def bP : W → Env → S → Option Env := fun w e s => putP s (.t (.cons (.n 2) (.cons (.n 3) .nil))) [w] e
def zip (ws : List Str) : List W := (ws.map W.str).zipIdx.map fun p => W.tup [.int p.2, p.1]
theorem zip_len {ws : List Str} : (zip ws).length = ws.length := by simp [zip]
theorem zip_at {ws : List Str} {i : Nat} (h : i < ws.length) : (zip ws)[i]? = some (.tup [.int i, .str ws[i]]) := by
  unfold zip
  rw [List.getElem?_map, List.getElem?_zipIdx, List.getElem?_map, List.getElem?_eq_getElem h]
  simp
theorem bad_loop (k : Nat) {t : W} {u : W} {ws : List Str} {s : S} (hu : ws.length < 100000) : ∀ (m i n : Nat) (e2 e3 : Option W), ws.length - i = m → i ≤ ws.length → m < n →
    (match fb (ws.drop i) i with
    | none => ∃ x y, forL bP (bB k) (.its (zip ws)) n i [some t, some u, e2, e3] s = .ok (.nx [some t, some u, x, y]) s
    | some j => forL bP (bB k) (.its (zip ws)) n i [some t, some u, e2, e3] s = .ok (.rt (.tup [.str "text", .int 0, .int j])) s)
  | m, i, 0, _, _, _, _, h => absurd h (by omega)
  | m, i, n + 1, e2, e3, hm, hi, hn => by
    by_cases c : i < ws.length
    · have e0 : (Src.its (zip ws)).at s i = some (some (.tup [.int i, .str ws[i]])) := congrArg some (zip_at c)
      have p0 : bP (.tup [.int i, .str ws[i]]) [some t, some u, e2, e3] s = some [some t, some u, some (.int i), some (.str ws[i])] := rfl
      rw [List.drop_eq_getElem_cons c]
      unfold fb
      by_cases g : okS ws[i] = true
      · rw [if_pos g]
        have hb : bB k [some t, some u, some (.int i), some (.str ws[i])] s = .ok (.nx [some t, some u, some (.int i), some (.str ws[i])]) s := by
          unfold bB
          simp only [b_ok, b_exc, l_ok, l_exc, t_nx, t_rt, t_exc, c_ok, o_some, out_rt, out_nx, out_exc, k_call, k_init, k_meth, k_makes, k_wf, k_excf, k_sub, k_ask, k_hear, evB, sx_k_e, sx_k_t, sx_k_n, sx_k_i, sx_k_p, sx_v_e, sx_v_t, sx_v_n, sx_v_i, sx_v_p, sx_gl_e, sx_gl_t, sx_gl_n, sx_gl_i, sx_gl_p, sx_bin_e, sx_bin_t, sx_bin_n, sx_bin_i, sx_bin_p, sx_not_e, sx_not_t, sx_not_n, sx_neg_e, sx_neg_t, sx_neg_n, sx_neg_i, sx_neg_p, sx_one_e, sx_one_t, sx_one_n, sx_and_e, sx_and_t, sx_and_n, sx_or_e, sx_or_t, sx_or_n, sx_ite_e, sx_ite_t, sx_ite_n, sx_ite_i, sx_ite_p, sx_cmp_e, sx_cmp_t, sx_cmp_n, sx_cmp_i, sx_cmp_p, sx_cmp2_e, sx_cmp2_t, sx_cmp2_n, sx_cmp2_i, sx_cmp2_p, sx_call_e, sx_call_t, sx_call_n, sx_call_i, sx_call_p, sx_callk_e, sx_callk_t, sx_callk_n, sx_callk_i, sx_callk_p, sx_mkk_e, sx_mkk_t, sx_mkk_n, sx_mkk_i, sx_mkk_p, sx_methk_e, sx_methk_t, sx_methk_n, sx_methk_i, sx_methk_p, sx_mk_e, sx_mk_t, sx_mk_n, sx_mk_i, sx_mk_p, sx_meth_e, sx_meth_t, sx_meth_n, sx_meth_i, sx_meth_p, sx_attr_e, sx_attr_t, sx_attr_n, sx_attr_i, sx_attr_p, sx_sub_e, sx_sub_t, sx_sub_n, sx_sub_i, sx_sub_p, sx_slice_e, sx_slice_t, sx_slice_n, sx_slice_i, sx_slice_p, sx_tup_e, sx_tup_t, sx_tup_n, sx_tup_i, sx_tup_p, sx_lst_e, sx_lst_t, sx_lst_n, sx_lst_i, sx_lst_p, sx_mls_e, sx_mls_t, sx_mls_n, sx_mls_i, sx_mls_p, sx_comp_e, sx_comp_t, sx_comp_n, sx_comp_i, sx_comp_p, sx_bi_e, sx_bi_t, sx_bi_n, sx_bi_i, sx_bi_p, sx_isin_e, sx_isin_t, sx_isin_n, sx_isin_i, sx_isin_p, sx_sm_e, sx_sm_t, sx_sm_n, sx_sm_i, sx_sm_p, sx_hear_e, sx_hear_t, sx_hear_n, sx_hear_i, sx_hear_p, sx_dct_e, sx_dct_t, sx_dct_n, sx_dct_i, sx_dct_p, sx_rng_i, sx_enum_i, sx_nil_a, sx_nil_n, sx_nil_p, sx_cons_a, asgW, putP, tru_bl, cmp_gt, cmp_lt, cmp_ge, bi_int, bi_intb, bi_abs, bin_add, bin_sub, Option.map_some, Option.getD_some, List.map_cons, List.map_nil, List.replicate_succ, List.replicate_zero, List.cons_append, List.nil_append, List.getElem?_cons_zero, List.getElem?_cons_succ, List.set_cons_zero, List.set_cons_succ, lam_int, lam_ref, lam_lst, lam_tup, lam_str, lam_non, lam_bl, lam_exn, lam_dct, lim_0, lim_1, lim_2, lim_3, lim_4, lim_5, lim_6, lim_7, lim_8, lim_9, lim_10, if_true, if_false, Bool.false_eq_true, ↓reduceIte, Nat.reduceAdd, notin_ans, g, Bool.not_true]
        have ih := bad_loop k (t := t) (u := u) (s := s) hu (m - 1) (i + 1) n (some (.int i)) (some (.str ws[i])) (by omega) (by omega) (by omega)
        rw [for_step e0 p0 hb]
        exact ih
      · rw [if_neg g]
        refine for_ret e0 p0 ?_
        unfold bB
        rw [Bool.not_eq_true] at g
        simp only [b_ok, b_exc, l_ok, l_exc, t_nx, t_rt, t_exc, c_ok, o_some, out_rt, out_nx, out_exc, k_call, k_init, k_meth, k_makes, k_wf, k_excf, k_sub, k_ask, k_hear, evB, sx_k_e, sx_k_t, sx_k_n, sx_k_i, sx_k_p, sx_v_e, sx_v_t, sx_v_n, sx_v_i, sx_v_p, sx_gl_e, sx_gl_t, sx_gl_n, sx_gl_i, sx_gl_p, sx_bin_e, sx_bin_t, sx_bin_n, sx_bin_i, sx_bin_p, sx_not_e, sx_not_t, sx_not_n, sx_neg_e, sx_neg_t, sx_neg_n, sx_neg_i, sx_neg_p, sx_one_e, sx_one_t, sx_one_n, sx_and_e, sx_and_t, sx_and_n, sx_or_e, sx_or_t, sx_or_n, sx_ite_e, sx_ite_t, sx_ite_n, sx_ite_i, sx_ite_p, sx_cmp_e, sx_cmp_t, sx_cmp_n, sx_cmp_i, sx_cmp_p, sx_cmp2_e, sx_cmp2_t, sx_cmp2_n, sx_cmp2_i, sx_cmp2_p, sx_call_e, sx_call_t, sx_call_n, sx_call_i, sx_call_p, sx_callk_e, sx_callk_t, sx_callk_n, sx_callk_i, sx_callk_p, sx_mkk_e, sx_mkk_t, sx_mkk_n, sx_mkk_i, sx_mkk_p, sx_methk_e, sx_methk_t, sx_methk_n, sx_methk_i, sx_methk_p, sx_mk_e, sx_mk_t, sx_mk_n, sx_mk_i, sx_mk_p, sx_meth_e, sx_meth_t, sx_meth_n, sx_meth_i, sx_meth_p, sx_attr_e, sx_attr_t, sx_attr_n, sx_attr_i, sx_attr_p, sx_sub_e, sx_sub_t, sx_sub_n, sx_sub_i, sx_sub_p, sx_slice_e, sx_slice_t, sx_slice_n, sx_slice_i, sx_slice_p, sx_tup_e, sx_tup_t, sx_tup_n, sx_tup_i, sx_tup_p, sx_lst_e, sx_lst_t, sx_lst_n, sx_lst_i, sx_lst_p, sx_mls_e, sx_mls_t, sx_mls_n, sx_mls_i, sx_mls_p, sx_comp_e, sx_comp_t, sx_comp_n, sx_comp_i, sx_comp_p, sx_bi_e, sx_bi_t, sx_bi_n, sx_bi_i, sx_bi_p, sx_isin_e, sx_isin_t, sx_isin_n, sx_isin_i, sx_isin_p, sx_sm_e, sx_sm_t, sx_sm_n, sx_sm_i, sx_sm_p, sx_hear_e, sx_hear_t, sx_hear_n, sx_hear_i, sx_hear_p, sx_dct_e, sx_dct_t, sx_dct_n, sx_dct_i, sx_dct_p, sx_rng_i, sx_enum_i, sx_nil_a, sx_nil_n, sx_nil_p, sx_cons_a, asgW, putP, tru_bl, cmp_gt, cmp_lt, cmp_ge, bi_int, bi_intb, bi_abs, bin_add, bin_sub, Option.map_some, Option.getD_some, List.map_cons, List.map_nil, List.replicate_succ, List.replicate_zero, List.cons_append, List.nil_append, List.getElem?_cons_zero, List.getElem?_cons_succ, List.set_cons_zero, List.set_cons_succ, lam_int, lam_ref, lam_lst, lam_tup, lam_str, lam_non, lam_bl, lam_exn, lam_dct, lim_0, lim_1, lim_2, lim_3, lim_4, lim_5, lim_6, lim_7, lim_8, lim_9, lim_10, if_true, if_false, Bool.false_eq_true, ↓reduceIte, Nat.reduceAdd, notin_ans, g, Bool.not_false]
    · have ei : i = ws.length := by omega
      rw [ei, List.drop_length]
      refine ⟨e2, e3, for_end ?_⟩
      show some ((zip ws)[ws.length]?) = some none
      rw [List.getElem?_eq_none (by rw [zip_len]; omega)]
def bws (t : Str) : List Str := if t = "" then [] else wds t
def badW (t : Str) : W := match fb (bws t) 0 with
  | some i => .tup [.str "text", .int 0, .int i]
  | none => if nlIn t = true then .tup [.str "text", .int 1, .int 0] else .non
theorem in_nl {s : S} {t : Str} : cmpW s .in_ (.str "\n") (.str t) = some (nlIn t) := rfl
theorem bad_run (k : Nat) {s : S} {t : Str} (ht : t.length ≤ 40000) : callF pg (k + 4) 11 [.str t] s = .ok (badW t) s := by
  have fold : ∀ {e : Env} {s : S}, evB (CK k) (.for_ (.t (.cons (.n 2) (.cons (.n 3) .nil))) (.enum (.v 1)) (.cons (.ite (.cmp .notin (.v 3) (.tup (.cons (.k (.str "yes")) (.cons (.k (.str "no")) .nil)))) (.cons (.ret (.tup (.cons (.k (.str "text")) (.cons (.k (.int 0)) (.cons (.v 2) .nil))))) .nil) .nil) .nil)) e s = lift ((sem (CK k) (.enum (.v 1))).i e s) e fun src s1 => forL bP (bB k) src 100000 0 e s1 := Eq.trans rfl rfl
  have en : ∀ {ws : List Str} {s : S}, enumW (.lst (ws.map .str)) s = .ok (.its (zip ws)) s := rfl
  have sk : ∀ {x : Str} {s : S}, smOk s .split (.str x) = true := rfl
  rw [run_at (d := d11) rfl k _ s rfl]
  unfold d11 t11
  by_cases c : t = ""
  · have ec : (t == ("" : Str)) = true := by rw [c]; exact beq_self_eq_true _
    have en0 : ∀ {s : S}, enumW (.lst []) s = .ok (.its (zip [])) s := rfl
    have b := bad_loop k (t := .str t) (u := .lst []) (ws := []) (s := s) (by simp) _ 0 100000 none none rfl (Nat.zero_le _) (by simp)
    obtain ⟨x, y, b⟩ := b
    have eb : badW t = if nlIn t = true then .tup [.str "text", .int 1, .int 0] else .non := by
      unfold badW bws
      rw [if_pos c]
      rfl
    rw [eb]
    cases hn : nlIn t with
    | true => simp only [b_ok, b_exc, l_ok, l_exc, t_nx, t_rt, t_exc, c_ok, o_some, out_rt, out_nx, out_exc, k_call, k_init, k_meth, k_makes, k_wf, k_excf, k_sub, k_ask, k_hear, evB, sx_k_e, sx_k_t, sx_k_n, sx_k_i, sx_k_p, sx_v_e, sx_v_t, sx_v_n, sx_v_i, sx_v_p, sx_gl_e, sx_gl_t, sx_gl_n, sx_gl_i, sx_gl_p, sx_bin_e, sx_bin_t, sx_bin_n, sx_bin_i, sx_bin_p, sx_not_e, sx_not_t, sx_not_n, sx_neg_e, sx_neg_t, sx_neg_n, sx_neg_i, sx_neg_p, sx_one_e, sx_one_t, sx_one_n, sx_and_e, sx_and_t, sx_and_n, sx_or_e, sx_or_t, sx_or_n, sx_ite_e, sx_ite_t, sx_ite_n, sx_ite_i, sx_ite_p, sx_cmp_e, sx_cmp_t, sx_cmp_n, sx_cmp_i, sx_cmp_p, sx_cmp2_e, sx_cmp2_t, sx_cmp2_n, sx_cmp2_i, sx_cmp2_p, sx_call_e, sx_call_t, sx_call_n, sx_call_i, sx_call_p, sx_callk_e, sx_callk_t, sx_callk_n, sx_callk_i, sx_callk_p, sx_mkk_e, sx_mkk_t, sx_mkk_n, sx_mkk_i, sx_mkk_p, sx_methk_e, sx_methk_t, sx_methk_n, sx_methk_i, sx_methk_p, sx_mk_e, sx_mk_t, sx_mk_n, sx_mk_i, sx_mk_p, sx_meth_e, sx_meth_t, sx_meth_n, sx_meth_i, sx_meth_p, sx_attr_e, sx_attr_t, sx_attr_n, sx_attr_i, sx_attr_p, sx_sub_e, sx_sub_t, sx_sub_n, sx_sub_i, sx_sub_p, sx_slice_e, sx_slice_t, sx_slice_n, sx_slice_i, sx_slice_p, sx_tup_e, sx_tup_t, sx_tup_n, sx_tup_i, sx_tup_p, sx_lst_e, sx_lst_t, sx_lst_n, sx_lst_i, sx_lst_p, sx_mls_e, sx_mls_t, sx_mls_n, sx_mls_i, sx_mls_p, sx_comp_e, sx_comp_t, sx_comp_n, sx_comp_i, sx_comp_p, sx_bi_e, sx_bi_t, sx_bi_n, sx_bi_i, sx_bi_p, sx_isin_e, sx_isin_t, sx_isin_n, sx_isin_i, sx_isin_p, sx_sm_e, sx_sm_t, sx_sm_n, sx_sm_i, sx_sm_p, sx_hear_e, sx_hear_t, sx_hear_n, sx_hear_i, sx_hear_p, sx_dct_e, sx_dct_t, sx_dct_n, sx_dct_i, sx_dct_p, sx_rng_i, sx_enum_i, sx_nil_a, sx_nil_n, sx_nil_p, sx_cons_a, asgW, putP, tru_bl, cmp_gt, cmp_lt, cmp_ge, bi_int, bi_intb, bi_abs, bin_add, bin_sub, Option.map_some, Option.getD_some, List.map_cons, List.map_nil, List.replicate_succ, List.replicate_zero, List.cons_append, List.nil_append, List.getElem?_cons_zero, List.getElem?_cons_succ, List.set_cons_zero, List.set_cons_succ, lam_int, lam_ref, lam_lst, lam_tup, lam_str, lam_non, lam_bl, lam_exn, lam_dct, lim_0, lim_1, lim_2, lim_3, lim_4, lim_5, lim_6, lim_7, lim_8, lim_9, lim_10, if_true, if_false, Bool.false_eq_true, ↓reduceIte, Nat.reduceAdd, ne_str, ec, Bool.not_true, ↓fold, en0, b, in_nl, hn]
    | false => simp only [b_ok, b_exc, l_ok, l_exc, t_nx, t_rt, t_exc, c_ok, o_some, out_rt, out_nx, out_exc, k_call, k_init, k_meth, k_makes, k_wf, k_excf, k_sub, k_ask, k_hear, evB, sx_k_e, sx_k_t, sx_k_n, sx_k_i, sx_k_p, sx_v_e, sx_v_t, sx_v_n, sx_v_i, sx_v_p, sx_gl_e, sx_gl_t, sx_gl_n, sx_gl_i, sx_gl_p, sx_bin_e, sx_bin_t, sx_bin_n, sx_bin_i, sx_bin_p, sx_not_e, sx_not_t, sx_not_n, sx_neg_e, sx_neg_t, sx_neg_n, sx_neg_i, sx_neg_p, sx_one_e, sx_one_t, sx_one_n, sx_and_e, sx_and_t, sx_and_n, sx_or_e, sx_or_t, sx_or_n, sx_ite_e, sx_ite_t, sx_ite_n, sx_ite_i, sx_ite_p, sx_cmp_e, sx_cmp_t, sx_cmp_n, sx_cmp_i, sx_cmp_p, sx_cmp2_e, sx_cmp2_t, sx_cmp2_n, sx_cmp2_i, sx_cmp2_p, sx_call_e, sx_call_t, sx_call_n, sx_call_i, sx_call_p, sx_callk_e, sx_callk_t, sx_callk_n, sx_callk_i, sx_callk_p, sx_mkk_e, sx_mkk_t, sx_mkk_n, sx_mkk_i, sx_mkk_p, sx_methk_e, sx_methk_t, sx_methk_n, sx_methk_i, sx_methk_p, sx_mk_e, sx_mk_t, sx_mk_n, sx_mk_i, sx_mk_p, sx_meth_e, sx_meth_t, sx_meth_n, sx_meth_i, sx_meth_p, sx_attr_e, sx_attr_t, sx_attr_n, sx_attr_i, sx_attr_p, sx_sub_e, sx_sub_t, sx_sub_n, sx_sub_i, sx_sub_p, sx_slice_e, sx_slice_t, sx_slice_n, sx_slice_i, sx_slice_p, sx_tup_e, sx_tup_t, sx_tup_n, sx_tup_i, sx_tup_p, sx_lst_e, sx_lst_t, sx_lst_n, sx_lst_i, sx_lst_p, sx_mls_e, sx_mls_t, sx_mls_n, sx_mls_i, sx_mls_p, sx_comp_e, sx_comp_t, sx_comp_n, sx_comp_i, sx_comp_p, sx_bi_e, sx_bi_t, sx_bi_n, sx_bi_i, sx_bi_p, sx_isin_e, sx_isin_t, sx_isin_n, sx_isin_i, sx_isin_p, sx_sm_e, sx_sm_t, sx_sm_n, sx_sm_i, sx_sm_p, sx_hear_e, sx_hear_t, sx_hear_n, sx_hear_i, sx_hear_p, sx_dct_e, sx_dct_t, sx_dct_n, sx_dct_i, sx_dct_p, sx_rng_i, sx_enum_i, sx_nil_a, sx_nil_n, sx_nil_p, sx_cons_a, asgW, putP, tru_bl, cmp_gt, cmp_lt, cmp_ge, bi_int, bi_intb, bi_abs, bin_add, bin_sub, Option.map_some, Option.getD_some, List.map_cons, List.map_nil, List.replicate_succ, List.replicate_zero, List.cons_append, List.nil_append, List.getElem?_cons_zero, List.getElem?_cons_succ, List.set_cons_zero, List.set_cons_succ, lam_int, lam_ref, lam_lst, lam_tup, lam_str, lam_non, lam_bl, lam_exn, lam_dct, lim_0, lim_1, lim_2, lim_3, lim_4, lim_5, lim_6, lim_7, lim_8, lim_9, lim_10, if_true, if_false, Bool.false_eq_true, ↓reduceIte, Nat.reduceAdd, ne_str, ec, Bool.not_true, ↓fold, en0, b, in_nl, hn]
  · have ec : (t == ("" : Str)) = false := beq_eq_false_iff_ne.mpr c
    obtain ⟨l0, ls, hs⟩ : ∃ l0 ls, PySem.Txt.split t "
" = l0 :: ls := by
      cases h : PySem.Txt.split t "
" with
      | nil => exact absurd h (split_ne _ _)
      | cons a b => exact ⟨a, b, rfl⟩
    have ew : wds t = PySem.Txt.split l0 " " := by unfold wds; rw [hs]; rfl
    have short : l0.length ≤ 40000 := Nat.le_trans (PyProof.Rows.part_short (x := t) (y := "\n") (by rw [hs]; simp)) ht
    have many : (wds t).length ≤ 40002 := by rw [ew]; exact Nat.le_trans (PyProof.Rows.split_le l0 " ") (by omega)
    have lmany : ls.length ≤ 40002 := by
      have h1 := PyProof.Rows.split_le t "\n"
      rw [hs, List.length_cons] at h1
      omega
    have s1 := split_run (s := s) (x := t) (y := "\n") (by rw [nl_len]; omega) (by show _ ≤ 16777216; omega)
    rw [hs] at s1
    have s2 := split_run (s := s) (x := l0) (y := " ") (by rw [sp_len]; omega) (by show _ ≤ 16777216; omega)
    rw [← ew] at s2
    have sb : subW s (.lst ((l0 :: ls).map .str)) (.int 0) = .ok (.str l0) s := by
      rw [sub_at (ws := (l0 :: ls).map .str) rfl (by decide) (by simp) (by rw [List.length_map, List.length_cons]; omega)]
      rfl
    rw [List.map_cons] at s1 sb
    have eb : badW t = match fb (wds t) 0 with
      | some i => .tup [.str "text", .int 0, .int i]
      | none => if nlIn t = true then .tup [.str "text", .int 1, .int 0] else .non := by
      unfold badW bws
      rw [if_neg c]
    rw [eb]
    have b := bad_loop k (t := .str t) (u := .lst ((wds t).map .str)) (ws := wds t) (s := s) (by omega) ((wds t).length - 0) 0 100000 none none rfl (Nat.zero_le _) (by omega)
    rw [List.drop_zero] at b
    cases hf : fb (wds t) 0 with
    | some i =>
      rw [hf] at b
      dsimp only at b ⊢
      simp only [b_ok, b_exc, l_ok, l_exc, t_nx, t_rt, t_exc, c_ok, o_some, out_rt, out_nx, out_exc, k_call, k_init, k_meth, k_makes, k_wf, k_excf, k_sub, k_ask, k_hear, evB, sx_k_e, sx_k_t, sx_k_n, sx_k_i, sx_k_p, sx_v_e, sx_v_t, sx_v_n, sx_v_i, sx_v_p, sx_gl_e, sx_gl_t, sx_gl_n, sx_gl_i, sx_gl_p, sx_bin_e, sx_bin_t, sx_bin_n, sx_bin_i, sx_bin_p, sx_not_e, sx_not_t, sx_not_n, sx_neg_e, sx_neg_t, sx_neg_n, sx_neg_i, sx_neg_p, sx_one_e, sx_one_t, sx_one_n, sx_and_e, sx_and_t, sx_and_n, sx_or_e, sx_or_t, sx_or_n, sx_ite_e, sx_ite_t, sx_ite_n, sx_ite_i, sx_ite_p, sx_cmp_e, sx_cmp_t, sx_cmp_n, sx_cmp_i, sx_cmp_p, sx_cmp2_e, sx_cmp2_t, sx_cmp2_n, sx_cmp2_i, sx_cmp2_p, sx_call_e, sx_call_t, sx_call_n, sx_call_i, sx_call_p, sx_callk_e, sx_callk_t, sx_callk_n, sx_callk_i, sx_callk_p, sx_mkk_e, sx_mkk_t, sx_mkk_n, sx_mkk_i, sx_mkk_p, sx_methk_e, sx_methk_t, sx_methk_n, sx_methk_i, sx_methk_p, sx_mk_e, sx_mk_t, sx_mk_n, sx_mk_i, sx_mk_p, sx_meth_e, sx_meth_t, sx_meth_n, sx_meth_i, sx_meth_p, sx_attr_e, sx_attr_t, sx_attr_n, sx_attr_i, sx_attr_p, sx_sub_e, sx_sub_t, sx_sub_n, sx_sub_i, sx_sub_p, sx_slice_e, sx_slice_t, sx_slice_n, sx_slice_i, sx_slice_p, sx_tup_e, sx_tup_t, sx_tup_n, sx_tup_i, sx_tup_p, sx_lst_e, sx_lst_t, sx_lst_n, sx_lst_i, sx_lst_p, sx_mls_e, sx_mls_t, sx_mls_n, sx_mls_i, sx_mls_p, sx_comp_e, sx_comp_t, sx_comp_n, sx_comp_i, sx_comp_p, sx_bi_e, sx_bi_t, sx_bi_n, sx_bi_i, sx_bi_p, sx_isin_e, sx_isin_t, sx_isin_n, sx_isin_i, sx_isin_p, sx_sm_e, sx_sm_t, sx_sm_n, sx_sm_i, sx_sm_p, sx_hear_e, sx_hear_t, sx_hear_n, sx_hear_i, sx_hear_p, sx_dct_e, sx_dct_t, sx_dct_n, sx_dct_i, sx_dct_p, sx_rng_i, sx_enum_i, sx_nil_a, sx_nil_n, sx_nil_p, sx_cons_a, asgW, putP, tru_bl, cmp_gt, cmp_lt, cmp_ge, bi_int, bi_intb, bi_abs, bin_add, bin_sub, Option.map_some, Option.getD_some, List.map_cons, List.map_nil, List.replicate_succ, List.replicate_zero, List.cons_append, List.nil_append, List.getElem?_cons_zero, List.getElem?_cons_succ, List.set_cons_zero, List.set_cons_succ, lam_int, lam_ref, lam_lst, lam_tup, lam_str, lam_non, lam_bl, lam_exn, lam_dct, lim_0, lim_1, lim_2, lim_3, lim_4, lim_5, lim_6, lim_7, lim_8, lim_9, lim_10, if_true, if_false, Bool.false_eq_true, ↓reduceIte, Nat.reduceAdd, ne_str, ec, Bool.not_false, ↓fold, sk, s1, sb, s2, en, b]
    | none =>
      rw [hf] at b
      obtain ⟨x, y, b⟩ := b
      dsimp only
      cases hn : nlIn t with
      | true => simp only [b_ok, b_exc, l_ok, l_exc, t_nx, t_rt, t_exc, c_ok, o_some, out_rt, out_nx, out_exc, k_call, k_init, k_meth, k_makes, k_wf, k_excf, k_sub, k_ask, k_hear, evB, sx_k_e, sx_k_t, sx_k_n, sx_k_i, sx_k_p, sx_v_e, sx_v_t, sx_v_n, sx_v_i, sx_v_p, sx_gl_e, sx_gl_t, sx_gl_n, sx_gl_i, sx_gl_p, sx_bin_e, sx_bin_t, sx_bin_n, sx_bin_i, sx_bin_p, sx_not_e, sx_not_t, sx_not_n, sx_neg_e, sx_neg_t, sx_neg_n, sx_neg_i, sx_neg_p, sx_one_e, sx_one_t, sx_one_n, sx_and_e, sx_and_t, sx_and_n, sx_or_e, sx_or_t, sx_or_n, sx_ite_e, sx_ite_t, sx_ite_n, sx_ite_i, sx_ite_p, sx_cmp_e, sx_cmp_t, sx_cmp_n, sx_cmp_i, sx_cmp_p, sx_cmp2_e, sx_cmp2_t, sx_cmp2_n, sx_cmp2_i, sx_cmp2_p, sx_call_e, sx_call_t, sx_call_n, sx_call_i, sx_call_p, sx_callk_e, sx_callk_t, sx_callk_n, sx_callk_i, sx_callk_p, sx_mkk_e, sx_mkk_t, sx_mkk_n, sx_mkk_i, sx_mkk_p, sx_methk_e, sx_methk_t, sx_methk_n, sx_methk_i, sx_methk_p, sx_mk_e, sx_mk_t, sx_mk_n, sx_mk_i, sx_mk_p, sx_meth_e, sx_meth_t, sx_meth_n, sx_meth_i, sx_meth_p, sx_attr_e, sx_attr_t, sx_attr_n, sx_attr_i, sx_attr_p, sx_sub_e, sx_sub_t, sx_sub_n, sx_sub_i, sx_sub_p, sx_slice_e, sx_slice_t, sx_slice_n, sx_slice_i, sx_slice_p, sx_tup_e, sx_tup_t, sx_tup_n, sx_tup_i, sx_tup_p, sx_lst_e, sx_lst_t, sx_lst_n, sx_lst_i, sx_lst_p, sx_mls_e, sx_mls_t, sx_mls_n, sx_mls_i, sx_mls_p, sx_comp_e, sx_comp_t, sx_comp_n, sx_comp_i, sx_comp_p, sx_bi_e, sx_bi_t, sx_bi_n, sx_bi_i, sx_bi_p, sx_isin_e, sx_isin_t, sx_isin_n, sx_isin_i, sx_isin_p, sx_sm_e, sx_sm_t, sx_sm_n, sx_sm_i, sx_sm_p, sx_hear_e, sx_hear_t, sx_hear_n, sx_hear_i, sx_hear_p, sx_dct_e, sx_dct_t, sx_dct_n, sx_dct_i, sx_dct_p, sx_rng_i, sx_enum_i, sx_nil_a, sx_nil_n, sx_nil_p, sx_cons_a, asgW, putP, tru_bl, cmp_gt, cmp_lt, cmp_ge, bi_int, bi_intb, bi_abs, bin_add, bin_sub, Option.map_some, Option.getD_some, List.map_cons, List.map_nil, List.replicate_succ, List.replicate_zero, List.cons_append, List.nil_append, List.getElem?_cons_zero, List.getElem?_cons_succ, List.set_cons_zero, List.set_cons_succ, lam_int, lam_ref, lam_lst, lam_tup, lam_str, lam_non, lam_bl, lam_exn, lam_dct, lim_0, lim_1, lim_2, lim_3, lim_4, lim_5, lim_6, lim_7, lim_8, lim_9, lim_10, if_true, if_false, Bool.false_eq_true, ↓reduceIte, Nat.reduceAdd, ne_str, ec, Bool.not_false, ↓fold, sk, s1, sb, s2, en, b, in_nl, hn]
      | false => simp only [b_ok, b_exc, l_ok, l_exc, t_nx, t_rt, t_exc, c_ok, o_some, out_rt, out_nx, out_exc, k_call, k_init, k_meth, k_makes, k_wf, k_excf, k_sub, k_ask, k_hear, evB, sx_k_e, sx_k_t, sx_k_n, sx_k_i, sx_k_p, sx_v_e, sx_v_t, sx_v_n, sx_v_i, sx_v_p, sx_gl_e, sx_gl_t, sx_gl_n, sx_gl_i, sx_gl_p, sx_bin_e, sx_bin_t, sx_bin_n, sx_bin_i, sx_bin_p, sx_not_e, sx_not_t, sx_not_n, sx_neg_e, sx_neg_t, sx_neg_n, sx_neg_i, sx_neg_p, sx_one_e, sx_one_t, sx_one_n, sx_and_e, sx_and_t, sx_and_n, sx_or_e, sx_or_t, sx_or_n, sx_ite_e, sx_ite_t, sx_ite_n, sx_ite_i, sx_ite_p, sx_cmp_e, sx_cmp_t, sx_cmp_n, sx_cmp_i, sx_cmp_p, sx_cmp2_e, sx_cmp2_t, sx_cmp2_n, sx_cmp2_i, sx_cmp2_p, sx_call_e, sx_call_t, sx_call_n, sx_call_i, sx_call_p, sx_callk_e, sx_callk_t, sx_callk_n, sx_callk_i, sx_callk_p, sx_mkk_e, sx_mkk_t, sx_mkk_n, sx_mkk_i, sx_mkk_p, sx_methk_e, sx_methk_t, sx_methk_n, sx_methk_i, sx_methk_p, sx_mk_e, sx_mk_t, sx_mk_n, sx_mk_i, sx_mk_p, sx_meth_e, sx_meth_t, sx_meth_n, sx_meth_i, sx_meth_p, sx_attr_e, sx_attr_t, sx_attr_n, sx_attr_i, sx_attr_p, sx_sub_e, sx_sub_t, sx_sub_n, sx_sub_i, sx_sub_p, sx_slice_e, sx_slice_t, sx_slice_n, sx_slice_i, sx_slice_p, sx_tup_e, sx_tup_t, sx_tup_n, sx_tup_i, sx_tup_p, sx_lst_e, sx_lst_t, sx_lst_n, sx_lst_i, sx_lst_p, sx_mls_e, sx_mls_t, sx_mls_n, sx_mls_i, sx_mls_p, sx_comp_e, sx_comp_t, sx_comp_n, sx_comp_i, sx_comp_p, sx_bi_e, sx_bi_t, sx_bi_n, sx_bi_i, sx_bi_p, sx_isin_e, sx_isin_t, sx_isin_n, sx_isin_i, sx_isin_p, sx_sm_e, sx_sm_t, sx_sm_n, sx_sm_i, sx_sm_p, sx_hear_e, sx_hear_t, sx_hear_n, sx_hear_i, sx_hear_p, sx_dct_e, sx_dct_t, sx_dct_n, sx_dct_i, sx_dct_p, sx_rng_i, sx_enum_i, sx_nil_a, sx_nil_n, sx_nil_p, sx_cons_a, asgW, putP, tru_bl, cmp_gt, cmp_lt, cmp_ge, bi_int, bi_intb, bi_abs, bin_add, bin_sub, Option.map_some, Option.getD_some, List.map_cons, List.map_nil, List.replicate_succ, List.replicate_zero, List.cons_append, List.nil_append, List.getElem?_cons_zero, List.getElem?_cons_succ, List.set_cons_zero, List.set_cons_succ, lam_int, lam_ref, lam_lst, lam_tup, lam_str, lam_non, lam_bl, lam_exn, lam_dct, lim_0, lim_1, lim_2, lim_3, lim_4, lim_5, lim_6, lim_7, lim_8, lim_9, lim_10, if_true, if_false, Bool.false_eq_true, ↓reduceIte, Nat.reduceAdd, ne_str, ec, Bool.not_false, ↓fold, sk, s1, sb, s2, en, b, in_nl, hn]
/-! ### _law_heard -/
theorem h_run (k : Nat) {th : S → R W} {s : S} : hearF pg (k + 4) 9 th s = outR (evB (ctxK pg k th) t9 [some .lam, none, none, none] s) := by
  rw [hearF_eq (d := d9) rfl]
  rfl
theorem g_nx {e : Env} {s : S} {n : Nat} : RS.gone (.ok (.nx e) s) n = .ok (.nx (e.set n none)) s := Eq.trans rfl rfl
theorem is_non {s : S} : cmpW s .is_ .non .non = some true := Eq.trans rfl rfl
theorem is_exn {s : S} {c : Nat} {fs : List (Nat × W)} : cmpW s .is_ (.exn c fs) .non = some false := Eq.trans rfl rfl
theorem try_ok {C : Ev.C} {b t : T} {x : Str} {c n : Nat} {e : Env} {s s1 : S} {f : Fl} (h : evB C b e s = .ok f s1) : evB C (.tryk b x c n t) e s = .ok f s1 := by
  rw [evB, h]
theorem try_exc {C : Ev.C} {b t : T} {x : Str} {c n d : Nat} {fs : List (Nat × W)} {e e1 : Env} {s s1 : S} (h : evB C b e s = .exc d fs e1 s1) (h1 : (C.excf d).isSome = true) (h2 : C.sub d c = some true) : evB C (.tryk b x c n t) e s = (evB C t (e1.set n (some (.exn d fs))) s1).gone n := by
  rw [evB, h]
  dsimp only
  rw [if_pos h1, h2]
theorem heard_ok (k : Nat) {th : S → R W} {s s1 : S} {w : W} (h : th s = .ok w s1) (hl : isLam w = false) : hearF pg (k + 4) 9 th s = .ok (.lst [w]) s1 := by
  have e1 : evB (ctxK pg k th) (.cons (.aska 1) .nil) [some .lam, some .non, some .non, none] s = .ok (.nx [some .lam, some w, some .non, none]) s1 := by
    simp only [b_ok, b_exc, l_ok, l_exc, t_nx, t_rt, t_exc, c_ok, o_some, out_rt, out_nx, out_exc, k_call, k_init, k_meth, k_makes, k_wf, k_excf, k_sub, k_ask, k_hear, evB, sx_k_e, sx_k_t, sx_k_n, sx_k_i, sx_k_p, sx_v_e, sx_v_t, sx_v_n, sx_v_i, sx_v_p, sx_gl_e, sx_gl_t, sx_gl_n, sx_gl_i, sx_gl_p, sx_bin_e, sx_bin_t, sx_bin_n, sx_bin_i, sx_bin_p, sx_not_e, sx_not_t, sx_not_n, sx_neg_e, sx_neg_t, sx_neg_n, sx_neg_i, sx_neg_p, sx_one_e, sx_one_t, sx_one_n, sx_and_e, sx_and_t, sx_and_n, sx_or_e, sx_or_t, sx_or_n, sx_ite_e, sx_ite_t, sx_ite_n, sx_ite_i, sx_ite_p, sx_cmp_e, sx_cmp_t, sx_cmp_n, sx_cmp_i, sx_cmp_p, sx_cmp2_e, sx_cmp2_t, sx_cmp2_n, sx_cmp2_i, sx_cmp2_p, sx_call_e, sx_call_t, sx_call_n, sx_call_i, sx_call_p, sx_callk_e, sx_callk_t, sx_callk_n, sx_callk_i, sx_callk_p, sx_mkk_e, sx_mkk_t, sx_mkk_n, sx_mkk_i, sx_mkk_p, sx_methk_e, sx_methk_t, sx_methk_n, sx_methk_i, sx_methk_p, sx_mk_e, sx_mk_t, sx_mk_n, sx_mk_i, sx_mk_p, sx_meth_e, sx_meth_t, sx_meth_n, sx_meth_i, sx_meth_p, sx_attr_e, sx_attr_t, sx_attr_n, sx_attr_i, sx_attr_p, sx_sub_e, sx_sub_t, sx_sub_n, sx_sub_i, sx_sub_p, sx_slice_e, sx_slice_t, sx_slice_n, sx_slice_i, sx_slice_p, sx_tup_e, sx_tup_t, sx_tup_n, sx_tup_i, sx_tup_p, sx_lst_e, sx_lst_t, sx_lst_n, sx_lst_i, sx_lst_p, sx_mls_e, sx_mls_t, sx_mls_n, sx_mls_i, sx_mls_p, sx_comp_e, sx_comp_t, sx_comp_n, sx_comp_i, sx_comp_p, sx_bi_e, sx_bi_t, sx_bi_n, sx_bi_i, sx_bi_p, sx_isin_e, sx_isin_t, sx_isin_n, sx_isin_i, sx_isin_p, sx_sm_e, sx_sm_t, sx_sm_n, sx_sm_i, sx_sm_p, sx_hear_e, sx_hear_t, sx_hear_n, sx_hear_i, sx_hear_p, sx_dct_e, sx_dct_t, sx_dct_n, sx_dct_i, sx_dct_p, sx_rng_i, sx_enum_i, sx_nil_a, sx_nil_n, sx_nil_p, sx_cons_a, asgW, putP, tru_bl, cmp_gt, cmp_lt, cmp_ge, bi_int, bi_intb, bi_abs, bin_add, bin_sub, Option.map_some, Option.getD_some, List.map_cons, List.map_nil, List.replicate_succ, List.replicate_zero, List.cons_append, List.nil_append, List.getElem?_cons_zero, List.getElem?_cons_succ, List.set_cons_zero, List.set_cons_succ, lam_int, lam_ref, lam_lst, lam_tup, lam_str, lam_non, lam_bl, lam_exn, lam_dct, lim_0, lim_1, lim_2, lim_3, lim_4, lim_5, lim_6, lim_7, lim_8, lim_9, lim_10, if_true, if_false, Bool.false_eq_true, ↓reduceIte, Nat.reduceAdd, h]
  rw [h_run]
  unfold t9
  simp only [b_ok, b_exc, l_ok, l_exc, t_nx, t_rt, t_exc, c_ok, o_some, out_rt, out_nx, out_exc, k_call, k_init, k_meth, k_makes, k_wf, k_excf, k_sub, k_ask, k_hear, evB, sx_k_e, sx_k_t, sx_k_n, sx_k_i, sx_k_p, sx_v_e, sx_v_t, sx_v_n, sx_v_i, sx_v_p, sx_gl_e, sx_gl_t, sx_gl_n, sx_gl_i, sx_gl_p, sx_bin_e, sx_bin_t, sx_bin_n, sx_bin_i, sx_bin_p, sx_not_e, sx_not_t, sx_not_n, sx_neg_e, sx_neg_t, sx_neg_n, sx_neg_i, sx_neg_p, sx_one_e, sx_one_t, sx_one_n, sx_and_e, sx_and_t, sx_and_n, sx_or_e, sx_or_t, sx_or_n, sx_ite_e, sx_ite_t, sx_ite_n, sx_ite_i, sx_ite_p, sx_cmp_e, sx_cmp_t, sx_cmp_n, sx_cmp_i, sx_cmp_p, sx_cmp2_e, sx_cmp2_t, sx_cmp2_n, sx_cmp2_i, sx_cmp2_p, sx_call_e, sx_call_t, sx_call_n, sx_call_i, sx_call_p, sx_callk_e, sx_callk_t, sx_callk_n, sx_callk_i, sx_callk_p, sx_mkk_e, sx_mkk_t, sx_mkk_n, sx_mkk_i, sx_mkk_p, sx_methk_e, sx_methk_t, sx_methk_n, sx_methk_i, sx_methk_p, sx_mk_e, sx_mk_t, sx_mk_n, sx_mk_i, sx_mk_p, sx_meth_e, sx_meth_t, sx_meth_n, sx_meth_i, sx_meth_p, sx_attr_e, sx_attr_t, sx_attr_n, sx_attr_i, sx_attr_p, sx_sub_e, sx_sub_t, sx_sub_n, sx_sub_i, sx_sub_p, sx_slice_e, sx_slice_t, sx_slice_n, sx_slice_i, sx_slice_p, sx_tup_e, sx_tup_t, sx_tup_n, sx_tup_i, sx_tup_p, sx_lst_e, sx_lst_t, sx_lst_n, sx_lst_i, sx_lst_p, sx_mls_e, sx_mls_t, sx_mls_n, sx_mls_i, sx_mls_p, sx_comp_e, sx_comp_t, sx_comp_n, sx_comp_i, sx_comp_p, sx_bi_e, sx_bi_t, sx_bi_n, sx_bi_i, sx_bi_p, sx_isin_e, sx_isin_t, sx_isin_n, sx_isin_i, sx_isin_p, sx_sm_e, sx_sm_t, sx_sm_n, sx_sm_i, sx_sm_p, sx_hear_e, sx_hear_t, sx_hear_n, sx_hear_i, sx_hear_p, sx_dct_e, sx_dct_t, sx_dct_n, sx_dct_i, sx_dct_p, sx_rng_i, sx_enum_i, sx_nil_a, sx_nil_n, sx_nil_p, sx_cons_a, asgW, putP, tru_bl, cmp_gt, cmp_lt, cmp_ge, bi_int, bi_intb, bi_abs, bin_add, bin_sub, Option.map_some, Option.getD_some, List.map_cons, List.map_nil, List.replicate_succ, List.replicate_zero, List.cons_append, List.nil_append, List.getElem?_cons_zero, List.getElem?_cons_succ, List.set_cons_zero, List.set_cons_succ, lam_int, lam_ref, lam_lst, lam_tup, lam_str, lam_non, lam_bl, lam_exn, lam_dct, lim_0, lim_1, lim_2, lim_3, lim_4, lim_5, lim_6, lim_7, lim_8, lim_9, lim_10, if_true, if_false, Bool.false_eq_true, ↓reduceIte, Nat.reduceAdd, it_tup, h, is_non, hl]
theorem attr_x {k : Nat} {th : S → R W} {s : S} {c f : Nat} {fs : List (Nat × W)} {w : W} (h : (pg.excf c).isSome = true) (h2 : fs.lookup f = some w) : attrW (ctxK pg k th) s (.exn c fs) f = .ok w s := by
  show (if (pg.excf c).isSome then optR (fs.lookup f) s else .fail) = _
  rw [if_pos h, h2]
  rfl
theorem heard_text (k : Nat) {th : S → R W} {s s1 : S} {a b : W} (h : th s = .exc 11 [(4, a), (3, b)] s1) : hearF pg (k + 4) 9 th s = .ok (.tup [.str "text", a, b]) s1 := by
  have e1 : evB (ctxK pg k th) (.cons (.aska 1) .nil) [some .lam, some .non, some .non, none] s = .exc 11 [(4, a), (3, b)] [some .lam, some .non, some .non, none] s1 := by
    simp only [b_ok, b_exc, l_ok, l_exc, t_nx, t_rt, t_exc, c_ok, o_some, out_rt, out_nx, out_exc, k_call, k_init, k_meth, k_makes, k_wf, k_excf, k_sub, k_ask, k_hear, evB, sx_k_e, sx_k_t, sx_k_n, sx_k_i, sx_k_p, sx_v_e, sx_v_t, sx_v_n, sx_v_i, sx_v_p, sx_gl_e, sx_gl_t, sx_gl_n, sx_gl_i, sx_gl_p, sx_bin_e, sx_bin_t, sx_bin_n, sx_bin_i, sx_bin_p, sx_not_e, sx_not_t, sx_not_n, sx_neg_e, sx_neg_t, sx_neg_n, sx_neg_i, sx_neg_p, sx_one_e, sx_one_t, sx_one_n, sx_and_e, sx_and_t, sx_and_n, sx_or_e, sx_or_t, sx_or_n, sx_ite_e, sx_ite_t, sx_ite_n, sx_ite_i, sx_ite_p, sx_cmp_e, sx_cmp_t, sx_cmp_n, sx_cmp_i, sx_cmp_p, sx_cmp2_e, sx_cmp2_t, sx_cmp2_n, sx_cmp2_i, sx_cmp2_p, sx_call_e, sx_call_t, sx_call_n, sx_call_i, sx_call_p, sx_callk_e, sx_callk_t, sx_callk_n, sx_callk_i, sx_callk_p, sx_mkk_e, sx_mkk_t, sx_mkk_n, sx_mkk_i, sx_mkk_p, sx_methk_e, sx_methk_t, sx_methk_n, sx_methk_i, sx_methk_p, sx_mk_e, sx_mk_t, sx_mk_n, sx_mk_i, sx_mk_p, sx_meth_e, sx_meth_t, sx_meth_n, sx_meth_i, sx_meth_p, sx_attr_e, sx_attr_t, sx_attr_n, sx_attr_i, sx_attr_p, sx_sub_e, sx_sub_t, sx_sub_n, sx_sub_i, sx_sub_p, sx_slice_e, sx_slice_t, sx_slice_n, sx_slice_i, sx_slice_p, sx_tup_e, sx_tup_t, sx_tup_n, sx_tup_i, sx_tup_p, sx_lst_e, sx_lst_t, sx_lst_n, sx_lst_i, sx_lst_p, sx_mls_e, sx_mls_t, sx_mls_n, sx_mls_i, sx_mls_p, sx_comp_e, sx_comp_t, sx_comp_n, sx_comp_i, sx_comp_p, sx_bi_e, sx_bi_t, sx_bi_n, sx_bi_i, sx_bi_p, sx_isin_e, sx_isin_t, sx_isin_n, sx_isin_i, sx_isin_p, sx_sm_e, sx_sm_t, sx_sm_n, sx_sm_i, sx_sm_p, sx_hear_e, sx_hear_t, sx_hear_n, sx_hear_i, sx_hear_p, sx_dct_e, sx_dct_t, sx_dct_n, sx_dct_i, sx_dct_p, sx_rng_i, sx_enum_i, sx_nil_a, sx_nil_n, sx_nil_p, sx_cons_a, asgW, putP, tru_bl, cmp_gt, cmp_lt, cmp_ge, bi_int, bi_intb, bi_abs, bin_add, bin_sub, Option.map_some, Option.getD_some, List.map_cons, List.map_nil, List.replicate_succ, List.replicate_zero, List.cons_append, List.nil_append, List.getElem?_cons_zero, List.getElem?_cons_succ, List.set_cons_zero, List.set_cons_succ, lam_int, lam_ref, lam_lst, lam_tup, lam_str, lam_non, lam_bl, lam_exn, lam_dct, lim_0, lim_1, lim_2, lim_3, lim_4, lim_5, lim_6, lim_7, lim_8, lim_9, lim_10, if_true, if_false, Bool.false_eq_true, ↓reduceIte, Nat.reduceAdd, h]
  have i1 : isMany (ctxK pg k th) s1 (.exn 11 [(4, a), (3, b)]) [.c "BadText" 11] = some true := rfl
  have a1 := attr_x (k := k) (th := th) (s := s1) (c := 11) (fs := [(4, a), (3, b)]) (f := 4) (w := a) rfl rfl
  have a2 := attr_x (k := k) (th := th) (s := s1) (c := 11) (fs := [(4, a), (3, b)]) (f := 3) (w := b) rfl rfl
  rw [h_run]
  unfold t9
  have x1 : pg.excf 11 = some [4, 3] := rfl
  have x2 : pg.sub 11 0 = some true := rfl
  simp only [b_ok, b_exc, l_ok, l_exc, t_nx, t_rt, t_exc, c_ok, o_some, out_rt, out_nx, out_exc, k_call, k_init, k_meth, k_makes, k_wf, k_excf, k_sub, k_ask, k_hear, evB, sx_k_e, sx_k_t, sx_k_n, sx_k_i, sx_k_p, sx_v_e, sx_v_t, sx_v_n, sx_v_i, sx_v_p, sx_gl_e, sx_gl_t, sx_gl_n, sx_gl_i, sx_gl_p, sx_bin_e, sx_bin_t, sx_bin_n, sx_bin_i, sx_bin_p, sx_not_e, sx_not_t, sx_not_n, sx_neg_e, sx_neg_t, sx_neg_n, sx_neg_i, sx_neg_p, sx_one_e, sx_one_t, sx_one_n, sx_and_e, sx_and_t, sx_and_n, sx_or_e, sx_or_t, sx_or_n, sx_ite_e, sx_ite_t, sx_ite_n, sx_ite_i, sx_ite_p, sx_cmp_e, sx_cmp_t, sx_cmp_n, sx_cmp_i, sx_cmp_p, sx_cmp2_e, sx_cmp2_t, sx_cmp2_n, sx_cmp2_i, sx_cmp2_p, sx_call_e, sx_call_t, sx_call_n, sx_call_i, sx_call_p, sx_callk_e, sx_callk_t, sx_callk_n, sx_callk_i, sx_callk_p, sx_mkk_e, sx_mkk_t, sx_mkk_n, sx_mkk_i, sx_mkk_p, sx_methk_e, sx_methk_t, sx_methk_n, sx_methk_i, sx_methk_p, sx_mk_e, sx_mk_t, sx_mk_n, sx_mk_i, sx_mk_p, sx_meth_e, sx_meth_t, sx_meth_n, sx_meth_i, sx_meth_p, sx_attr_e, sx_attr_t, sx_attr_n, sx_attr_i, sx_attr_p, sx_sub_e, sx_sub_t, sx_sub_n, sx_sub_i, sx_sub_p, sx_slice_e, sx_slice_t, sx_slice_n, sx_slice_i, sx_slice_p, sx_tup_e, sx_tup_t, sx_tup_n, sx_tup_i, sx_tup_p, sx_lst_e, sx_lst_t, sx_lst_n, sx_lst_i, sx_lst_p, sx_mls_e, sx_mls_t, sx_mls_n, sx_mls_i, sx_mls_p, sx_comp_e, sx_comp_t, sx_comp_n, sx_comp_i, sx_comp_p, sx_bi_e, sx_bi_t, sx_bi_n, sx_bi_i, sx_bi_p, sx_isin_e, sx_isin_t, sx_isin_n, sx_isin_i, sx_isin_p, sx_sm_e, sx_sm_t, sx_sm_n, sx_sm_i, sx_sm_p, sx_hear_e, sx_hear_t, sx_hear_n, sx_hear_i, sx_hear_p, sx_dct_e, sx_dct_t, sx_dct_n, sx_dct_i, sx_dct_p, sx_rng_i, sx_enum_i, sx_nil_a, sx_nil_n, sx_nil_p, sx_cons_a, asgW, putP, tru_bl, cmp_gt, cmp_lt, cmp_ge, bi_int, bi_intb, bi_abs, bin_add, bin_sub, Option.map_some, Option.getD_some, List.map_cons, List.map_nil, List.replicate_succ, List.replicate_zero, List.cons_append, List.nil_append, List.getElem?_cons_zero, List.getElem?_cons_succ, List.set_cons_zero, List.set_cons_succ, lam_int, lam_ref, lam_lst, lam_tup, lam_str, lam_non, lam_bl, lam_exn, lam_dct, lim_0, lim_1, lim_2, lim_3, lim_4, lim_5, lim_6, lim_7, lim_8, lim_9, lim_10, if_true, if_false, Bool.false_eq_true, ↓reduceIte, Nat.reduceAdd, it_tup, h, x1, x2, Option.isSome_some, g_nx, is_exn, i1, a1, a2]
theorem heard_part (k : Nat) {th : S → R W} {s s1 : S} {a : W} (h : th s = .exc 6 [(1, a)] s1) : hearF pg (k + 4) 9 th s = .ok (.tup [.str "part", a]) s1 := by
  have e1 : evB (ctxK pg k th) (.cons (.aska 1) .nil) [some .lam, some .non, some .non, none] s = .exc 6 [(1, a)] [some .lam, some .non, some .non, none] s1 := by
    simp only [b_ok, b_exc, l_ok, l_exc, t_nx, t_rt, t_exc, c_ok, o_some, out_rt, out_nx, out_exc, k_call, k_init, k_meth, k_makes, k_wf, k_excf, k_sub, k_ask, k_hear, evB, sx_k_e, sx_k_t, sx_k_n, sx_k_i, sx_k_p, sx_v_e, sx_v_t, sx_v_n, sx_v_i, sx_v_p, sx_gl_e, sx_gl_t, sx_gl_n, sx_gl_i, sx_gl_p, sx_bin_e, sx_bin_t, sx_bin_n, sx_bin_i, sx_bin_p, sx_not_e, sx_not_t, sx_not_n, sx_neg_e, sx_neg_t, sx_neg_n, sx_neg_i, sx_neg_p, sx_one_e, sx_one_t, sx_one_n, sx_and_e, sx_and_t, sx_and_n, sx_or_e, sx_or_t, sx_or_n, sx_ite_e, sx_ite_t, sx_ite_n, sx_ite_i, sx_ite_p, sx_cmp_e, sx_cmp_t, sx_cmp_n, sx_cmp_i, sx_cmp_p, sx_cmp2_e, sx_cmp2_t, sx_cmp2_n, sx_cmp2_i, sx_cmp2_p, sx_call_e, sx_call_t, sx_call_n, sx_call_i, sx_call_p, sx_callk_e, sx_callk_t, sx_callk_n, sx_callk_i, sx_callk_p, sx_mkk_e, sx_mkk_t, sx_mkk_n, sx_mkk_i, sx_mkk_p, sx_methk_e, sx_methk_t, sx_methk_n, sx_methk_i, sx_methk_p, sx_mk_e, sx_mk_t, sx_mk_n, sx_mk_i, sx_mk_p, sx_meth_e, sx_meth_t, sx_meth_n, sx_meth_i, sx_meth_p, sx_attr_e, sx_attr_t, sx_attr_n, sx_attr_i, sx_attr_p, sx_sub_e, sx_sub_t, sx_sub_n, sx_sub_i, sx_sub_p, sx_slice_e, sx_slice_t, sx_slice_n, sx_slice_i, sx_slice_p, sx_tup_e, sx_tup_t, sx_tup_n, sx_tup_i, sx_tup_p, sx_lst_e, sx_lst_t, sx_lst_n, sx_lst_i, sx_lst_p, sx_mls_e, sx_mls_t, sx_mls_n, sx_mls_i, sx_mls_p, sx_comp_e, sx_comp_t, sx_comp_n, sx_comp_i, sx_comp_p, sx_bi_e, sx_bi_t, sx_bi_n, sx_bi_i, sx_bi_p, sx_isin_e, sx_isin_t, sx_isin_n, sx_isin_i, sx_isin_p, sx_sm_e, sx_sm_t, sx_sm_n, sx_sm_i, sx_sm_p, sx_hear_e, sx_hear_t, sx_hear_n, sx_hear_i, sx_hear_p, sx_dct_e, sx_dct_t, sx_dct_n, sx_dct_i, sx_dct_p, sx_rng_i, sx_enum_i, sx_nil_a, sx_nil_n, sx_nil_p, sx_cons_a, asgW, putP, tru_bl, cmp_gt, cmp_lt, cmp_ge, bi_int, bi_intb, bi_abs, bin_add, bin_sub, Option.map_some, Option.getD_some, List.map_cons, List.map_nil, List.replicate_succ, List.replicate_zero, List.cons_append, List.nil_append, List.getElem?_cons_zero, List.getElem?_cons_succ, List.set_cons_zero, List.set_cons_succ, lam_int, lam_ref, lam_lst, lam_tup, lam_str, lam_non, lam_bl, lam_exn, lam_dct, lim_0, lim_1, lim_2, lim_3, lim_4, lim_5, lim_6, lim_7, lim_8, lim_9, lim_10, if_true, if_false, Bool.false_eq_true, ↓reduceIte, Nat.reduceAdd, h]
  have i1 : isMany (ctxK pg k th) s1 (.exn 6 [(1, a)]) [.c "BadText" 11] = some false := rfl
  have i2 : isMany (ctxK pg k th) s1 (.exn 6 [(1, a)]) [.c "BadValue" 8, .c "BadPaper" 9, .c "Unlike" 12, .c "Nothing" 13, .c "BadTable" 7, .c "BadCode" 4, .c "BadCourse" 6] = some true := rfl
  have a1 := attr_x (k := k) (th := th) (s := s1) (c := 6) (fs := [(1, a)]) (f := 1) (w := a) rfl rfl
  rw [h_run]
  unfold t9
  have x1 : pg.excf 6 = some [1] := rfl
  have x2 : pg.sub 6 0 = some true := rfl
  simp only [b_ok, b_exc, l_ok, l_exc, t_nx, t_rt, t_exc, c_ok, o_some, out_rt, out_nx, out_exc, k_call, k_init, k_meth, k_makes, k_wf, k_excf, k_sub, k_ask, k_hear, evB, sx_k_e, sx_k_t, sx_k_n, sx_k_i, sx_k_p, sx_v_e, sx_v_t, sx_v_n, sx_v_i, sx_v_p, sx_gl_e, sx_gl_t, sx_gl_n, sx_gl_i, sx_gl_p, sx_bin_e, sx_bin_t, sx_bin_n, sx_bin_i, sx_bin_p, sx_not_e, sx_not_t, sx_not_n, sx_neg_e, sx_neg_t, sx_neg_n, sx_neg_i, sx_neg_p, sx_one_e, sx_one_t, sx_one_n, sx_and_e, sx_and_t, sx_and_n, sx_or_e, sx_or_t, sx_or_n, sx_ite_e, sx_ite_t, sx_ite_n, sx_ite_i, sx_ite_p, sx_cmp_e, sx_cmp_t, sx_cmp_n, sx_cmp_i, sx_cmp_p, sx_cmp2_e, sx_cmp2_t, sx_cmp2_n, sx_cmp2_i, sx_cmp2_p, sx_call_e, sx_call_t, sx_call_n, sx_call_i, sx_call_p, sx_callk_e, sx_callk_t, sx_callk_n, sx_callk_i, sx_callk_p, sx_mkk_e, sx_mkk_t, sx_mkk_n, sx_mkk_i, sx_mkk_p, sx_methk_e, sx_methk_t, sx_methk_n, sx_methk_i, sx_methk_p, sx_mk_e, sx_mk_t, sx_mk_n, sx_mk_i, sx_mk_p, sx_meth_e, sx_meth_t, sx_meth_n, sx_meth_i, sx_meth_p, sx_attr_e, sx_attr_t, sx_attr_n, sx_attr_i, sx_attr_p, sx_sub_e, sx_sub_t, sx_sub_n, sx_sub_i, sx_sub_p, sx_slice_e, sx_slice_t, sx_slice_n, sx_slice_i, sx_slice_p, sx_tup_e, sx_tup_t, sx_tup_n, sx_tup_i, sx_tup_p, sx_lst_e, sx_lst_t, sx_lst_n, sx_lst_i, sx_lst_p, sx_mls_e, sx_mls_t, sx_mls_n, sx_mls_i, sx_mls_p, sx_comp_e, sx_comp_t, sx_comp_n, sx_comp_i, sx_comp_p, sx_bi_e, sx_bi_t, sx_bi_n, sx_bi_i, sx_bi_p, sx_isin_e, sx_isin_t, sx_isin_n, sx_isin_i, sx_isin_p, sx_sm_e, sx_sm_t, sx_sm_n, sx_sm_i, sx_sm_p, sx_hear_e, sx_hear_t, sx_hear_n, sx_hear_i, sx_hear_p, sx_dct_e, sx_dct_t, sx_dct_n, sx_dct_i, sx_dct_p, sx_rng_i, sx_enum_i, sx_nil_a, sx_nil_n, sx_nil_p, sx_cons_a, asgW, putP, tru_bl, cmp_gt, cmp_lt, cmp_ge, bi_int, bi_intb, bi_abs, bin_add, bin_sub, Option.map_some, Option.getD_some, List.map_cons, List.map_nil, List.replicate_succ, List.replicate_zero, List.cons_append, List.nil_append, List.getElem?_cons_zero, List.getElem?_cons_succ, List.set_cons_zero, List.set_cons_succ, lam_int, lam_ref, lam_lst, lam_tup, lam_str, lam_non, lam_bl, lam_exn, lam_dct, lim_0, lim_1, lim_2, lim_3, lim_4, lim_5, lim_6, lim_7, lim_8, lim_9, lim_10, if_true, if_false, Bool.false_eq_true, ↓reduceIte, Nat.reduceAdd, it_tup, h, x1, x2, Option.isSome_some, g_nx, is_exn, i1, i2, a1]
/-- what is no text -/
theorem read_bad (k : Nat) {s : S} {w : W} (hl : isLam w = false) (he : cmpW s .eq w (.str "") = some false) (hi : isMany (CK (k + 2)) s w [.b "str"] = some false) : callF pg (k + 7) 5 [w] s = .exc 11 [(4, .int 0), (3, .int 0)] s := by
  have hx : pg.excf 11 = some [4, 3] := rfl
  have l2 : ∀ {c d : W}, (([4, 3] : List Nat).length = [c, d].length) = True := eq_true rfl
  have e1 : callF pg (k + 3 + 3) 3 [w] s = .exc 11 [(4, .int 0), (3, .int 0)] s := by
    show callF pg (k + 2 + 4) 3 [w] s = _
    rw [run_at (d := d3) rfl (k + 2) _ s rfl]
    unfold d3 t3
    simp only [b_ok, b_exc, l_ok, l_exc, t_nx, t_rt, t_exc, c_ok, o_some, out_rt, out_nx, out_exc, k_call, k_init, k_meth, k_makes, k_wf, k_excf, k_sub, k_ask, k_hear, evB, sx_k_e, sx_k_t, sx_k_n, sx_k_i, sx_k_p, sx_v_e, sx_v_t, sx_v_n, sx_v_i, sx_v_p, sx_gl_e, sx_gl_t, sx_gl_n, sx_gl_i, sx_gl_p, sx_bin_e, sx_bin_t, sx_bin_n, sx_bin_i, sx_bin_p, sx_not_e, sx_not_t, sx_not_n, sx_neg_e, sx_neg_t, sx_neg_n, sx_neg_i, sx_neg_p, sx_one_e, sx_one_t, sx_one_n, sx_and_e, sx_and_t, sx_and_n, sx_or_e, sx_or_t, sx_or_n, sx_ite_e, sx_ite_t, sx_ite_n, sx_ite_i, sx_ite_p, sx_cmp_e, sx_cmp_t, sx_cmp_n, sx_cmp_i, sx_cmp_p, sx_cmp2_e, sx_cmp2_t, sx_cmp2_n, sx_cmp2_i, sx_cmp2_p, sx_call_e, sx_call_t, sx_call_n, sx_call_i, sx_call_p, sx_callk_e, sx_callk_t, sx_callk_n, sx_callk_i, sx_callk_p, sx_mkk_e, sx_mkk_t, sx_mkk_n, sx_mkk_i, sx_mkk_p, sx_methk_e, sx_methk_t, sx_methk_n, sx_methk_i, sx_methk_p, sx_mk_e, sx_mk_t, sx_mk_n, sx_mk_i, sx_mk_p, sx_meth_e, sx_meth_t, sx_meth_n, sx_meth_i, sx_meth_p, sx_attr_e, sx_attr_t, sx_attr_n, sx_attr_i, sx_attr_p, sx_sub_e, sx_sub_t, sx_sub_n, sx_sub_i, sx_sub_p, sx_slice_e, sx_slice_t, sx_slice_n, sx_slice_i, sx_slice_p, sx_tup_e, sx_tup_t, sx_tup_n, sx_tup_i, sx_tup_p, sx_lst_e, sx_lst_t, sx_lst_n, sx_lst_i, sx_lst_p, sx_mls_e, sx_mls_t, sx_mls_n, sx_mls_i, sx_mls_p, sx_comp_e, sx_comp_t, sx_comp_n, sx_comp_i, sx_comp_p, sx_bi_e, sx_bi_t, sx_bi_n, sx_bi_i, sx_bi_p, sx_isin_e, sx_isin_t, sx_isin_n, sx_isin_i, sx_isin_p, sx_sm_e, sx_sm_t, sx_sm_n, sx_sm_i, sx_sm_p, sx_hear_e, sx_hear_t, sx_hear_n, sx_hear_i, sx_hear_p, sx_dct_e, sx_dct_t, sx_dct_n, sx_dct_i, sx_dct_p, sx_rng_i, sx_enum_i, sx_nil_a, sx_nil_n, sx_nil_p, sx_cons_a, asgW, putP, tru_bl, cmp_gt, cmp_lt, cmp_ge, bi_int, bi_intb, bi_abs, bin_add, bin_sub, Option.map_some, Option.getD_some, List.map_cons, List.map_nil, List.replicate_succ, List.replicate_zero, List.cons_append, List.nil_append, List.getElem?_cons_zero, List.getElem?_cons_succ, List.set_cons_zero, List.set_cons_succ, lam_int, lam_ref, lam_lst, lam_tup, lam_str, lam_non, lam_bl, lam_exn, lam_dct, lim_0, lim_1, lim_2, lim_3, lim_4, lim_5, lim_6, lim_7, lim_8, lim_9, lim_10, if_true, if_false, Bool.false_eq_true, ↓reduceIte, Nat.reduceAdd, hl, hi, Bool.not_false, hx, l2, List.zip_cons_cons, List.zip_nil_right]
  rw [run_at (d := d5) rfl (k + 3) _ s rfl]
  unfold d5 t5
  simp only [b_ok, b_exc, l_ok, l_exc, t_nx, t_rt, t_exc, c_ok, o_some, out_rt, out_nx, out_exc, k_call, k_init, k_meth, k_makes, k_wf, k_excf, k_sub, k_ask, k_hear, evB, sx_k_e, sx_k_t, sx_k_n, sx_k_i, sx_k_p, sx_v_e, sx_v_t, sx_v_n, sx_v_i, sx_v_p, sx_gl_e, sx_gl_t, sx_gl_n, sx_gl_i, sx_gl_p, sx_bin_e, sx_bin_t, sx_bin_n, sx_bin_i, sx_bin_p, sx_not_e, sx_not_t, sx_not_n, sx_neg_e, sx_neg_t, sx_neg_n, sx_neg_i, sx_neg_p, sx_one_e, sx_one_t, sx_one_n, sx_and_e, sx_and_t, sx_and_n, sx_or_e, sx_or_t, sx_or_n, sx_ite_e, sx_ite_t, sx_ite_n, sx_ite_i, sx_ite_p, sx_cmp_e, sx_cmp_t, sx_cmp_n, sx_cmp_i, sx_cmp_p, sx_cmp2_e, sx_cmp2_t, sx_cmp2_n, sx_cmp2_i, sx_cmp2_p, sx_call_e, sx_call_t, sx_call_n, sx_call_i, sx_call_p, sx_callk_e, sx_callk_t, sx_callk_n, sx_callk_i, sx_callk_p, sx_mkk_e, sx_mkk_t, sx_mkk_n, sx_mkk_i, sx_mkk_p, sx_methk_e, sx_methk_t, sx_methk_n, sx_methk_i, sx_methk_p, sx_mk_e, sx_mk_t, sx_mk_n, sx_mk_i, sx_mk_p, sx_meth_e, sx_meth_t, sx_meth_n, sx_meth_i, sx_meth_p, sx_attr_e, sx_attr_t, sx_attr_n, sx_attr_i, sx_attr_p, sx_sub_e, sx_sub_t, sx_sub_n, sx_sub_i, sx_sub_p, sx_slice_e, sx_slice_t, sx_slice_n, sx_slice_i, sx_slice_p, sx_tup_e, sx_tup_t, sx_tup_n, sx_tup_i, sx_tup_p, sx_lst_e, sx_lst_t, sx_lst_n, sx_lst_i, sx_lst_p, sx_mls_e, sx_mls_t, sx_mls_n, sx_mls_i, sx_mls_p, sx_comp_e, sx_comp_t, sx_comp_n, sx_comp_i, sx_comp_p, sx_bi_e, sx_bi_t, sx_bi_n, sx_bi_i, sx_bi_p, sx_isin_e, sx_isin_t, sx_isin_n, sx_isin_i, sx_isin_p, sx_sm_e, sx_sm_t, sx_sm_n, sx_sm_i, sx_sm_p, sx_hear_e, sx_hear_t, sx_hear_n, sx_hear_i, sx_hear_p, sx_dct_e, sx_dct_t, sx_dct_n, sx_dct_i, sx_dct_p, sx_rng_i, sx_enum_i, sx_nil_a, sx_nil_n, sx_nil_p, sx_cons_a, asgW, putP, tru_bl, cmp_gt, cmp_lt, cmp_ge, bi_int, bi_intb, bi_abs, bin_add, bin_sub, Option.map_some, Option.getD_some, List.map_cons, List.map_nil, List.replicate_succ, List.replicate_zero, List.cons_append, List.nil_append, List.getElem?_cons_zero, List.getElem?_cons_succ, List.set_cons_zero, List.set_cons_succ, lam_int, lam_ref, lam_lst, lam_tup, lam_str, lam_non, lam_bl, lam_exn, lam_dct, lim_0, lim_1, lim_2, lim_3, lim_4, lim_5, lim_6, lim_7, lim_8, lim_9, lim_10, if_true, if_false, Bool.false_eq_true, ↓reduceIte, Nat.reduceAdd, hl, he, e1]
end Law

set_option linter.all false
set_option autoImplicit false
set_option maxRecDepth 100000
set_option maxHeartbeats 4000000
namespace Law
open Ev
open PySem (Str)

theorem eq_refl {s : S} {w : W} {d : PySem.PyData} (h : datS s w = some d) (h1 : d.plain = true) (h2 : d.depth ≤ 64) : eqW s w w = some true := by
  rw [eq_of h h (by rw [small0 h2]; rfl), PySem.SeqAt.eqv_refl_plain d h1]
theorem ne_refl {s : S} {w : W} {d : PySem.PyData} (h : datS s w = some d) (h1 : d.plain = true) (h2 : d.depth ≤ 64) : cmpW s .ne w w = some false := by
  show (eqW s w w).map (!·) = _
  rw [eq_refl h h1 h2]; rfl
theorem datL_str : ∀ l : List Str, datL (l.map .str) = some (l.map .str)
  | [] => rfl
  | a :: l => by simp [datL, dat, datL_str l]
theorem plain_str : ∀ l : List Str, PySem.PyData.plainAll (l.map .str) = true
  | [] => rfl
  | a :: l => by simp [PySem.PyData.plainAll, PySem.PyData.plain, plain_str l]
theorem depth_str : ∀ l : List Str, PySem.PyData.depthAll (l.map .str) = 0
  | [] => rfl
  | a :: l => by simp [PySem.PyData.depthAll, PySem.PyData.depth, depth_str l]
theorem ne_tups {s : S} {xs : List Str} : cmpW s .ne (.tup (xs.map .str)) (.tup (xs.map .str)) = some false := by
  refine ne_refl (d := .tuple (xs.map .str)) ?_ (by simp [PySem.PyData.plain, plain_str]) (by simp [PySem.PyData.depth, depth_str])
  show (datL (xs.map .str)).map PySem.PyData.tuple = _
  rw [datL_str]; rfl
theorem ne_two {s : S} {x : Str} : cmpW s .ne (.lst [.str x, .str x]) (.lst [.str x, .str x]) = some false := ne_refl (d := .list [.str x, .str x]) rfl rfl (by simp [PySem.PyData.depth, PySem.PyData.depthAll])
theorem ne_tii {s : S} {x : Str} {i j : Int} : cmpW s .ne (.tup [.str x, .int i, .int j]) (.tup [.str x, .int i, .int j]) = some false := ne_refl (d := .tuple [.str x, .int i, .int j]) rfl rfl (by simp [PySem.PyData.depth, PySem.PyData.depthAll])
theorem ne_ltup {s : S} {xs : List Str} : cmpW s .ne (.lst [.tup (xs.map .str)]) (.lst [.tup (xs.map .str)]) = some false := by
  refine ne_refl (d := .list [.tuple (xs.map .str)]) ?_ (by simp [PySem.PyData.plain, PySem.PyData.plainAll, plain_str]) (by simp [PySem.PyData.depth, PySem.PyData.depthAll, depth_str])
  show (datL [W.tup (xs.map .str)]).map PySem.PyData.list = _
  simp [datL, dat, datL_str]
theorem nl_empty : nlIn "" = false := by decide +kernel
/-- what is heard of read_course -/
def hW (t : Str) : W :=
  if t = "" then .lst [.tup []] else match fb (wds t) 0 with
    | some i => .tup [.str "text", .int 0, .int i]
    | none => if nlIn t = true then .tup [.str "text", .int 1, .int 0] else .lst [.tup ((PySem.Txt.split t " ").map .str)]
theorem heard_read {s : S} {t : Str} (ht : t.length ≤ 40000) : ∃ s', Keep s s' ∧ hearF pg 59 9 (callF pg 57 5 [.str t]) s = .ok (hW t) s' := by
  obtain ⟨s', k, e⟩ := read_run 50 (s := s) ht
  refine ⟨s', k, ?_⟩
  unfold rcR at e
  unfold hW
  by_cases c : t = ""
  · rw [if_pos c] at e ⊢
    exact heard_ok 55 e rfl
  · rw [if_neg c] at e ⊢
    cases hf : fb (wds t) 0 with
    | some i =>
      rw [hf] at e
      exact heard_text 55 e
    | none =>
      rw [hf] at e
      dsimp only at e ⊢
      by_cases n : nlIn t = true
      · rw [if_pos n] at e ⊢
        exact heard_text 55 e
      · rw [if_neg n] at e ⊢
        exact heard_ok 55 e rfl
theorem lam_bad (t : Str) : isLam (badW t) = false := by
  unfold badW
  split
  · rfl
  · split <;> rfl
theorem lam_hW (t : Str) : isLam (hW t) = false := by
  unfold hW
  split
  · rfl
  · split
    · rfl
    · split <;> rfl
def nlO (o : Option W) : Bool := match o with
  | some w => !isLam w
  | none => true
theorem noLam_cons {o : Option W} {e : List (Option W)} : noLam (o :: e) = (nlO o && noLam e) := rfl
theorem noLam_nil : noLam [] = true := rfl
theorem nlO_some {w : W} (h : isLam w = false) : nlO (some w) = true := by
  show (!isLam w) = true
  rw [h]; rfl
theorem nlO_none : nlO none = true := rfl
theorem low_call {P k a} : (ctxK P k a).lower.call = callF P (k + 1) := Eq.trans rfl rfl
theorem isnot_tup {s : S} {ws : List W} : cmpW s .isnot (.tup ws) .non = some true := Eq.trans rfl rfl
theorem isnot_non {s : S} : cmpW s .isnot .non .non = some false := Eq.trans rfl rfl
/-- one bent text -/
theorem bent_run {a0 a1 a2 a3 a4 a5 a6 a7 a9 a10 a11 : Option W} {t : Str} {s : S} (ht : t.length ≤ 40000) (hn : noLam [a0, a1, a2, a3, a4, a5, a6, a7, a10, a11] = true) :
    ∃ s', Keep s s' ∧ evB (CK 56) t_law0 [a0, a1, a2, a3, a4, a5, a6, a7, some (.str t), a9, a10, a11] s = .ok (.nx [a0, a1, a2, a3, a4, a5, a6, a7, some (.str t), some (badW t), a10, a11]) s' := by
  obtain ⟨s', kp, hh⟩ := heard_read (s := s) ht
  refine ⟨s', kp, ?_⟩
  have hb : callF pg 59 11 [.str t] s = .ok (badW t) s := bad_run 55 ht
  have nl : noLam [a0, a1, a2, a3, a4, a5, a6, a7, some (.str t), some (badW t), a10, a11] = true := by
    simp only [noLam_cons, noLam_nil, Bool.and_eq_true, nlO_some (lam_str), nlO_some (lam_bad t)] at hn ⊢
    obtain ⟨h0, h1, h2, h3, h4, h5, h6, h7, h10, h11, _⟩ := hn
    exact ⟨h0, h1, h2, h3, h4, h5, h6, h7, trivial, trivial, h10, h11, trivial⟩
  have lb := lam_bad t
  have hsp := split_run (s := s') (x := t) (y := " ") (by rw [sp_len]; omega) (by show _ ≤ 16777216; omega)
  have sk : smOk s' .split (.str t) = true := rfl
  unfold t_law0
  unfold hW at hh
  by_cases c : t = ""
  · have ec : (t == ("" : Str)) = true := by rw [c]; exact beq_self_eq_true _
    rw [if_pos c] at hh
    have eb : badW t = .non := by
      unfold badW bws
      rw [if_pos c, c]
      show (if nlIn "" = true then W.tup [.str "text", .int 1, .int 0] else .non) = _
      rw [nl_empty]
      rfl
    have ne1 := ne_ltup (s := s') (xs := [])
    rw [List.map_nil] at ne1
    rw [eb] at nl lb hb ⊢
    simp only [b_ok, b_exc, l_ok, l_exc, t_nx, t_rt, t_exc, c_ok, o_some, out_rt, out_nx, out_exc, k_call, k_init, k_meth, k_makes, k_wf, k_excf, k_sub, k_ask, k_hear, evB, sx_k_e, sx_k_t, sx_k_n, sx_k_i, sx_k_p, sx_v_e, sx_v_t, sx_v_n, sx_v_i, sx_v_p, sx_gl_e, sx_gl_t, sx_gl_n, sx_gl_i, sx_gl_p, sx_bin_e, sx_bin_t, sx_bin_n, sx_bin_i, sx_bin_p, sx_not_e, sx_not_t, sx_not_n, sx_neg_e, sx_neg_t, sx_neg_n, sx_neg_i, sx_neg_p, sx_one_e, sx_one_t, sx_one_n, sx_and_e, sx_and_t, sx_and_n, sx_or_e, sx_or_t, sx_or_n, sx_ite_e, sx_ite_t, sx_ite_n, sx_ite_i, sx_ite_p, sx_cmp_e, sx_cmp_t, sx_cmp_n, sx_cmp_i, sx_cmp_p, sx_cmp2_e, sx_cmp2_t, sx_cmp2_n, sx_cmp2_i, sx_cmp2_p, sx_call_e, sx_call_t, sx_call_n, sx_call_i, sx_call_p, sx_callk_e, sx_callk_t, sx_callk_n, sx_callk_i, sx_callk_p, sx_mkk_e, sx_mkk_t, sx_mkk_n, sx_mkk_i, sx_mkk_p, sx_methk_e, sx_methk_t, sx_methk_n, sx_methk_i, sx_methk_p, sx_mk_e, sx_mk_t, sx_mk_n, sx_mk_i, sx_mk_p, sx_meth_e, sx_meth_t, sx_meth_n, sx_meth_i, sx_meth_p, sx_attr_e, sx_attr_t, sx_attr_n, sx_attr_i, sx_attr_p, sx_sub_e, sx_sub_t, sx_sub_n, sx_sub_i, sx_sub_p, sx_slice_e, sx_slice_t, sx_slice_n, sx_slice_i, sx_slice_p, sx_tup_e, sx_tup_t, sx_tup_n, sx_tup_i, sx_tup_p, sx_lst_e, sx_lst_t, sx_lst_n, sx_lst_i, sx_lst_p, sx_mls_e, sx_mls_t, sx_mls_n, sx_mls_i, sx_mls_p, sx_comp_e, sx_comp_t, sx_comp_n, sx_comp_i, sx_comp_p, sx_bi_e, sx_bi_t, sx_bi_n, sx_bi_i, sx_bi_p, sx_isin_e, sx_isin_t, sx_isin_n, sx_isin_i, sx_isin_p, sx_sm_e, sx_sm_t, sx_sm_n, sx_sm_i, sx_sm_p, sx_hear_e, sx_hear_t, sx_hear_n, sx_hear_i, sx_hear_p, sx_dct_e, sx_dct_t, sx_dct_n, sx_dct_i, sx_dct_p, sx_rng_i, sx_enum_i, sx_nil_a, sx_nil_n, sx_nil_p, sx_cons_a, asgW, putP, tru_bl, cmp_gt, cmp_lt, cmp_ge, bi_int, bi_intb, bi_abs, bin_add, bin_sub, Option.map_some, Option.getD_some, List.map_cons, List.map_nil, List.replicate_succ, List.replicate_zero, List.cons_append, List.nil_append, List.getElem?_cons_zero, List.getElem?_cons_succ, List.set_cons_zero, List.set_cons_succ, lam_int, lam_ref, lam_lst, lam_tup, lam_str, lam_non, lam_bl, lam_exn, lam_dct, lim_0, lim_1, lim_2, lim_3, lim_4, lim_5, lim_6, lim_7, lim_8, lim_9, lim_10, if_true, if_false, Bool.false_eq_true, ↓reduceIte, Nat.reduceAdd, hb, nl, low_call, hh, isnot_non, ne_str, ec, Bool.not_true, ne1]
  · have ec : (t == ("" : Str)) = false := beq_eq_false_iff_ne.mpr c
    rw [if_neg c] at hh
    have eb : badW t = match fb (wds t) 0 with
      | some i => .tup [.str "text", .int 0, .int i]
      | none => if nlIn t = true then .tup [.str "text", .int 1, .int 0] else .non := by
      unfold badW bws
      rw [if_neg c]
      try (cases fb (wds t) 0 <;> rfl)
    cases hf : fb (wds t) 0 with
    | some i =>
      rw [hf] at hh eb
      dsimp only at hh eb
      rw [eb] at nl lb hb ⊢
      simp only [b_ok, b_exc, l_ok, l_exc, t_nx, t_rt, t_exc, c_ok, o_some, out_rt, out_nx, out_exc, k_call, k_init, k_meth, k_makes, k_wf, k_excf, k_sub, k_ask, k_hear, evB, sx_k_e, sx_k_t, sx_k_n, sx_k_i, sx_k_p, sx_v_e, sx_v_t, sx_v_n, sx_v_i, sx_v_p, sx_gl_e, sx_gl_t, sx_gl_n, sx_gl_i, sx_gl_p, sx_bin_e, sx_bin_t, sx_bin_n, sx_bin_i, sx_bin_p, sx_not_e, sx_not_t, sx_not_n, sx_neg_e, sx_neg_t, sx_neg_n, sx_neg_i, sx_neg_p, sx_one_e, sx_one_t, sx_one_n, sx_and_e, sx_and_t, sx_and_n, sx_or_e, sx_or_t, sx_or_n, sx_ite_e, sx_ite_t, sx_ite_n, sx_ite_i, sx_ite_p, sx_cmp_e, sx_cmp_t, sx_cmp_n, sx_cmp_i, sx_cmp_p, sx_cmp2_e, sx_cmp2_t, sx_cmp2_n, sx_cmp2_i, sx_cmp2_p, sx_call_e, sx_call_t, sx_call_n, sx_call_i, sx_call_p, sx_callk_e, sx_callk_t, sx_callk_n, sx_callk_i, sx_callk_p, sx_mkk_e, sx_mkk_t, sx_mkk_n, sx_mkk_i, sx_mkk_p, sx_methk_e, sx_methk_t, sx_methk_n, sx_methk_i, sx_methk_p, sx_mk_e, sx_mk_t, sx_mk_n, sx_mk_i, sx_mk_p, sx_meth_e, sx_meth_t, sx_meth_n, sx_meth_i, sx_meth_p, sx_attr_e, sx_attr_t, sx_attr_n, sx_attr_i, sx_attr_p, sx_sub_e, sx_sub_t, sx_sub_n, sx_sub_i, sx_sub_p, sx_slice_e, sx_slice_t, sx_slice_n, sx_slice_i, sx_slice_p, sx_tup_e, sx_tup_t, sx_tup_n, sx_tup_i, sx_tup_p, sx_lst_e, sx_lst_t, sx_lst_n, sx_lst_i, sx_lst_p, sx_mls_e, sx_mls_t, sx_mls_n, sx_mls_i, sx_mls_p, sx_comp_e, sx_comp_t, sx_comp_n, sx_comp_i, sx_comp_p, sx_bi_e, sx_bi_t, sx_bi_n, sx_bi_i, sx_bi_p, sx_isin_e, sx_isin_t, sx_isin_n, sx_isin_i, sx_isin_p, sx_sm_e, sx_sm_t, sx_sm_n, sx_sm_i, sx_sm_p, sx_hear_e, sx_hear_t, sx_hear_n, sx_hear_i, sx_hear_p, sx_dct_e, sx_dct_t, sx_dct_n, sx_dct_i, sx_dct_p, sx_rng_i, sx_enum_i, sx_nil_a, sx_nil_n, sx_nil_p, sx_cons_a, asgW, putP, tru_bl, cmp_gt, cmp_lt, cmp_ge, bi_int, bi_intb, bi_abs, bin_add, bin_sub, Option.map_some, Option.getD_some, List.map_cons, List.map_nil, List.replicate_succ, List.replicate_zero, List.cons_append, List.nil_append, List.getElem?_cons_zero, List.getElem?_cons_succ, List.set_cons_zero, List.set_cons_succ, lam_int, lam_ref, lam_lst, lam_tup, lam_str, lam_non, lam_bl, lam_exn, lam_dct, lim_0, lim_1, lim_2, lim_3, lim_4, lim_5, lim_6, lim_7, lim_8, lim_9, lim_10, if_true, if_false, Bool.false_eq_true, ↓reduceIte, Nat.reduceAdd, hb, nl, low_call, hh, isnot_tup, ne_tii]
    | none =>
      rw [hf] at hh eb
      dsimp only at hh eb
      by_cases n : nlIn t = true
      · rw [if_pos n] at hh eb
        rw [eb] at nl lb hb ⊢
        simp only [b_ok, b_exc, l_ok, l_exc, t_nx, t_rt, t_exc, c_ok, o_some, out_rt, out_nx, out_exc, k_call, k_init, k_meth, k_makes, k_wf, k_excf, k_sub, k_ask, k_hear, evB, sx_k_e, sx_k_t, sx_k_n, sx_k_i, sx_k_p, sx_v_e, sx_v_t, sx_v_n, sx_v_i, sx_v_p, sx_gl_e, sx_gl_t, sx_gl_n, sx_gl_i, sx_gl_p, sx_bin_e, sx_bin_t, sx_bin_n, sx_bin_i, sx_bin_p, sx_not_e, sx_not_t, sx_not_n, sx_neg_e, sx_neg_t, sx_neg_n, sx_neg_i, sx_neg_p, sx_one_e, sx_one_t, sx_one_n, sx_and_e, sx_and_t, sx_and_n, sx_or_e, sx_or_t, sx_or_n, sx_ite_e, sx_ite_t, sx_ite_n, sx_ite_i, sx_ite_p, sx_cmp_e, sx_cmp_t, sx_cmp_n, sx_cmp_i, sx_cmp_p, sx_cmp2_e, sx_cmp2_t, sx_cmp2_n, sx_cmp2_i, sx_cmp2_p, sx_call_e, sx_call_t, sx_call_n, sx_call_i, sx_call_p, sx_callk_e, sx_callk_t, sx_callk_n, sx_callk_i, sx_callk_p, sx_mkk_e, sx_mkk_t, sx_mkk_n, sx_mkk_i, sx_mkk_p, sx_methk_e, sx_methk_t, sx_methk_n, sx_methk_i, sx_methk_p, sx_mk_e, sx_mk_t, sx_mk_n, sx_mk_i, sx_mk_p, sx_meth_e, sx_meth_t, sx_meth_n, sx_meth_i, sx_meth_p, sx_attr_e, sx_attr_t, sx_attr_n, sx_attr_i, sx_attr_p, sx_sub_e, sx_sub_t, sx_sub_n, sx_sub_i, sx_sub_p, sx_slice_e, sx_slice_t, sx_slice_n, sx_slice_i, sx_slice_p, sx_tup_e, sx_tup_t, sx_tup_n, sx_tup_i, sx_tup_p, sx_lst_e, sx_lst_t, sx_lst_n, sx_lst_i, sx_lst_p, sx_mls_e, sx_mls_t, sx_mls_n, sx_mls_i, sx_mls_p, sx_comp_e, sx_comp_t, sx_comp_n, sx_comp_i, sx_comp_p, sx_bi_e, sx_bi_t, sx_bi_n, sx_bi_i, sx_bi_p, sx_isin_e, sx_isin_t, sx_isin_n, sx_isin_i, sx_isin_p, sx_sm_e, sx_sm_t, sx_sm_n, sx_sm_i, sx_sm_p, sx_hear_e, sx_hear_t, sx_hear_n, sx_hear_i, sx_hear_p, sx_dct_e, sx_dct_t, sx_dct_n, sx_dct_i, sx_dct_p, sx_rng_i, sx_enum_i, sx_nil_a, sx_nil_n, sx_nil_p, sx_cons_a, asgW, putP, tru_bl, cmp_gt, cmp_lt, cmp_ge, bi_int, bi_intb, bi_abs, bin_add, bin_sub, Option.map_some, Option.getD_some, List.map_cons, List.map_nil, List.replicate_succ, List.replicate_zero, List.cons_append, List.nil_append, List.getElem?_cons_zero, List.getElem?_cons_succ, List.set_cons_zero, List.set_cons_succ, lam_int, lam_ref, lam_lst, lam_tup, lam_str, lam_non, lam_bl, lam_exn, lam_dct, lim_0, lim_1, lim_2, lim_3, lim_4, lim_5, lim_6, lim_7, lim_8, lim_9, lim_10, if_true, if_false, Bool.false_eq_true, ↓reduceIte, Nat.reduceAdd, hb, nl, low_call, hh, isnot_tup, ne_tii]
      · rw [if_neg n] at hh eb
        rw [eb] at nl lb hb ⊢
        simp only [b_ok, b_exc, l_ok, l_exc, t_nx, t_rt, t_exc, c_ok, o_some, out_rt, out_nx, out_exc, k_call, k_init, k_meth, k_makes, k_wf, k_excf, k_sub, k_ask, k_hear, evB, sx_k_e, sx_k_t, sx_k_n, sx_k_i, sx_k_p, sx_v_e, sx_v_t, sx_v_n, sx_v_i, sx_v_p, sx_gl_e, sx_gl_t, sx_gl_n, sx_gl_i, sx_gl_p, sx_bin_e, sx_bin_t, sx_bin_n, sx_bin_i, sx_bin_p, sx_not_e, sx_not_t, sx_not_n, sx_neg_e, sx_neg_t, sx_neg_n, sx_neg_i, sx_neg_p, sx_one_e, sx_one_t, sx_one_n, sx_and_e, sx_and_t, sx_and_n, sx_or_e, sx_or_t, sx_or_n, sx_ite_e, sx_ite_t, sx_ite_n, sx_ite_i, sx_ite_p, sx_cmp_e, sx_cmp_t, sx_cmp_n, sx_cmp_i, sx_cmp_p, sx_cmp2_e, sx_cmp2_t, sx_cmp2_n, sx_cmp2_i, sx_cmp2_p, sx_call_e, sx_call_t, sx_call_n, sx_call_i, sx_call_p, sx_callk_e, sx_callk_t, sx_callk_n, sx_callk_i, sx_callk_p, sx_mkk_e, sx_mkk_t, sx_mkk_n, sx_mkk_i, sx_mkk_p, sx_methk_e, sx_methk_t, sx_methk_n, sx_methk_i, sx_methk_p, sx_mk_e, sx_mk_t, sx_mk_n, sx_mk_i, sx_mk_p, sx_meth_e, sx_meth_t, sx_meth_n, sx_meth_i, sx_meth_p, sx_attr_e, sx_attr_t, sx_attr_n, sx_attr_i, sx_attr_p, sx_sub_e, sx_sub_t, sx_sub_n, sx_sub_i, sx_sub_p, sx_slice_e, sx_slice_t, sx_slice_n, sx_slice_i, sx_slice_p, sx_tup_e, sx_tup_t, sx_tup_n, sx_tup_i, sx_tup_p, sx_lst_e, sx_lst_t, sx_lst_n, sx_lst_i, sx_lst_p, sx_mls_e, sx_mls_t, sx_mls_n, sx_mls_i, sx_mls_p, sx_comp_e, sx_comp_t, sx_comp_n, sx_comp_i, sx_comp_p, sx_bi_e, sx_bi_t, sx_bi_n, sx_bi_i, sx_bi_p, sx_isin_e, sx_isin_t, sx_isin_n, sx_isin_i, sx_isin_p, sx_sm_e, sx_sm_t, sx_sm_n, sx_sm_i, sx_sm_p, sx_hear_e, sx_hear_t, sx_hear_n, sx_hear_i, sx_hear_p, sx_dct_e, sx_dct_t, sx_dct_n, sx_dct_i, sx_dct_p, sx_rng_i, sx_enum_i, sx_nil_a, sx_nil_n, sx_nil_p, sx_cons_a, asgW, putP, tru_bl, cmp_gt, cmp_lt, cmp_ge, bi_int, bi_intb, bi_abs, bin_add, bin_sub, Option.map_some, Option.getD_some, List.map_cons, List.map_nil, List.replicate_succ, List.replicate_zero, List.cons_append, List.nil_append, List.getElem?_cons_zero, List.getElem?_cons_succ, List.set_cons_zero, List.set_cons_succ, lam_int, lam_ref, lam_lst, lam_tup, lam_str, lam_non, lam_bl, lam_exn, lam_dct, lim_0, lim_1, lim_2, lim_3, lim_4, lim_5, lim_6, lim_7, lim_8, lim_9, lim_10, if_true, if_false, Bool.false_eq_true, ↓reduceIte, Nat.reduceAdd, hb, nl, low_call, hh, isnot_non, ne_str, ec, Bool.not_false, sk, hsp, bi_tup, ne_ltup]
end Law

set_option linter.all false
set_option autoImplicit false
set_option maxRecDepth 100000
set_option maxHeartbeats 8000000
namespace Law
open Ev
open PySem (Str)

theorem bent_loop {a0 a1 a2 a3 a4 a5 a6 a7 a10 a11 : Option W} {ts : List Str} (hts : ∀ t ∈ ts, t.length ≤ 40000) (hn : noLam [a0, a1, a2, a3, a4, a5, a6, a7, a10, a11] = true) : ∀ (m i n : Nat) (x8 x9 : Option W) (s : S), ts.length - i = m → i ≤ ts.length → m < n → nlO x8 = true → nlO x9 = true →
    ∃ y8 y9 s', Keep s s' ∧ nlO y8 = true ∧ nlO y9 = true ∧ forL (fun w e s => putP s (.n 8) [w] e) (fun e s => evB (CK 56) t_law0 e s) (.its (ts.map .str)) n i [a0, a1, a2, a3, a4, a5, a6, a7, x8, x9, a10, a11] s = .ok (.nx [a0, a1, a2, a3, a4, a5, a6, a7, y8, y9, a10, a11]) s'
  | m, i, 0, _, _, _, _, _, h, _, _ => absurd h (by omega)
  | m, i, n + 1, x8, x9, s, hm, hi, hmn, h8, h9 => by
    by_cases c : i < ts.length
    · have e0 : (Src.its (ts.map W.str)).at s i = some (some (.str ts[i])) := congrArg some (by rw [List.getElem?_map, List.getElem?_eq_getElem c]; rfl)
      obtain ⟨s1, k1, e1⟩ := bent_run (a9 := x9) (s := s) (hts ts[i] (List.getElem_mem c)) hn
      obtain ⟨y8, y9, s', k2, h1, h2, e2⟩ := bent_loop hts hn (m - 1) (i + 1) n (some (.str ts[i])) (some (badW ts[i])) s1 (by omega) (by omega) (by omega) (nlO_some lam_str) (nlO_some (lam_bad _))
      refine ⟨y8, y9, s', k1.trans k2, h1, h2, ?_⟩
      rw [for_step (src := .its (ts.map .str)) (e1 := [a0, a1, a2, a3, a4, a5, a6, a7, some (.str ts[i]), x9, a10, a11]) e0 rfl e1]
      exact e2
    · refine ⟨x8, x9, s, Keep.refl s, h8, h9, for_end (src := .its (ts.map .str)) ?_⟩
      show some ((ts.map W.str)[i]?) = some none
      rw [List.getElem?_eq_none (by rw [List.length_map]; omega)]
theorem bad_course {w : W} (h : w ∈ [W.non, .int 5, .str "yes", .lst [.str "yes", .non], .tup [.str "Yes"], .dct, .lst [.bl true], .lst [.str "yes", .lst [.str "no"]]]) (s : S) : callF pg 56 2 [w] s = .ok (.bl false) s ∧ isLam w = false := by
  simp only [List.mem_cons, List.not_mem_nil, or_false] at h
  have it : ∀ {w : W} {ws : List W}, (w = .lst ws ∨ w = .tup ws) → (∀ w ∈ ws, Item w) → ws.length < 50000 → ws.all okW = false → callF pg 56 2 [w] s = .ok (.bl false) s := fun {w ws} h1 h2 h3 h4 => by
    have := course_items 51 (s := s) h1 h2 h3
    rw [h4] at this
    exact this
  have n1 : okS "Yes" = false := by decide +kernel
  rcases h with rfl | rfl | rfl | rfl | rfl | rfl | rfl | rfl
  · exact ⟨course_not 51 rfl rfl, rfl⟩
  · exact ⟨course_not 51 rfl rfl, rfl⟩
  · exact ⟨course_not 51 rfl rfl, rfl⟩
  · refine ⟨it (.inl rfl) ?_ (by simp) (by simp [okW]), rfl⟩
    intro w hw
    rcases List.mem_cons.mp hw with rfl | hw
    · exact .str _
    · rw [List.mem_singleton.mp hw]; exact .non
  · refine ⟨it (.inr rfl) ?_ (by simp) (by simp [okW, n1]), rfl⟩
    intro w hw
    rw [List.mem_singleton.mp hw]; exact .str _
  · exact ⟨course_not 51 rfl rfl, rfl⟩
  · refine ⟨it (.inl rfl) ?_ (by simp) (by simp [okW]), rfl⟩
    intro w hw
    rw [List.mem_singleton.mp hw]; exact .bl _
  · refine ⟨it (.inl rfl) ?_ (by simp) (by simp [okW]), rfl⟩
    intro w hw
    rcases List.mem_cons.mp hw with rfl | hw
    · exact .str _
    · rw [List.mem_singleton.mp hw]; exact .lst _
theorem bad_text {w : W} (h : w ∈ [W.non, .int 5, .tup [.str "yes"], .bl true]) (s : S) : callF pg 57 5 [w] s = .exc 11 [(4, .int 0), (3, .int 0)] s ∧ isLam w = false := by
  simp only [List.mem_cons, List.not_mem_nil, or_false] at h
  have e1 : ∀ {w : W} {d : PySem.PyData}, datS s w = some d → PySem.PyData.eqv d (.str "") = false → cmpW s .eq w (.str "") = some false := fun {w d} h1 h2 => by
    have h3 := eq_of (s := s) (b := .str "") h1 rfl (by rw [Bool.or_eq_true]; exact .inr rfl)
    rw [h2] at h3
    cases w <;> exact h3
  rcases h with rfl | rfl | rfl | rfl
  · exact ⟨read_bad 50 rfl (e1 rfl rfl) rfl, rfl⟩
  · exact ⟨read_bad 50 rfl (e1 rfl rfl) rfl, rfl⟩
  · exact ⟨read_bad 50 rfl (e1 rfl rfl) rfl, rfl⟩
  · exact ⟨read_bad 50 rfl (e1 rfl rfl) rfl, rfl⟩
/-! ### texts that are joined -/
theorem ans_free {x : Str} (h : isAns x) : (32 : Nat) ∉ TL.tl x ∧ (10 : Nat) ∉ TL.tl x := by
  rcases h with rfl | rfl <;> exact ⟨by decide +kernel, by decide +kernel⟩
theorem split_back {ys : List Str} (hne : ys ≠ []) (hy : ∀ y ∈ ys, isAns y) : PySem.Txt.split (PySem.Txt.join " " ys) " " = ys :=
  TL.split_join (s := 32) (S := []) (by decide +kernel) (by decide +kernel) hne fun p hp => (ans_free (hy p hp)).1
theorem join_free : ∀ {ys : List (List Nat)}, (∀ y ∈ ys, (10 : Nat) ∉ y) → (10 : Nat) ∉ TL.joinL [32] ys
  | [], _ => by simp [TL.joinL]
  | [y], h => h y (by simp)
  | x :: y :: r, h => by
    show (10 : Nat) ∉ x ++ ([32] ++ TL.joinL [32] (y :: r))
    simp only [List.mem_append, List.mem_singleton, not_or]
    exact ⟨h x (by simp), by decide, join_free fun z hz => h z (by simp [hz])⟩
theorem nl_free {t : Str} (h : (10 : Nat) ∉ TL.tl t) : nlIn t = false := by
  cases c : nlIn t with
  | false => rfl
  | true =>
    exfalso
    unfold nlIn at c
    rw [PySem.StrLaws.found_iff] at c
    obtain ⟨i, h1, h2⟩ := c
    have e : ("\n" : Str) = ⟨#[10]⟩ := by decide +kernel
    rw [e] at h1 h2
    have z := (PySem.StrLaws.subAt_one t 10 i).mp ⟨h1, h2⟩
    exact h (List.mem_of_getElem? z)
theorem join_nl {ys : List Str} (hy : ∀ y ∈ ys, isAns y) : nlIn (PySem.Txt.join " " ys) = false := by
  refine nl_free ?_
  rw [TL.join_eq, TL.tl_join]
  have e : TL.tl (" " : Str) = [32] := by decide +kernel
  rw [e]
  refine join_free fun y h => ?_
  obtain ⟨x, hx, rfl⟩ := List.mem_map.mp h
  exact (ans_free (hy x hx)).2
theorem join_none : PySem.Txt.join " " [] = "" := by decide +kernel
theorem join_short {xs : List Str} {m n : Nat} (h : ∀ x ∈ xs, x.length ≤ m) (hn : xs.length ≤ n) : (PySem.Txt.join " " xs).length ≤ m * n + n := by
  rw [TL.join_eq]
  have h1 : (PySem.Str.join " " xs).length ≤ (xs.map PySem.Str.length).sum + xs.length * (" " : Str).length := PySem.StrLaws.join_length_le " " xs
  have h2 := sum_len h
  have h3 := Nat.mul_le_mul_left m hn
  rw [sp_len] at h1
  omega
theorem join_some {ys : List Str} (hne : ys ≠ []) (hy : ∀ y ∈ ys, isAns y) : PySem.Txt.join " " ys ≠ "" := fun z => by
  have h := split_back hne hy
  rw [z] at h
  have e : PySem.Txt.split "" " " = [("" : Str)] := by decide +kernel
  rw [e] at h
  rw [← h] at hy
  have := hy "" (by simp)
  rcases this with q | q <;> exact absurd q (by decide)
theorem rc_join {ys : List Str} (hy : ∀ y ∈ ys, isAns y) (s : S) : rcR (PySem.Txt.join " " ys) s = .ok (.tup (ys.map .str)) s := by
  unfold rcR
  by_cases c : ys = []
  · rw [c, join_none, if_pos rfl]; rfl
  · rw [if_neg (join_some c hy)]
    have n := join_nl hy
    have ew : wds (PySem.Txt.join " " ys) = ys := by
      unfold wds
      rw [nl_no n]
      exact split_back c hy
    rw [ew, fb_all hy]
    dsimp only
    rw [if_neg (by rw [n]; simp), split_back c hy]
end Law

set_option linter.all false
set_option autoImplicit false
set_option maxRecDepth 100000
set_option maxHeartbeats 16000000
namespace Law
open Ev
open PySem (Str)

theorem cut_map {xs : List Str} {l h : Option Int} : cutW (xs.map W.str) l h = (cutW xs l h).map .str := by
  unfold cutW
  rw [List.length_map, List.map_take, List.map_drop]
theorem cut_mem {α : Type} {xs : List α} {l h : Option Int} {x : α} (m : x ∈ cutW xs l h) : x ∈ xs := List.mem_of_mem_drop (List.mem_of_mem_take m)
theorem cut_len {α : Type} {xs : List α} {l h : Option Int} : (cutW xs l h).length ≤ xs.length := by
  unfold cutW
  rw [List.length_take, List.length_drop]
  omega
theorem slice_lst {s : S} {ws : List W} {l h : Option Int} : sliceW s (.lst ws) l h = .ok (.lst (cutW ws l h)) s := Eq.trans rfl rfl
theorem slice_frl {s : S} {ws : List W} {l h : Option Int} : sliceW s (.frl ws) l h = .ok (.lst (cutW ws l h)) s := Eq.trans rfl rfl
theorem part_int {s : S} {i : Int} : partW (.int i) s = .ok (some i) s := Eq.trans rfl rfl
theorem add_lst {s : S} {xs ys : List W} (h : xs.length + ys.length ≤ 1000000) : binW s .add (.lst xs) (.lst ys) = .ok (.lst (xs ++ ys)) s := if_pos (show xs.length + ys.length ≤ 16777216 by omega)
theorem add_str {s : S} {x y : Str} (h : x.length + y.length ≤ 1000000) : binW s .add (.str x) (.str y) = .ok (.str (x ++ y)) s := if_pos (show x.length + y.length ≤ 16777216 by omega)
theorem mul_tup {s : S} {xs : List W} {m : Int} (h : m = 1 ∨ m = 500) (hl : xs.length ≤ 1000) : binW s .mul (.tup xs) (.int m) = .ok (.tup (List.replicate m.toNat xs).flatten) s := if_pos (by
  rw [Bool.and_eq_true, Bool.and_eq_true, decide_eq_true_eq, decide_eq_true_eq, decide_eq_true_eq]
  omega)
theorem mul_lst2 {s : S} {w : W} : binW s .mul (.lst [w]) (.int 2) = .ok (.lst [w, w]) s := by
  show (if (decide ((0 : Int) ≤ 2) && decide ((2 : Int) < 2 ^ 62) && decide ([w].length * (2 : Int).toNat ≤ lim)) = true then R.ok (W.lst (List.replicate (2 : Int).toNat [w]).flatten) s else R.fail) = _
  exact if_pos rfl
theorem flat_map {m : Nat} {xs : List Str} : (List.replicate m (xs.map W.str)).flatten = ((List.replicate m xs).flatten).map .str := by
  rw [List.map_flatten, List.map_replicate]
theorem src_tup {s : S} {ws : List W} : srcW s (.tup ws) = some (.its ws) := Eq.trans rfl rfl
def oddL : List W := [.str "", .str "Yes", .str "y", .str "none", .str "1", .str "yes", .str "no", .str "yes\nno", .str " yes", .str "no "]
theorem odd_of {w : W} (h : w ∈ oddL) : ∃ o : Str, w = .str o ∧ o.length ≤ 6 := by
  unfold oddL at h
  simp only [List.mem_cons, List.not_mem_nil, or_false] at h
  rcases h with rfl | rfl | rfl | rfl | rfl | rfl | rfl | rfl | rfl | rfl <;> exact ⟨_, rfl, by decide +kernel⟩
theorem pick_cs {w : W} {s : S} {f : List W → S → R W} : pickW 0 ["course"] [0] [] [] [w] s f = f [w] s := Eq.trans rfl rfl
theorem pick_tx {w : W} {s : S} {f : List W → S → R W} : pickW 0 ["text"] [0] [] [] [w] s f = f [w] s := Eq.trans rfl rfl
theorem ne_end {s : S} : cmpW s .ne (.lst [.tup [.str "part", .str "course"], .tup [.str "text", .int 0, .int 0]]) (.lst [.tup [.str "part", .str "course"], .tup [.str "text", .int 0, .int 0]]) = some false :=
  ne_refl (d := .list [.tuple [.str "part", .str "course"], .tuple [.str "text", .int 0, .int 0]]) rfl rfl (by simp [PySem.PyData.depth, PySem.PyData.depthAll])
theorem turn_run {xs : List W} {tn : Int} {x3 x4 x5 x6 x7 x8 x9 x10 x11 : Option W} {s : S} {n : Nat} (hP : PenAt s 0 n) (hn : n ≤ 1000) (hl : noLam [x8, x9, x10, x11] = true) :
    ∃ y3 y4 y5 y6 y7 y8 y9 y10 y11 s', evB (CK 56) t_law1 [some (.frl xs), some (.ref 0), some (.int tn), x3, x4, x5, x6, x7, x8, x9, x10, x11] s = .ok (.nx [some (.frl xs), some (.ref 0), some (.int tn), y3, y4, y5, y6, y7, y8, y9, y10, y11]) s' ∧ PenAt s' 0 (n + 100) ∧ noLam [y8, y9, y10, y11] = true := by
  obtain ⟨cs, s1, c1, P1, cl, ca⟩ := course_at 53 hP (by omega)
  obtain ⟨mw, s2, c2, P2, mm⟩ := pick_at 54 P1 (by omega) (show [W.int 1, W.int 1, W.int 500] ≠ [] by simp) (by simp)
  obtain ⟨m, rfl, hm⟩ : ∃ m : Int, mw = .int m ∧ (m = 1 ∨ m = 500) := by
    simp only [List.mem_cons, List.not_mem_nil, or_false] at mm
    rcases mm with rfl | rfl | rfl
    · exact ⟨1, rfl, .inl rfl⟩
    · exact ⟨1, rfl, .inl rfl⟩
    · exact ⟨500, rfl, .inr rfl⟩
  have c3 := mul_tup (s := s2) (xs := cs.map W.str) hm (by rw [List.length_map]; omega)
  rw [flat_map] at c3
  generalize hys : (List.replicate m.toNat cs).flatten = ys at c3
  have ya : ∀ y ∈ ys, isAns y := fun y hy => by
    rw [← hys] at hy
    obtain ⟨l, h1, h2⟩ := List.mem_flatten.mp hy
    rw [(List.mem_replicate.mp h1).2] at h2
    exact ca y h2
  have yl : ys.length ≤ 4500 := by
    rw [← hys, List.length_flatten, List.map_replicate, List.sum_replicate_nat]
    rcases hm with rfl | rfl
    · show 1 * cs.length ≤ 4500; omega
    · show 500 * cs.length ≤ 4500; omega
  have c4 := join_run (s := s2) (w := .tup (ys.map .str)) (xs := ys) (y := " ") rfl (by
    have := sum_len (m := 3) fun x h => ans_len (ya x h)
    rw [sp_len]
    show _ ≤ 16777216
    omega)
  generalize hT : PySem.Txt.join " " ys = T at c4
  have Tl : T.length ≤ 3 * 4500 + 4500 := by rw [← hT]; exact join_short (fun x h => ans_len (ya x h)) yl
  have c5 : callF pg 59 4 [.lst (ys.map .str)] s2 = .ok (.str T) s2 := by rw [← hT]; exact ctext_ok 53 (.inl rfl) ya (by omega)
  have c6 : callF pg 59 4 [.tup (ys.map .str)] s2 = .ok (.str T) s2 := by rw [← hT]; exact ctext_ok 53 (.inr rfl) ya (by omega)
  have rd : ∀ s : S, ∃ s', Keep s s' ∧ callF pg 59 5 [.str T] s = .ok (.tup (ys.map .str)) s' := fun s => by
    obtain ⟨s', k, e⟩ := read_run 52 (s := s) (t := T) (by omega)
    refine ⟨s', k, ?_⟩
    rw [← hT] at e ⊢
    exact e.trans (rc_join ya s')
  obtain ⟨s3, k3, c7⟩ := rd s2
  obtain ⟨s4, k4, c8⟩ := rd s3
  obtain ⟨s5, k5, c9⟩ := rd s4
  have P5 := ((P2.keep k3).keep k4).keep k5
  have i5 : isMany (CK 56) s5 (.tup (ys.map .str)) [.b "tuple"] = some true := rfl
  have sk : ∀ {x : Str} {s : S}, smOk s .split (.str x) = true := rfl
  have jk : ∀ {x : Str} {s : S}, smOk s .join (.str x) = true := rfl
  have c10 := split_run (s := s5) (x := T) (y := " ") (by rw [sp_len]; omega) (by show _ ≤ 16777216; omega)
  have wl : ∀ w ∈ PySem.Txt.split T " ", w.length ≤ 3 := fun w hw => by
    by_cases c : ys = []
    · rw [← hT, c, join_none, show PySem.Txt.split "" " " = [("" : Str)] by decide +kernel] at hw
      rw [List.mem_singleton.mp hw]
      decide +kernel
    · rw [← hT, split_back c ya] at hw
      exact ans_len (ya w hw)
  have wn : (PySem.Txt.split T " ").length ≤ 4501 := by
    by_cases c : ys = []
    · rw [← hT, c, join_none, show PySem.Txt.split "" " " = [("" : Str)] by decide +kernel]
      simp
    · rw [← hT, split_back c ya]; omega
  have w0 : PySem.Txt.split T " " ≠ [] := split_ne _ _
  generalize hW' : PySem.Txt.split T " " = ws at c10 wl wn w0
  have wp : 0 < ws.length := List.length_pos_iff.mpr w0
  obtain ⟨d, s6, c11, P6, d0, d1⟩ := draw_at 55 P5 (by omega) (show (0 : Int) < (ws.length : Int) by omega) (by omega)
  obtain ⟨ow, s7, c12, P7, om⟩ := pick_at 54 P6 (by omega) (show oddL ≠ [] by simp [oddL]) (by simp [oddL])
  obtain ⟨o, rfl, ol⟩ := odd_of om
  unfold oddL at c12
  -- the five texts
  have jn : ∀ (l1 h1 l2 h2 : Option Int), ∃ t : Str, t.length ≤ 40000 ∧ binW s7 .add (.lst (cutW (ws.map W.str) l1 h1)) (.lst [.str o]) = .ok (.lst (cutW (ws.map W.str) l1 h1 ++ [.str o])) s7 ∧
      binW s7 .add (.lst (cutW (ws.map W.str) l1 h1 ++ [.str o])) (.lst (cutW (ws.map W.str) l2 h2)) = .ok (.lst ((cutW ws l1 h1 ++ [o] ++ cutW ws l2 h2).map .str)) s7 ∧
      smW s7 .join (.str " ") [.lst ((cutW ws l1 h1 ++ [o] ++ cutW ws l2 h2).map .str)] = .ok (.str t) s7 := fun l1 h1 l2 h2 => by
    have q1 := cut_len (xs := ws) (l := l1) (h := h1)
    have q2 := cut_len (xs := ws) (l := l2) (h := h2)
    have u1 := sum_len (xs := cutW ws l1 h1) (m := 3) fun x hx => wl x (cut_mem hx)
    have u2 := sum_len (xs := cutW ws l2 h2) (m := 3) fun x hx => wl x (cut_mem hx)
    have sm : ((cutW ws l1 h1 ++ [o] ++ cutW ws l2 h2).map PySem.Str.length).sum = ((cutW ws l1 h1).map PySem.Str.length).sum + o.length + ((cutW ws l2 h2).map PySem.Str.length).sum := by
      simp only [List.map_append, List.sum_append, List.map_cons, List.map_nil, List.sum_cons, List.sum_nil, Nat.add_zero]
    have cn : (cutW ws l1 h1 ++ [o] ++ cutW ws l2 h2).length = (cutW ws l1 h1).length + 1 + (cutW ws l2 h2).length := by simp; omega
    have jl : (PySem.Txt.join " " (cutW ws l1 h1 ++ [o] ++ cutW ws l2 h2)).length ≤ 40000 := by
      rw [TL.join_eq]
      have h1' : (PySem.Str.join " " (cutW ws l1 h1 ++ [o] ++ cutW ws l2 h2)).length ≤ ((cutW ws l1 h1 ++ [o] ++ cutW ws l2 h2).map PySem.Str.length).sum + (cutW ws l1 h1 ++ [o] ++ cutW ws l2 h2).length * (" " : Str).length := PySem.StrLaws.join_length_le " " _
      rw [sp_len] at h1'
      omega
    refine ⟨_, jl, add_lst (by rw [cut_map, List.length_map]; simp; omega), ?_, ?_⟩
    · rw [cut_map, cut_map, add_lst (by simp; omega)]
      simp only [List.map_append, List.map_cons, List.map_nil]
    · exact join_run rfl (by
        rw [sp_len]
        show _ ≤ 16777216
        omega)
  obtain ⟨tA, hA, A1, A2, A3⟩ := jn none (some d) (some d) none
  obtain ⟨tB, hB, B1, B2, B3⟩ := jn none (some d) (some (d + 1)) none
  have la := PySem.Str.length_append
  have d1' := add_str (s := s7) (x := T) (y := "\n") (by rw [nl_len]; omega)
  have d2' := add_str (s := s7) (x := "\n") (y := T) (by rw [nl_len]; omega)
  have d3' := add_str (s := s7) (x := " ") (y := T) (by rw [sp_len]; omega)
  have short : ∀ t ∈ [tA, tB, T ++ "\n", "\n" ++ T, " " ++ T], t.length ≤ 40000 := fun t ht => by
    simp only [List.mem_cons, List.not_mem_nil, or_false] at ht
    rcases ht with rfl | rfl | rfl | rfl | rfl
    · exact hA
    · exact hB
    · rw [la, nl_len]; omega
    · rw [la, nl_len]; omega
    · rw [la, sp_len]; omega
  simp only [noLam_cons, noLam_nil, Bool.and_eq_true] at hl
  obtain ⟨h8, h9, h10, h11, _⟩ := hl
  have nl1 : noLam [some (.frl xs), some (.ref 0), some (.int tn), some (.tup (ys.map .str)), some (.str T), some (.lst (ws.map .str)), some (.int d), some (.str o), x10, x11] = true := by
    simp only [noLam_cons, noLam_nil, Bool.and_eq_true]
    exact ⟨rfl, rfl, rfl, rfl, rfl, rfl, rfl, rfl, h10, h11, trivial⟩
  obtain ⟨y8, y9, s8, k8, n8, n9, c13⟩ := bent_loop short nl1 (5 - 0) 0 100000 x8 x9 s7 rfl (by omega) (by omega) h8 h9
  have P8 := P7.keep k8
  obtain ⟨bw, s9, c14, P9, bm⟩ := pick_at 54 P8 (by omega) (show [W.non, .int 5, .str "yes", .lst [.str "yes", .non], .tup [.str "Yes"], .dct, .lst [.bl true], .lst [.str "yes", .lst [.str "no"]]] ≠ [] by simp) (by simp)
  obtain ⟨nw, s10, c15, P10, nm⟩ := pick_at 54 P9 (by omega) (show [W.non, .int 5, .tup [.str "yes"], .bl true] ≠ [] by simp) (by simp)
  have lb := (bad_course bm s10).2
  have ln := (bad_text nm s10).2
  have e1 := ctext_bad 51 lb (bad_course bm s10).1
  have f1 : hearF pg 59 9 (callF pg 57 4 [bw]) s10 = .ok (.tup [.str "part", .str "course"]) s10 := heard_part 55 e1
  have f2 : hearF pg 59 9 (callF pg 57 5 [nw]) s10 = .ok (.tup [.str "text", .int 0, .int 0]) s10 := heard_text 55 (bad_text nm s10).1
  have nl2 : noLam [some (.frl xs), some (.ref 0), some (.int tn), some (.tup (ys.map .str)), some (.str T), some (.lst (ws.map .str)), some (.int d), some (.str o), y8, y9, some bw, some nw] = true := by
    simp only [noLam_cons, noLam_nil, Bool.and_eq_true]
    exact ⟨rfl, rfl, rfl, rfl, rfl, rfl, rfl, rfl, n8, n9, nlO_some lb, nlO_some ln, trivial⟩
  refine ⟨some (.tup (ys.map .str)), some (.str T), some (.lst (ws.map .str)), some (.int d), some (.str o), y8, y9, some bw, some nw, s10, ?_, P10.up (by omega), ?_⟩
  · unfold t_law1
    have frl : isLam (.frl xs) = false := rfl
    have wf : pg.wf = 100000 := rfl
    simp only [List.map_cons, List.map_nil, putP] at c13
    simp only [b_ok, b_exc, l_ok, l_exc, t_nx, t_rt, t_exc, c_ok, o_some, out_rt, out_nx, out_exc, k_call, k_init, k_meth, k_makes, k_wf, k_excf, k_sub, k_ask, k_hear, evB, sx_k_e, sx_k_t, sx_k_n, sx_k_i, sx_k_p, sx_v_e, sx_v_t, sx_v_n, sx_v_i, sx_v_p, sx_gl_e, sx_gl_t, sx_gl_n, sx_gl_i, sx_gl_p, sx_bin_e, sx_bin_t, sx_bin_n, sx_bin_i, sx_bin_p, sx_not_e, sx_not_t, sx_not_n, sx_neg_e, sx_neg_t, sx_neg_n, sx_neg_i, sx_neg_p, sx_one_e, sx_one_t, sx_one_n, sx_and_e, sx_and_t, sx_and_n, sx_or_e, sx_or_t, sx_or_n, sx_ite_e, sx_ite_t, sx_ite_n, sx_ite_i, sx_ite_p, sx_cmp_e, sx_cmp_t, sx_cmp_n, sx_cmp_i, sx_cmp_p, sx_cmp2_e, sx_cmp2_t, sx_cmp2_n, sx_cmp2_i, sx_cmp2_p, sx_call_e, sx_call_t, sx_call_n, sx_call_i, sx_call_p, sx_callk_e, sx_callk_t, sx_callk_n, sx_callk_i, sx_callk_p, sx_mkk_e, sx_mkk_t, sx_mkk_n, sx_mkk_i, sx_mkk_p, sx_methk_e, sx_methk_t, sx_methk_n, sx_methk_i, sx_methk_p, sx_mk_e, sx_mk_t, sx_mk_n, sx_mk_i, sx_mk_p, sx_meth_e, sx_meth_t, sx_meth_n, sx_meth_i, sx_meth_p, sx_attr_e, sx_attr_t, sx_attr_n, sx_attr_i, sx_attr_p, sx_sub_e, sx_sub_t, sx_sub_n, sx_sub_i, sx_sub_p, sx_slice_e, sx_slice_t, sx_slice_n, sx_slice_i, sx_slice_p, sx_tup_e, sx_tup_t, sx_tup_n, sx_tup_i, sx_tup_p, sx_lst_e, sx_lst_t, sx_lst_n, sx_lst_i, sx_lst_p, sx_mls_e, sx_mls_t, sx_mls_n, sx_mls_i, sx_mls_p, sx_comp_e, sx_comp_t, sx_comp_n, sx_comp_i, sx_comp_p, sx_bi_e, sx_bi_t, sx_bi_n, sx_bi_i, sx_bi_p, sx_isin_e, sx_isin_t, sx_isin_n, sx_isin_i, sx_isin_p, sx_sm_e, sx_sm_t, sx_sm_n, sx_sm_i, sx_sm_p, sx_hear_e, sx_hear_t, sx_hear_n, sx_hear_i, sx_hear_p, sx_dct_e, sx_dct_t, sx_dct_n, sx_dct_i, sx_dct_p, sx_rng_i, sx_enum_i, sx_nil_a, sx_nil_n, sx_nil_p, sx_cons_a, asgW, putP, tru_bl, cmp_gt, cmp_lt, cmp_ge, bi_int, bi_intb, bi_abs, bin_add, bin_sub, Option.map_some, Option.getD_some, List.map_cons, List.map_nil, List.replicate_succ, List.replicate_zero, List.cons_append, List.nil_append, List.getElem?_cons_zero, List.getElem?_cons_succ, List.set_cons_zero, List.set_cons_succ, lam_int, lam_ref, lam_lst, lam_tup, lam_str, lam_non, lam_bl, lam_exn, lam_dct, lim_0, lim_1, lim_2, lim_3, lim_4, lim_5, lim_6, lim_7, lim_8, lim_9, lim_10, if_true, if_false, Bool.false_eq_true, ↓reduceIte, Nat.reduceAdd, c1, c2, c3, jk, c4, bi_lst, c5, pick_cs, c6, mul_lst2, ne_two, c7, ne_tups, pick_tx, c8, c9, i5, Bool.not_true, sk, c10, bi_len len_lst, List.length_map, c11, c12, slice_lst, part_int, A1, A2, A3, B1, B2, B3, d1', d2', d3', src_tup, wf, c13, c14, c15, nl2, low_call, lb, ln, f1, f2, ne_end]
  · simp only [noLam_cons, noLam_nil, Bool.and_eq_true]
    exact ⟨n8, n9, nlO_some lb, nlO_some ln, trivial⟩
/-- eight turns -/
theorem turns {xs : List W} : ∀ (m i n : Nat) (x2 x3 x4 x5 x6 x7 x8 x9 x10 x11 : Option W) (s : S) (b : Nat), 8 - i = m → i ≤ 8 → m < n → PenAt s 0 b → b ≤ 100 * i → noLam [x8, x9, x10, x11] = true →
    ∃ y2 y3 y4 y5 y6 y7 y8 y9 y10 y11 s', forL (fun w e s => some (List.set e 2 (some w))) (fun e s => evB (CK 56) t_law1 e s) (.its ((List.range 8).map fun (j : Nat) => W.int (0 + (j : Int)))) n i [some (.frl xs), some (.ref 0), x2, x3, x4, x5, x6, x7, x8, x9, x10, x11] s = .ok (.nx [some (.frl xs), some (.ref 0), y2, y3, y4, y5, y6, y7, y8, y9, y10, y11]) s'
  | m, i, 0, _, _, _, _, _, _, _, _, _, _, _, _, _, _, h, _, _, _ => absurd h (by omega)
  | m, i, n + 1, x2, x3, x4, x5, x6, x7, x8, x9, x10, x11, s, b, hm, hi, hn, hP, hb, hl => by
    by_cases c : i < 8
    · have e0 : (Src.its ((List.range 8).map fun (j : Nat) => W.int (0 + (j : Int)))).at s i = some (some (.int (0 + (i : Int)))) := congrArg some (by rw [List.getElem?_map, List.getElem?_range c]; rfl)
      obtain ⟨y3, y4, y5, y6, y7, y8, y9, y10, y11, s1, e1, P1, l1⟩ := turn_run (xs := xs) (tn := 0 + (i : Int)) (x3 := x3) (x4 := x4) (x5 := x5) (x6 := x6) (x7 := x7) hP (by omega) hl
      obtain ⟨z2, z3, z4, z5, z6, z7, z8, z9, z10, z11, s', e2⟩ := turns (m - 1) (i + 1) n (some (.int (0 + (i : Int)))) y3 y4 y5 y6 y7 y8 y9 y10 y11 s1 (b + 100) (by omega) (by omega) (by omega) P1 (by omega) l1
      refine ⟨z2, z3, z4, z5, z6, z7, z8, z9, z10, z11, s', ?_⟩
      rw [for_step (e1 := [some (.frl xs), some (.ref 0), some (.int (0 + (i : Int))), x3, x4, x5, x6, x7, x8, x9, x10, x11]) e0 rfl e1]
      exact e2
    · refine ⟨x2, x3, x4, x5, x6, x7, x8, x9, x10, x11, s, for_end ?_⟩
      have e8 : i = 8 := by omega
      subst e8
      rfl
theorem pen_run (k : Nat) (ns : List Int) : ∃ cells : List Int, cells.length ≤ 63 ∧ callF pg (k + 4) 6 [.frl (ns.map .int)] ⟨[]⟩ = .ok (.ref 0) ⟨[penO cells 0 0]⟩ := by
  have cm : cutW (ns.map W.int) none (some 63) = (cutW ns none (some 63)).map .int := by
    unfold cutW
    rw [List.length_map, List.map_take, List.map_drop]
  refine ⟨cutW ns none (some 63), ?_, ?_⟩
  · unfold cutW
    rw [List.length_take, List.length_drop]
    have : HT.sIx ns.length ns.length (some 63) ≤ 63 := by
      have h := HT.sIx_nat ns.length ns.length 63
      have h' : HT.sIx ns.length ns.length (some 63) = min 63 ns.length := h
      rw [h']; omega
    omega
  · have bl : ∀ {ws : List W} {s : S}, biW s .list [.lst ws] = .ok (.lst ws) s := Eq.trans rfl rfl
    have frl : ∀ {ws : List W}, isLam (.frl ws) = false := rfl
    rw [run_at (d := d6) rfl k _ _ rfl]
    unfold d6 t6
    simp only [b_ok, b_exc, l_ok, l_exc, t_nx, t_rt, t_exc, c_ok, o_some, out_rt, out_nx, out_exc, k_call, k_init, k_meth, k_makes, k_wf, k_excf, k_sub, k_ask, k_hear, evB, sx_k_e, sx_k_t, sx_k_n, sx_k_i, sx_k_p, sx_v_e, sx_v_t, sx_v_n, sx_v_i, sx_v_p, sx_gl_e, sx_gl_t, sx_gl_n, sx_gl_i, sx_gl_p, sx_bin_e, sx_bin_t, sx_bin_n, sx_bin_i, sx_bin_p, sx_not_e, sx_not_t, sx_not_n, sx_neg_e, sx_neg_t, sx_neg_n, sx_neg_i, sx_neg_p, sx_one_e, sx_one_t, sx_one_n, sx_and_e, sx_and_t, sx_and_n, sx_or_e, sx_or_t, sx_or_n, sx_ite_e, sx_ite_t, sx_ite_n, sx_ite_i, sx_ite_p, sx_cmp_e, sx_cmp_t, sx_cmp_n, sx_cmp_i, sx_cmp_p, sx_cmp2_e, sx_cmp2_t, sx_cmp2_n, sx_cmp2_i, sx_cmp2_p, sx_call_e, sx_call_t, sx_call_n, sx_call_i, sx_call_p, sx_callk_e, sx_callk_t, sx_callk_n, sx_callk_i, sx_callk_p, sx_mkk_e, sx_mkk_t, sx_mkk_n, sx_mkk_i, sx_mkk_p, sx_methk_e, sx_methk_t, sx_methk_n, sx_methk_i, sx_methk_p, sx_mk_e, sx_mk_t, sx_mk_n, sx_mk_i, sx_mk_p, sx_meth_e, sx_meth_t, sx_meth_n, sx_meth_i, sx_meth_p, sx_attr_e, sx_attr_t, sx_attr_n, sx_attr_i, sx_attr_p, sx_sub_e, sx_sub_t, sx_sub_n, sx_sub_i, sx_sub_p, sx_slice_e, sx_slice_t, sx_slice_n, sx_slice_i, sx_slice_p, sx_tup_e, sx_tup_t, sx_tup_n, sx_tup_i, sx_tup_p, sx_lst_e, sx_lst_t, sx_lst_n, sx_lst_i, sx_lst_p, sx_mls_e, sx_mls_t, sx_mls_n, sx_mls_i, sx_mls_p, sx_comp_e, sx_comp_t, sx_comp_n, sx_comp_i, sx_comp_p, sx_bi_e, sx_bi_t, sx_bi_n, sx_bi_i, sx_bi_p, sx_isin_e, sx_isin_t, sx_isin_n, sx_isin_i, sx_isin_p, sx_sm_e, sx_sm_t, sx_sm_n, sx_sm_i, sx_sm_p, sx_hear_e, sx_hear_t, sx_hear_n, sx_hear_i, sx_hear_p, sx_dct_e, sx_dct_t, sx_dct_n, sx_dct_i, sx_dct_p, sx_rng_i, sx_enum_i, sx_nil_a, sx_nil_n, sx_nil_p, sx_cons_a, asgW, putP, tru_bl, cmp_gt, cmp_lt, cmp_ge, bi_int, bi_intb, bi_abs, bin_add, bin_sub, Option.map_some, Option.getD_some, List.map_cons, List.map_nil, List.replicate_succ, List.replicate_zero, List.cons_append, List.nil_append, List.getElem?_cons_zero, List.getElem?_cons_succ, List.set_cons_zero, List.set_cons_succ, lam_int, lam_ref, lam_lst, lam_tup, lam_str, lam_non, lam_bl, lam_exn, lam_dct, lim_0, lim_1, lim_2, lim_3, lim_4, lim_5, lim_6, lim_7, lim_8, lim_9, lim_10, if_true, if_false, Bool.false_eq_true, ↓reduceIte, Nat.reduceAdd, frl, part_int, slice_frl, cm, bl]
    rfl
theorem law81 (ns : List Int) : ∃ s1, callF pg 60 12 [.frl (ns.map .int)] ⟨[]⟩ = .ok (.bl true) s1 := by
  obtain ⟨cells, hc, e1⟩ := pen_run 55 ns
  have P0 : PenAt ⟨[penO cells 0 0]⟩ 0 0 := ⟨cells, 0, 0, rfl, hc, by omega, by simp, by omega⟩
  obtain ⟨y2, y3, y4, y5, y6, y7, y8, y9, y10, y11, s1, e2⟩ := turns (xs := ns.map .int) (8 - 0) 0 100000 none none none none none none none none none none _ 0 rfl (by omega) (by omega) P0 (by omega) rfl
  have e3 : callF pg 59 4 [.lst []] s1 = .ok (.str "") s1 := by
    have := ctext_ok 53 (s := s1) (w := .lst []) (xs := []) (.inl rfl) (fun _ h => absurd h (by simp)) (by simp)
    rw [join_none] at this
    exact this
  obtain ⟨s2, k2, e4⟩ := read_run 52 (s := s1) (t := "") (by decide +kernel)
  have e5 : callF pg 59 5 [.str ""] s1 = .ok (.tup []) s2 := e4
  have e6 : cmpW s2 .eq (.tup []) (.tup []) = some true := by
    show eqW s2 (.tup []) (.tup []) = some true
    exact eq_refl (s := s2) (w := .tup []) (d := .tuple []) rfl rfl (by decide)
  have e7 : cmpW s1 .eq (.str "") (.str "") = some true := by rw [eq_str, beq_self_eq_true]
  have frl : ∀ {ws : List W}, isLam (.frl ws) = false := rfl
  have rg := rng1 (s := ⟨[penO cells 0 0]⟩) (d := 8) (by decide) (by decide)
  have wf : pg.wf = 100000 := rfl
  refine ⟨s2, ?_⟩
  rw [run_at (d := d12) rfl 56 _ _ rfl]
  unfold d12 t12
  have rt : (8 : Int).toNat = 8 := rfl
  simp only [b_ok, b_exc, l_ok, l_exc, t_nx, t_rt, t_exc, c_ok, o_some, out_rt, out_nx, out_exc, k_call, k_init, k_meth, k_makes, k_wf, k_excf, k_sub, k_ask, k_hear, evB, sx_k_e, sx_k_t, sx_k_n, sx_k_i, sx_k_p, sx_v_e, sx_v_t, sx_v_n, sx_v_i, sx_v_p, sx_gl_e, sx_gl_t, sx_gl_n, sx_gl_i, sx_gl_p, sx_bin_e, sx_bin_t, sx_bin_n, sx_bin_i, sx_bin_p, sx_not_e, sx_not_t, sx_not_n, sx_neg_e, sx_neg_t, sx_neg_n, sx_neg_i, sx_neg_p, sx_one_e, sx_one_t, sx_one_n, sx_and_e, sx_and_t, sx_and_n, sx_or_e, sx_or_t, sx_or_n, sx_ite_e, sx_ite_t, sx_ite_n, sx_ite_i, sx_ite_p, sx_cmp_e, sx_cmp_t, sx_cmp_n, sx_cmp_i, sx_cmp_p, sx_cmp2_e, sx_cmp2_t, sx_cmp2_n, sx_cmp2_i, sx_cmp2_p, sx_call_e, sx_call_t, sx_call_n, sx_call_i, sx_call_p, sx_callk_e, sx_callk_t, sx_callk_n, sx_callk_i, sx_callk_p, sx_mkk_e, sx_mkk_t, sx_mkk_n, sx_mkk_i, sx_mkk_p, sx_methk_e, sx_methk_t, sx_methk_n, sx_methk_i, sx_methk_p, sx_mk_e, sx_mk_t, sx_mk_n, sx_mk_i, sx_mk_p, sx_meth_e, sx_meth_t, sx_meth_n, sx_meth_i, sx_meth_p, sx_attr_e, sx_attr_t, sx_attr_n, sx_attr_i, sx_attr_p, sx_sub_e, sx_sub_t, sx_sub_n, sx_sub_i, sx_sub_p, sx_slice_e, sx_slice_t, sx_slice_n, sx_slice_i, sx_slice_p, sx_tup_e, sx_tup_t, sx_tup_n, sx_tup_i, sx_tup_p, sx_lst_e, sx_lst_t, sx_lst_n, sx_lst_i, sx_lst_p, sx_mls_e, sx_mls_t, sx_mls_n, sx_mls_i, sx_mls_p, sx_comp_e, sx_comp_t, sx_comp_n, sx_comp_i, sx_comp_p, sx_bi_e, sx_bi_t, sx_bi_n, sx_bi_i, sx_bi_p, sx_isin_e, sx_isin_t, sx_isin_n, sx_isin_i, sx_isin_p, sx_sm_e, sx_sm_t, sx_sm_n, sx_sm_i, sx_sm_p, sx_hear_e, sx_hear_t, sx_hear_n, sx_hear_i, sx_hear_p, sx_dct_e, sx_dct_t, sx_dct_n, sx_dct_i, sx_dct_p, sx_rng_i, sx_enum_i, sx_nil_a, sx_nil_n, sx_nil_p, sx_cons_a, asgW, putP, tru_bl, cmp_gt, cmp_lt, cmp_ge, bi_int, bi_intb, bi_abs, bin_add, bin_sub, Option.map_some, Option.getD_some, List.map_cons, List.map_nil, List.replicate_succ, List.replicate_zero, List.cons_append, List.nil_append, List.getElem?_cons_zero, List.getElem?_cons_succ, List.set_cons_zero, List.set_cons_succ, lam_int, lam_ref, lam_lst, lam_tup, lam_str, lam_non, lam_bl, lam_exn, lam_dct, lim_0, lim_1, lim_2, lim_3, lim_4, lim_5, lim_6, lim_7, lim_8, lim_9, lim_10, if_true, if_false, Bool.false_eq_true, ↓reduceIte, Nat.reduceAdd, frl, e1, rg, rt, wf, e2, e3, e7, e5, e6]
end Law

set_option Elab.async false
set_option linter.all false
set_option autoImplicit false
set_option maxRecDepth 100000
set_option maxHeartbeats 0
namespace Law
open PySem PySem.Spec PyProof.Rows L2 Ev
abbrev R : PySem.W.OpenRow := PySem.W.OpenLaw.row PySem.Challenge.rw_samecourse_k81_texts_of_courses
def top (i : Nat) : Stmt := PySem.Challenge.pw_samecourse_k81_texts_of_courses.main.body.getD i (.Pass ⟨0, 0, 0, 0⟩)
def inCls (st : Stmt) (j : Nat) : Stmt := match st with
  | .ClassDef _ _ _ b _ _ _ _ _ _ _ => b.getD j (.Pass ⟨0, 0, 0, 0⟩)
  | st => st
def loose : List PySem.Str := (["_wall", "CodeError", "BadInput", "Refused", "BadName", "BadCode", "BadStep", "BadCourse", "BadTable", "BadValue", "BadPaper", "BadLine", "BadText", "Unlike", "Nothing", "TooMany", "ANSWERS", "is_listed", "is_course", "Line", "Lines", "lines_of", "course_text", "read_course", "_law_pen", "_law_draw", "_law_pick", "_law_heard", "_law_course", "_law_bad"] : List PySem.Str)
def q0 : He.DefD := ⟨(("_wall" : Str), (none : Option Str)), "_wall", "_wall", L2.defArgs (top 0), L2.defBody (top 0), L2.defScope (top 0), [], []⟩
def q1 : He.DefD := ⟨(("is_listed" : Str), (none : Option Str)), "is_listed", "is_listed", L2.defArgs (top 19), L2.defBody (top 19), L2.defScope (top 19), [], []⟩
def q2 : He.DefD := ⟨(("is_course" : Str), (none : Option Str)), "is_course", "is_course", L2.defArgs (top 21), L2.defBody (top 21), L2.defScope (top 21), [], []⟩
def q3 : He.DefD := ⟨(("lines_of" : Str), (none : Option Str)), "lines_of", "lines_of", L2.defArgs (top 25), L2.defBody (top 25), L2.defScope (top 25), [], []⟩
def q4 : He.DefD := ⟨(("course_text" : Str), (none : Option Str)), "course_text", "course_text", L2.defArgs (top 27), L2.defBody (top 27), L2.defScope (top 27), [], []⟩
def q5 : He.DefD := ⟨(("read_course" : Str), (none : Option Str)), "read_course", "read_course", L2.defArgs (top 28), L2.defBody (top 28), L2.defScope (top 28), [], []⟩
def q6 : He.DefD := ⟨(("_law_pen" : Str), (none : Option Str)), "_law_pen", "_law_pen", L2.defArgs (top 30), L2.defBody (top 30), L2.defScope (top 30), [], []⟩
def q7 : He.DefD := ⟨(("_law_draw" : Str), (none : Option Str)), "_law_draw", "_law_draw", L2.defArgs (top 31), L2.defBody (top 31), L2.defScope (top 31), [], []⟩
def q8 : He.DefD := ⟨(("_law_pick" : Str), (none : Option Str)), "_law_pick", "_law_pick", L2.defArgs (top 32), L2.defBody (top 32), L2.defScope (top 32), [], []⟩
def q9 : He.DefD := ⟨(("_law_heard" : Str), (none : Option Str)), "_law_heard", "_law_heard", L2.defArgs (top 33), L2.defBody (top 33), L2.defScope (top 33), [], []⟩
def q10 : He.DefD := ⟨(("_law_course" : Str), (none : Option Str)), "_law_course", "_law_course", L2.defArgs (top 34), L2.defBody (top 34), L2.defScope (top 34), [], []⟩
def q11 : He.DefD := ⟨(("_law_bad" : Str), (none : Option Str)), "_law_bad", "_law_bad", L2.defArgs (top 35), L2.defBody (top 35), L2.defScope (top 35), [], []⟩
def q12 : He.DefD := ⟨(("law" : Str), (none : Option Str)), "law", "law", L2.defArgs (top 36), L2.defBody (top 36), L2.defScope (top 36), [], []⟩
def q13 : He.DefD := ⟨(("Line" : Str), (some ("__init__" : Str))), "__init__", "Line.__init__", L2.defArgs (inCls (top 23) 0), L2.defBody (inCls (top 23) 0), L2.defScope (inCls (top 23) 0), [], []⟩
def q14 : He.DefD := ⟨(("Line" : Str), (some ("is_read" : Str))), "is_read", "Line.is_read", L2.defArgs (inCls (top 23) 1), L2.defBody (inCls (top 23) 1), L2.defScope (inCls (top 23) 1), [], []⟩
def q15 : He.DefD := ⟨(("Line" : Str), (some ("is_next" : Str))), "is_next", "Line.is_next", L2.defArgs (inCls (top 23) 2), L2.defBody (inCls (top 23) 2), L2.defScope (inCls (top 23) 2), [], []⟩
def q16 : He.DefD := ⟨(("Line" : Str), (some ("refuse" : Str))), "refuse", "Line.refuse", L2.defArgs (inCls (top 23) 3), L2.defBody (inCls (top 23) 3), L2.defScope (inCls (top 23) 3), [], []⟩
def q17 : He.DefD := ⟨(("Line" : Str), (some ("take_word" : Str))), "take_word", "Line.take_word", L2.defArgs (inCls (top 23) 4), L2.defBody (inCls (top 23) 4), L2.defScope (inCls (top 23) 4), [], []⟩
def q18 : He.DefD := ⟨(("Line" : Str), (some ("need_word" : Str))), "need_word", "Line.need_word", L2.defArgs (inCls (top 23) 5), L2.defBody (inCls (top 23) 5), L2.defScope (inCls (top 23) 5), [], []⟩
def q19 : He.DefD := ⟨(("Line" : Str), (some ("need_one_of" : Str))), "need_one_of", "Line.need_one_of", L2.defArgs (inCls (top 23) 6), L2.defBody (inCls (top 23) 6), L2.defScope (inCls (top 23) 6), [], []⟩
def q20 : He.DefD := ⟨(("Line" : Str), (some ("need_name" : Str))), "need_name", "Line.need_name", L2.defArgs (inCls (top 23) 7), L2.defBody (inCls (top 23) 7), L2.defScope (inCls (top 23) 7), [.adr (He.dflAt (("Line" : Str), some "need_name") 0)], []⟩
def q21 : He.DefD := ⟨(("Line" : Str), (some ("need_integer" : Str))), "need_integer", "Line.need_integer", L2.defArgs (inCls (top 23) 8), L2.defBody (inCls (top 23) 8), L2.defScope (inCls (top 23) 8), [], []⟩
def q22 : He.DefD := ⟨(("Line" : Str), (some ("names_to" : Str))), "names_to", "Line.names_to", L2.defArgs (inCls (top 23) 9), L2.defBody (inCls (top 23) 9), L2.defScope (inCls (top 23) 9), [], []⟩
def q23 : He.DefD := ⟨(("Line" : Str), (some ("unlike_to" : Str))), "unlike_to", "Line.unlike_to", L2.defArgs (inCls (top 23) 10), L2.defBody (inCls (top 23) 10), L2.defScope (inCls (top 23) 10), [.adr (He.dflAt (("Line" : Str), some "unlike_to") 0)], []⟩
def q24 : He.DefD := ⟨(("Line" : Str), (some ("need_no_word" : Str))), "need_no_word", "Line.need_no_word", L2.defArgs (inCls (top 23) 11), L2.defBody (inCls (top 23) 11), L2.defScope (inCls (top 23) 11), [], []⟩
def q25 : He.DefD := ⟨(("Lines" : Str), (some ("__init__" : Str))), "__init__", "Lines.__init__", L2.defArgs (inCls (top 24) 0), L2.defBody (inCls (top 24) 0), L2.defScope (inCls (top 24) 0), [.int 0], []⟩
def q26 : He.DefD := ⟨(("Lines" : Str), (some ("some_lines" : Str))), "some_lines", "Lines.some_lines", L2.defArgs (inCls (top 24) 1), L2.defBody (inCls (top 24) 1), L2.defScope (inCls (top 24) 1), [], []⟩
def q27 : He.DefD := ⟨(("Lines" : Str), (some ("is_read" : Str))), "is_read", "Lines.is_read", L2.defArgs (inCls (top 24) 2), L2.defBody (inCls (top 24) 2), L2.defScope (inCls (top 24) 2), [], []⟩
def q28 : He.DefD := ⟨(("Lines" : Str), (some ("how_many" : Str))), "how_many", "Lines.how_many", L2.defArgs (inCls (top 24) 3), L2.defBody (inCls (top 24) 3), L2.defScope (inCls (top 24) 3), [], []⟩
def q29 : He.DefD := ⟨(("Lines" : Str), (some ("refuse" : Str))), "refuse", "Lines.refuse", L2.defArgs (inCls (top 24) 4), L2.defBody (inCls (top 24) 4), L2.defScope (inCls (top 24) 4), [], []⟩
def q30 : He.DefD := ⟨(("Lines" : Str), (some ("word_ahead" : Str))), "word_ahead", "Lines.word_ahead", L2.defArgs (inCls (top 24) 5), L2.defBody (inCls (top 24) 5), L2.defScope (inCls (top 24) 5), [], []⟩
def q31 : He.DefD := ⟨(("Lines" : Str), (some ("take_line" : Str))), "take_line", "Lines.take_line", L2.defArgs (inCls (top 24) 6), L2.defBody (inCls (top 24) 6), L2.defScope (inCls (top 24) 6), [], []⟩
def q32 : He.DefD := ⟨(("Lines" : Str), (some ("need_no_line" : Str))), "need_no_line", "Lines.need_no_line", L2.defArgs (inCls (top 24) 7), L2.defBody (inCls (top 24) 7), L2.defScope (inCls (top 24) 7), [], []⟩
def x6 : He.DefD := ⟨(("BadCourse" : Str), (some ("__init__" : Str))), "__init__", "BadCourse.__init__", L2.defArgs (inCls (top 8) 0), L2.defBody (inCls (top 8) 0), L2.defScope (inCls (top 8) 0), [], []⟩
def x11 : He.DefD := ⟨(("BadText" : Str), (some ("__init__" : Str))), "__init__", "BadText.__init__", L2.defArgs (inCls (top 13) 0), L2.defBody (inCls (top 13) 0), L2.defScope (inCls (top 13) 0), [], []⟩
def tab : Tab where
  gls := [("ANSWERS", .tup [.str "yes", .str "no"])]
  bns := ["abs", "all", "enumerate", "int", "isinstance", "len", "list", "range", "repr", "str", "tuple"]
  fns := [("_law_bad", 11), ("_law_course", 10), ("_law_draw", 7), ("_law_pen", 6), ("_law_pick", 8), ("_wall", 0), ("course_text", 4), ("is_course", 2), ("is_listed", 1), ("law", 12), ("lines_of", 3), ("read_course", 5)]
  fks := [("read_course", 5, ⟨0, ["text"], [0], []⟩), ("course_text", 4, ⟨0, ["course"], [0], []⟩)]
  mks := [("Line", 15)]
  mkk := [("Lines", 16, ⟨1, [], [0, 1], [.int 0]⟩)]
  mts := ["is_read", "need_one_of", "refuse", "take_line", "take_word"]
  mtk := []
  tys := [("BadCode", 4), ("BadCourse", 6), ("BadLine", 10), ("BadName", 3), ("BadPaper", 9), ("BadStep", 5), ("BadTable", 7), ("BadText", 11), ("BadValue", 8), ("CodeError", 0), ("Nothing", 13), ("TooMany", 14), ("Unlike", 12)]
  rss := [("BadCourse", 6), ("BadText", 11)]
  fld := ["value", "part", "at", "word", "line", "what", "most", "line_at", "word_list", "spot", "line_list", "ahead"]
  hrs := [("_law_heard", 9)]
  cts := [0]
  lam := false
def desc : Desc where
  dd := [q0, q1, q2, q3, q4, q5, q6, q7, q8, q9, q10, q11, q12, q13, q14, q15, q16, q17, q18, q19, q20, q21, q22, q23, q24, q25, q26, q27, q28, q29, q30, q31, q32]
  df := [d0, d1, d2, d3, d4, d5, d6, d7, d8, d9, d10, d11, d12, d13, d14, d15, d16, d17, d18, d19, d20, d21, d22, d23, d24, d25, d26, d27, d28, d29, d30, d31, d32]
  N := [(["k"] : List Str), (["value"] : List Str), (["value", "one"] : List Str), (["text", "at", "line"] : List Str), (["course"] : List Str), (["text", "lines", "line", "found"] : List Str), (["script"] : List Str), (["pen", "many", "digit", "at", "cell", "great", "mixed"] : List Str), (["pen", "some"] : List Str), (["ask", "found", "caught", "error"] : List Str), (["pen", "most", "at"] : List Str), (["text", "words", "at", "word"] : List Str), (["script", "pen", "turn", "course", "text", "words", "at", "odd", "bent", "due", "bad", "none"] : List Str), (["self", "line_at", "word_list"] : List Str), (["self"] : List Str), (["self", "word"] : List Str), (["self"] : List Str), (["self"] : List Str), (["self", "word"] : List Str), (["self", "words"] : List Str), (["self", "known"] : List Str), (["self", "least", "most"] : List Str), (["self", "sign", "most"] : List Str), (["self", "sign", "most", "known"] : List Str), (["self"] : List Str), (["self", "line_list", "ahead"] : List Str), (["self", "many"] : List Str), (["self"] : List Str), (["self"] : List Str), (["self"] : List Str), (["self"] : List Str), (["self"] : List Str), (["self"] : List Str)]
  ps := [(["k"] : List Str), (["value"] : List Str), (["value"] : List Str), (["text"] : List Str), (["course"] : List Str), (["text"] : List Str), (["script"] : List Str), (["pen", "many"] : List Str), (["pen", "some"] : List Str), (["ask"] : List Str), (["pen", "most"] : List Str), (["text"] : List Str), (["script"] : List Str), (["self", "line_at", "word_list"] : List Str), (["self"] : List Str), (["self", "word"] : List Str), (["self"] : List Str), (["self"] : List Str), (["self", "word"] : List Str), (["self", "words"] : List Str), (["self", "known"] : List Str), (["self", "least", "most"] : List Str), (["self", "sign", "most"] : List Str), (["self", "sign", "most", "known"] : List Str), (["self"] : List Str), (["self", "line_list", "ahead"] : List Str), (["self", "many"] : List Str), (["self"] : List Str), (["self"] : List Str), (["self"] : List Str), (["self"] : List Str), (["self"] : List Str), (["self"] : List Str)]
  cn := ["CodeError", "BadInput", "Refused", "BadName", "BadCode", "BadStep", "BadCourse", "BadTable", "BadValue", "BadPaper", "BadLine", "BadText", "Unlike", "Nothing", "TooMany", "Line", "Lines"]
  mkO := [none, none, none, none, none, none, none, none, none, none, none, none, none, none, none, some 13, some 25]
  mt := [(15, "__init__", 13), (15, "is_read", 14), (15, "is_next", 15), (15, "refuse", 16), (15, "take_word", 17), (15, "need_word", 18), (15, "need_one_of", 19), (15, "need_name", 20), (15, "need_integer", 21), (15, "names_to", 22), (15, "unlike_to", 23), (15, "need_no_word", 24), (16, "__init__", 25), (16, "some_lines", 26), (16, "is_read", 27), (16, "how_many", 28), (16, "refuse", 29), (16, "word_ahead", 30), (16, "take_line", 31), (16, "need_no_line", 32)]
  exO := [none, none, none, none, none, none, some [1], none, none, none, none, some [4, 3], none, none, none, none, none]
  subL := [(6, 4, false), (6, 6, true), (6, 10, false), (6, 3, false), (6, 9, false), (6, 5, false), (6, 7, false), (6, 11, false), (6, 8, false), (6, 0, true), (6, 13, false), (6, 14, false), (6, 12, false), (11, 4, false), (11, 6, false), (11, 10, false), (11, 3, false), (11, 9, false), (11, 5, false), (11, 7, false), (11, 11, true), (11, 8, false), (11, 0, true), (11, 13, false), (11, 14, false), (11, 12, false)]
  insL := [(15, 4, false), (15, 6, false), (15, 10, false), (15, 3, false), (15, 9, false), (15, 5, false), (15, 7, false), (15, 11, false), (15, 8, false), (15, 13, false), (15, 14, false), (15, 12, false), (16, 4, false), (16, 6, false), (16, 10, false), (16, 3, false), (16, 9, false), (16, 5, false), (16, 7, false), (16, 11, false), (16, 8, false), (16, 13, false), (16, 14, false), (16, 12, false)]
  ownL := [3, 4, 5, 6, 7, 8, 9, 10, 11, 12, 13, 14]
  tab := tab
  wf := 100000
  pl := [0, 1, 2, 3, 4, 5, 6, 7, 8, 9, 10, 11, 12, 13, 14, 16, 17, 19, 27, 29, 31]
  kl := [(25, 1, ⟨1, [], [0, 1], [.int 0]⟩), (5, 0, ⟨0, ["text"], [0], []⟩), (4, 0, ⟨0, ["course"], [0], []⟩)]
  xi := [(6, x6, "self", [("part", "part")]), (11, x11, "self", [("line", "line"), ("word", "word")])]
theorem plOk : PlOk desc desc.pl :=
 ⟨⟨q0, (["k"] : List Str), rfl, rfl, rfl, rfl, fun _ _ _ _ _ _ us hl => match us, hl with | [_], _ => rfl⟩, 
 ⟨⟨q1, (["value"] : List Str), rfl, rfl, rfl, rfl, fun _ _ _ _ _ _ us hl => match us, hl with | [_], _ => rfl⟩, 
 ⟨⟨q2, (["value"] : List Str), rfl, rfl, rfl, rfl, fun _ _ _ _ _ _ us hl => match us, hl with | [_], _ => rfl⟩, 
 ⟨⟨q3, (["text"] : List Str), rfl, rfl, rfl, rfl, fun _ _ _ _ _ _ us hl => match us, hl with | [_], _ => rfl⟩, 
 ⟨⟨q4, (["course"] : List Str), rfl, rfl, rfl, rfl, fun _ _ _ _ _ _ us hl => match us, hl with | [_], _ => rfl⟩, 
 ⟨⟨q5, (["text"] : List Str), rfl, rfl, rfl, rfl, fun _ _ _ _ _ _ us hl => match us, hl with | [_], _ => rfl⟩, 
 ⟨⟨q6, (["script"] : List Str), rfl, rfl, rfl, rfl, fun _ _ _ _ _ _ us hl => match us, hl with | [_], _ => rfl⟩, 
 ⟨⟨q7, (["pen", "many"] : List Str), rfl, rfl, rfl, rfl, fun _ _ _ _ _ _ us hl => match us, hl with | [_, _], _ => rfl⟩, 
 ⟨⟨q8, (["pen", "some"] : List Str), rfl, rfl, rfl, rfl, fun _ _ _ _ _ _ us hl => match us, hl with | [_, _], _ => rfl⟩, 
 ⟨⟨q9, (["ask"] : List Str), rfl, rfl, rfl, rfl, fun _ _ _ _ _ _ us hl => match us, hl with | [_], _ => rfl⟩, 
 ⟨⟨q10, (["pen", "most"] : List Str), rfl, rfl, rfl, rfl, fun _ _ _ _ _ _ us hl => match us, hl with | [_, _], _ => rfl⟩, 
 ⟨⟨q11, (["text"] : List Str), rfl, rfl, rfl, rfl, fun _ _ _ _ _ _ us hl => match us, hl with | [_], _ => rfl⟩, 
 ⟨⟨q12, (["script"] : List Str), rfl, rfl, rfl, rfl, fun _ _ _ _ _ _ us hl => match us, hl with | [_], _ => rfl⟩, 
 ⟨⟨q13, (["self", "line_at", "word_list"] : List Str), rfl, rfl, rfl, rfl, fun _ _ _ _ _ _ us hl => match us, hl with | [_, _, _], _ => rfl⟩, 
 ⟨⟨q14, (["self"] : List Str), rfl, rfl, rfl, rfl, fun _ _ _ _ _ _ us hl => match us, hl with | [_], _ => rfl⟩, 
 ⟨⟨q16, (["self"] : List Str), rfl, rfl, rfl, rfl, fun _ _ _ _ _ _ us hl => match us, hl with | [_], _ => rfl⟩, 
 ⟨⟨q17, (["self"] : List Str), rfl, rfl, rfl, rfl, fun _ _ _ _ _ _ us hl => match us, hl with | [_], _ => rfl⟩, 
 ⟨⟨q19, (["self", "words"] : List Str), rfl, rfl, rfl, rfl, fun _ _ _ _ _ _ us hl => match us, hl with | [_, _], _ => rfl⟩, 
 ⟨⟨q27, (["self"] : List Str), rfl, rfl, rfl, rfl, fun _ _ _ _ _ _ us hl => match us, hl with | [_], _ => rfl⟩, 
 ⟨⟨q29, (["self"] : List Str), rfl, rfl, rfl, rfl, fun _ _ _ _ _ _ us hl => match us, hl with | [_], _ => rfl⟩, 
 ⟨⟨q31, (["self"] : List Str), rfl, rfl, rfl, rfl, fun _ _ _ _ _ _ us hl => match us, hl with | [_], _ => rfl⟩, trivial⟩⟩⟩⟩⟩⟩⟩⟩⟩⟩⟩⟩⟩⟩⟩⟩⟩⟩⟩⟩⟩
theorem klOk : KlOk desc desc.kl :=
 ⟨⟨q25, (["self", "line_list", "ahead"] : List Str), rfl, rfl, Or.inr ⟨List.cons_ne_nil _ _, fun _ _ _ _ _ _ _ fs us ws ds h1 h2 h3 h4 => match fs, us, ws, ds, h1, h2, h3, h4 with | [_], [_], [], [_], _, _, _, _ => ⟨_, _, rfl, rfl, rfl, rfl⟩⟩⟩, 
 ⟨⟨q5, (["text"] : List Str), rfl, rfl, Or.inl ⟨rfl, fun _ _ _ _ _ _ fs us ws h1 h2 h3 => match fs, us, ws, h1, h2, h3 with | [], [], [_], _, _, _ => ⟨_, rfl, rfl, rfl⟩⟩⟩, 
 ⟨⟨q4, (["course"] : List Str), rfl, rfl, Or.inl ⟨rfl, fun _ _ _ _ _ _ fs us ws h1 h2 h3 => match fs, us, ws, h1, h2, h3 with | [], [], [_], _, _, _ => ⟨_, rfl, rfl, rfl⟩⟩⟩, trivial⟩⟩⟩
theorem b0 : BodyOk tab q0 d0 (["k"] : List Str) (["k"] : List Str) = true := by decide +kernel
theorem b1 : BodyOk tab q1 d1 (["value"] : List Str) (["value"] : List Str) = true := by decide +kernel
theorem b2 : BodyOk tab q2 d2 (["value", "one"] : List Str) (["value"] : List Str) = true := by decide +kernel
theorem b3 : BodyOk tab q3 d3 (["text", "at", "line"] : List Str) (["text"] : List Str) = true := by decide +kernel
theorem b4 : BodyOk tab q4 d4 (["course"] : List Str) (["course"] : List Str) = true := by decide +kernel
theorem b5 : BodyOk tab q5 d5 (["text", "lines", "line", "found"] : List Str) (["text"] : List Str) = true := by decide +kernel
theorem b6 : BodyOk tab q6 d6 (["script"] : List Str) (["script"] : List Str) = true := by decide +kernel
theorem b7 : BodyOk tab q7 d7 (["pen", "many", "digit", "at", "cell", "great", "mixed"] : List Str) (["pen", "many"] : List Str) = true := by decide +kernel
theorem b8 : BodyOk tab q8 d8 (["pen", "some"] : List Str) (["pen", "some"] : List Str) = true := by decide +kernel
theorem b9 : BodyOk tab q9 d9 (["ask", "found", "caught", "error"] : List Str) (["ask"] : List Str) = true := by decide +kernel
theorem b10 : BodyOk tab q10 d10 (["pen", "most", "at"] : List Str) (["pen", "most"] : List Str) = true := by decide +kernel
theorem b11 : BodyOk tab q11 d11 (["text", "words", "at", "word"] : List Str) (["text"] : List Str) = true := by decide +kernel
theorem b12 : BodyOk tab q12 d12 (["script", "pen", "turn", "course", "text", "words", "at", "odd", "bent", "due", "bad", "none"] : List Str) (["script"] : List Str) = true := by decide +kernel
theorem b13 : BodyOk tab q13 d13 (["self", "line_at", "word_list"] : List Str) (["self", "line_at", "word_list"] : List Str) = true := by decide +kernel
theorem b14 : BodyOk tab q14 d14 (["self"] : List Str) (["self"] : List Str) = true := by decide +kernel
theorem b15 : BodyOk tab q15 d15 (["self", "word"] : List Str) (["self", "word"] : List Str) = true := by decide +kernel
theorem b16 : BodyOk tab q16 d16 (["self"] : List Str) (["self"] : List Str) = true := by decide +kernel
theorem b17 : BodyOk tab q17 d17 (["self"] : List Str) (["self"] : List Str) = true := by decide +kernel
theorem b18 : BodyOk tab q18 d18 (["self", "word"] : List Str) (["self", "word"] : List Str) = true := by decide +kernel
theorem b19 : BodyOk tab q19 d19 (["self", "words"] : List Str) (["self", "words"] : List Str) = true := by decide +kernel
theorem b20 : BodyOk tab q20 d20 (["self", "known"] : List Str) (["self", "known"] : List Str) = true := by decide +kernel
theorem b21 : BodyOk tab q21 d21 (["self", "least", "most"] : List Str) (["self", "least", "most"] : List Str) = true := by decide +kernel
theorem b22 : BodyOk tab q22 d22 (["self", "sign", "most"] : List Str) (["self", "sign", "most"] : List Str) = true := by decide +kernel
theorem b23 : BodyOk tab q23 d23 (["self", "sign", "most", "known"] : List Str) (["self", "sign", "most", "known"] : List Str) = true := by decide +kernel
theorem b24 : BodyOk tab q24 d24 (["self"] : List Str) (["self"] : List Str) = true := by decide +kernel
theorem b25 : BodyOk tab q25 d25 (["self", "line_list", "ahead"] : List Str) (["self", "line_list", "ahead"] : List Str) = true := by decide +kernel
theorem b26 : BodyOk tab q26 d26 (["self", "many"] : List Str) (["self", "many"] : List Str) = true := by decide +kernel
theorem b27 : BodyOk tab q27 d27 (["self"] : List Str) (["self"] : List Str) = true := by decide +kernel
theorem b28 : BodyOk tab q28 d28 (["self"] : List Str) (["self"] : List Str) = true := by decide +kernel
theorem b29 : BodyOk tab q29 d29 (["self"] : List Str) (["self"] : List Str) = true := by decide +kernel
theorem b30 : BodyOk tab q30 d30 (["self"] : List Str) (["self"] : List Str) = true := by decide +kernel
theorem b31 : BodyOk tab q31 d31 (["self"] : List Str) (["self"] : List Str) = true := by decide +kernel
theorem b32 : BodyOk tab q32 d32 (["self"] : List Str) (["self"] : List Str) = true := by decide +kernel
theorem bodiesOk : BodiesOk desc.tab desc.dd desc.df desc.N desc.ps := ⟨b0, ⟨b1, ⟨b2, ⟨b3, ⟨b4, ⟨b5, ⟨b6, ⟨b7, ⟨b8, ⟨b9, ⟨b10, ⟨b11, ⟨b12, ⟨b13, ⟨b14, ⟨b15, ⟨b16, ⟨b17, ⟨b18, ⟨b19, ⟨b20, ⟨b21, ⟨b22, ⟨b23, ⟨b24, ⟨b25, ⟨b26, ⟨b27, ⟨b28, ⟨b29, ⟨b30, ⟨b31, ⟨b32, trivial⟩⟩⟩⟩⟩⟩⟩⟩⟩⟩⟩⟩⟩⟩⟩⟩⟩⟩⟩⟩⟩⟩⟩⟩⟩⟩⟩⟩⟩⟩⟩⟩⟩
theorem pg_eq : desc.prog = pg := rfl
theorem tabsOk : desc.tabs = true := by decide +kernel
theorem tabsXOk : desc.tabsX R.prog = true := by decide +kernel
theorem xiOk : XiOk desc.xi :=
 ⟨fun fd hp hd us hl => by obtain ⟨_, _, _, _, _, _, _, _, _, _, _, _, _, _, _⟩ := fd; dsimp only at hp hd; subst hp hd; exact match us, hl with | [_, _], _ => rfl, 
 ⟨fun fd hp hd us hl => by obtain ⟨_, _, _, _, _, _, _, _, _, _, _, _, _, _, _⟩ := fd; dsimp only at hp hd; subst hp hd; exact match us, hl with | [_, _, _], _ => rfl, trivial⟩⟩
theorem fldOk : desc.tab.fld.Nodup := by decide +kernel
theorem run (w : World) : HandSHeadRun.RunEq R (PySem.W.view R.prog [36]) (hookW 5 R.prog desc) (obW 5 R.prog desc) 8000 loose w := by
  intro os
  kernel_rfl
end Law
open PySem PySem.W PySem.Calls PyProof.Rows
theorem law_holds (most : Nat) (hmost : (PySem.Challenge.rw_samecourse_k81_texts_of_courses).most = some most) (hm2 : most ≤ sizeLine) (law : ∀ ns : List Int, ns.length ≤ most → ∃ s1, Ev.callF Law.pg 60 12 [.frl (ns.map .int)] ⟨[]⟩ = .ok (.bl true) s1) : PySem.Challenge.rw_samecourse_k81_texts_of_courses.Holds := by
  w_on; o_law
  refine HandSHeadRun.head_any (r := OpenLaw.row PySem.Challenge.rw_samecourse_k81_texts_of_courses) (q := view (OpenLaw.row PySem.Challenge.rw_samecourse_k81_texts_of_courses).prog [36]) (H := Ev.hookW 5 (OpenLaw.row PySem.Challenge.rw_samecourse_k81_texts_of_courses).prog Law.desc) (ob := Ev.obW 5 (OpenLaw.row PySem.Challenge.rw_samecourse_k81_texts_of_courses).prog Law.desc) (M := 8000) (loose := Law.loose) (d := HandSHeadRun.topDef (OpenLaw.row PySem.Challenge.rw_samecourse_k81_texts_of_courses).prog 36) (kwd := []) (fun s => Ev.obW_eq s)
    (by kernel_rfl) (fun s => by kernel_rfl) Law.run (by kernel_rfl) (by kernel_rfl) (by kernel_rfl) (by rfl) (by first | assumption | decide +kernel) (by decide +kernel) ⟨rfl, rfl, rfl, rfl, rfl, by decide +kernel⟩ ?hw ?hc
  case hw => w_witness2
  case hc =>
    refine LamX.walk_ofTsE (l := PySem.Challenge.rw_samecourse_k81_texts_of_courses) (n := most) (k := 60) (x := "script") (CX := fun _ => L2.CX0) hmost hm2 (by kernel_rfl) ⟨rfl, by decide, by decide⟩ ?F (fun _ _ _ _ _ z => z)
    intro w mg fa h Y G hmg0
    obtain ⟨K, KX, c, ts⟩ := Y
    have hmg : mg ("law" : PySem.Str) = some (.ref fa) := by
      have e : (HandSHeadRun.topDef (OpenLaw.row PySem.Challenge.rw_samecourse_k81_texts_of_courses).prog 36).name = ("law" : PySem.Str) := by kernel_rfl
      rw [← e]
      exact hmg0
    obtain ⟨fd, cs, sp, r⟩ := Ev.finish (P := (PySem.Challenge.rw_samecourse_k81_texts_of_courses).prog) (w := w) (CX := L2.CX0) (k := 56) (g := 12) (most := most) KX G c ts Law.fldOk Law.tabsOk Law.plOk Law.klOk Law.bodiesOk Law.tabsXOk Law.xiOk ⟨_, rfl, rfl⟩ rfl rfl hmg (by decide +kernel) (by decide +kernel) (fun ns h => by rw [Law.pg_eq]; exact law ns h)
    exact ⟨K, KX, fd, cs, sp, r⟩

theorem PySem.Challenge.cw_samecourse_k81_texts_of_courses_holds : PySem.Challenge.rw_samecourse_k81_texts_of_courses.Holds := by
  exact law_holds 63 rfl (by decide) fun ns _ => Law.law81 ns

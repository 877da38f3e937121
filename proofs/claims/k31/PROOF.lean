import PyProof.Rows.All
import Wide.All
import OpenK.AllK
import Wide.FinOn
import HandS.ForMost
import HandS.Wide
import HandS.Exc
import HandS.TryOnly
import HandS.TryMany
import HandS.ExcOwn
import HandS.WordsExc
import HandS.ExcInit
import HandS.Lambda
import HandS.OwnEq
import HandS.TupAny
import HandS.Defaults
import HandS.HeadHook2
import HandS.ExcCtx
import HandS.MakeKw
import HandS.IsInst
import HandS.WideBits
import HandS.Zip
import HandS.Text
import KE.DataEq
import KE.DataCmp
import HandS.FStr
import HandS.RaiseMore
import PyProof.ReprRoads
import HandS.HeadHook3
import HandS.HeadHook4
import HandS.Head2
import HandS.HeadEnd
import HandS.Style
import HandS.TupSets
import HandS.Conv
import PyProof.TupleOfSeq
import HandS.Keys
import HandS.Small
import HandS.EndBits
import Wide.Once
import HandS.HotCalls
import HandS.ExcField
import HandS.ExcIs
import KE.KExcIs
import HandS.Deep
import PyProof.P3In
import HandS.NestedK
import HandS.TupMul
import HandS.More
import PyProof.InstEq
import PyProof.InstNe
import KE.KFmtOwn
import KE.GoesMore
import KE.GoesZip
import HandS.Strs
import HandS.SetFor
import OpenK.KOps
import HandS.ListEq
import HandS.DeepEq
import PyProof.StrOps2
import KE.KTryMore
import HandS.Hot
import KE.KStateDown
import Lean
import PySem.Challenge.RW_roadpence_k31_journeys_made
section
set_option linter.all false
namespace Ro
open PySem
inductive D where
  | non | bl (b : Bool) | int (i : Int) | str (s : Str)
  | tup (l : List D) | lst (l : List D) | dct (l : List (D × D))
  | obj (c : String) (fs : List D)
  | scr (l : List Int) | ref (n : Nat) | fn (x : String) | thk (k : Nat) (caps : List D)
  deriving Inhabited
inductive Cell where
  | dead | lst (l : List D) | dct (l : List (D × D)) | ins (c : String) (fs : List (String × D)) | dcT (l : List (List Int × D))
  deriving Inhabited
abbrev Store := List Cell
inductive R (α : Type) where
  | ok (a : α) (S : Store) | err (c : String) (fs : List D) (S : Store) | bad
def R.bnd {α β : Type} : R α → (α → Store → R β) → R β
  | .ok a S, f => f a S
  | .err c fs S, _ => .err c fs S
  | .bad, _ => .bad
@[simp] theorem bnd_ok {α β : Type} (a : α) (S : Store) (f : α → Store → R β) : (R.ok a S).bnd f = f a S := rfl
@[simp] theorem bnd_err {α β : Type} (c : String) (fs : List D) (S : Store) (f : α → Store → R β) : (R.err c fs S : R α).bnd f = .err c fs S := rfl
@[simp] theorem bnd_bad {α β : Type} (f : α → Store → R β) : (R.bad : R α).bnd f = .bad := rfl
theorem bnd_assoc {α β γ : Type} (r : R α) (f : α → Store → R β) (g : β → Store → R γ) : (r.bnd f).bnd g = r.bnd fun a S => (f a S).bnd g := by cases r <;> rfl
/-- an option as a result -/
def lift {α : Type} (o : Option α) (S : Store) : R α := match o with
  | some a => .ok a S
  | none => .bad
@[simp] theorem lift_some {α : Type} (a : α) (S : Store) : lift (some a) S = .ok a S := rfl
@[simp] theorem lift_none {α : Type} (S : Store) : lift (none : Option α) S = .bad := rfl
abbrev LINE : Nat := 16777216
mutual
def pyEq : D → D → Bool
  | .non, .non => true
  | .bl a, .bl b => a == b
  | .bl a, .int j => decide ((if a then 1 else 0) = j)
  | .int i, .bl b => decide (i = (if b then 1 else 0))
  | .int i, .int j => decide (i = j)
  | .str s, .str t => decide (s = t)
  | .tup l, .tup m => pyEqs l m
  | .lst l, .lst m => pyEqs l m
  | .dct l, .dct m => l.length == m.length && pySub l m
  | .obj c l, .obj d m => c == d && pyEqs l m
  | _, _ => false
def pyEqs : List D → List D → Bool
  | [], [] => true
  | x :: l, y :: m => pyEq x y && pyEqs l m
  | _, _ => false
def pySub : List (D × D) → List (D × D) → Bool
  | [], _ => true
  | (k, v) :: l, m => (match m.find? (fun p => pyEq k p.1) with
     | some p => pyEq v p.2
     | none => false) && pySub l m
end
abbrev Env := List (Option D)
abbrev EX := Env → Store → R D
abbrev BX := Env → Store → R Bool
abbrev AX := Env → Store → R (List D)
inductive Ctl where
  | nx (e : Env) | rt (d : D) | bk (e : Env) | ct (e : Env)
abbrev ES := Env → Store → R Ctl
abbrev Fn := List D → Store → R D
def eVar (i : Nat) : EX := fun env S => match env[i]? with
  | some (some d) => .ok d S
  | _ => .bad
def eC (d : D) : EX := fun _ S => .ok d S
def eOp (op : D → D → Option D) (a b : EX) : EX := fun env S => (a env S).bnd fun x S1 => (b env S1).bnd fun y S2 => lift (op x y) S2
def eUn (op : D → Option D) (a : EX) : EX := fun env S => (a env S).bnd fun x S1 => lift (op x) S1
def aNil : AX := fun _ S => .ok [] S
def aCons (a : EX) (r : AX) : AX := fun env S => (a env S).bnd fun x S1 => (r env S1).bnd fun xs S2 => .ok (x :: xs) S2
/-- how a call's values are put: from the written ones (0), the defaults (1), the keywords' (2) -/
def pick {α : Type} (pk : List (Nat × Nat)) (us its ws : List α) : List α := pk.flatMap fun q => ((if q.1 = 0 then us else if q.1 = 1 then its else ws)[q.2]?).toList
def eTup (a : AX) : EX := fun env S => (a env S).bnd fun xs S1 => if xs.length ≤ LINE then .ok (.tup xs) S1 else .bad
def eLst (a : AX) : EX := fun env S => (a env S).bnd fun xs S1 => if xs.length ≤ LINE then .ok (.lst xs) S1 else .bad
/-- a list that will be changed -/
def eLstM (a : AX) : EX := fun env S => (a env S).bnd fun xs S1 => if xs.length ≤ LINE then .ok (.ref S1.length) (S1 ++ [.lst xs]) else .bad
def truth : D → Option Bool
  | .non => some false
  | .bl b => some b
  | .int i => some (decide (i ≠ 0))
  | .str s => if s.length ≤ LINE then some (decide (s.length ≠ 0)) else none
  | .tup l => some (!l.isEmpty)
  | .lst l => some (!l.isEmpty)
  | .dct l => some (!l.isEmpty)
  | _ => none
/-- an expression's truth -/
def bOf (a : EX) : BX := fun env S => (a env S).bnd fun x S1 => lift (truth x) S1
/-- an expression that is a bool, as a test -/
def bVal (a : EX) : BX := fun env S => (a env S).bnd fun x S1 => match x with
  | .bl b => .ok b S1
  | _ => .bad
def bAnd (a b : BX) : BX := fun env S => (a env S).bnd fun c S1 => if c then b env S1 else .ok false S1
def bOr (a b : BX) : BX := fun env S => (a env S).bnd fun c S1 => if c then .ok true S1 else b env S1
def bNot (a : BX) : BX := fun env S => (a env S).bnd fun c S1 => .ok (!c) S1
/-- .. as values, all but the last a bool -/
def eAnd (a b : EX) : EX := fun env S => (a env S).bnd fun x S1 => match x with
  | .bl c => if c then b env S1 else .ok (.bl false) S1
  | _ => .bad
def eOr (a b : EX) : EX := fun env S => (a env S).bnd fun x S1 => match x with
  | .bl c => if c then .ok (.bl true) S1 else b env S1
  | _ => .bad
def eNot (a : EX) : EX := fun env S => (a env S).bnd fun x S1 => match x with
  | .bl c => .ok (.bl (!c)) S1
  | _ => .bad
def eIf (c : BX) (a b : EX) : EX := fun env S => (c env S).bnd fun k S1 => if k then a env S1 else b env S1
/-- a op b op' c -/
def eChain (op op' : D → D → Option D) (a b c : EX) : EX := fun env S => (a env S).bnd fun x S1 => (b env S1).bnd fun y S2 => match op x y with
  | some (.bl true) => (c env S2).bnd fun z S3 => lift (op' y z) S3
  | some (.bl false) => .ok (.bl false) S2
  | _ => .bad
def addD : D → D → Option D
  | .int i, .int j => some (.int (i + j))
  | .str s, .str t => if s.length + t.length ≤ LINE then some (.str (s ++ t)) else none
  | .tup l, .tup m => if l.length + m.length ≤ LINE then some (.tup (l ++ m)) else none
  | .lst l, .lst m => if l.length + m.length ≤ LINE then some (.lst (l ++ m)) else none
  | _, _ => none
def subD : D → D → Option D
  | .int i, .int j => some (.int (i - j))
  | _, _ => none
def mulOk (i j : Int) : Bool := decide (i.natAbs.log2 + j.natAbs.log2 < 1000000)
def mulD : D → D → Option D
  | .int i, .int j => if mulOk i j then some (.int (i * j)) else none
  | _, _ => none
def fdivD : D → D → Option D
  | .int i, .int j => if 0 < j ∧ j.natAbs.log2 < 9000 then some (.int (i / j)) else none
  | _, _ => none
def modD : D → D → Option D
  | .int i, .int j => if 0 < j then some (.int (i % j)) else none
  | _, _ => none
def powD : D → D → Option D
  | .int i, .int j => if 0 ≤ j ∧ j ≤ 1000000 ∧ i.natAbs < 2 ^ 64 then some (.int (i ^ j.toNat)) else none
  | _, _ => none
def negD : D → Option D
  | .int i => some (.int (-i))
  | _ => none
def leD : D → D → Option D
  | .int i, .int j => some (.bl (decide (i ≤ j)))
  | _, _ => none
def isNonD : D → Bool
  | .non => true
  | _ => false
def isND (x y : D) : Option D := if isNonD y then some (.bl (isNonD x)) else none
def notND (x y : D) : Option D := if isNonD y then some (.bl (!isNonD x)) else none
/-- the place of an index -/
def pyIx (n : Nat) (i : Int) : Option Nat := if 0 ≤ i then (if i < n then some i.toNat else none) else if -(n : Int) ≤ i then some (i + n).toNat else none
def atP {α : Type} (xs : List α) (i : Int) : Option α := (pyIx xs.length i).bind fun j => xs[j]?
def idxD : D → D → Option D
  | .tup l, .int i => atP l i
  | .lst l, .int i => atP l i
  | .scr l, .int i => (atP l i).map D.int
  | .str s, .int i => if s.length ≤ LINE then (atP s.cps.toList i).map fun c => .str ⟨#[c]⟩ else none
  | _, _ => none
/-- .. of a changing list -/
def idxM (x y : D) (S : Store) : Option D := match x, y with
  | .ref n, .int i => (match S[n]? with
    | some (.lst l) => atP l i
    | _ => none)
  | _, _ => none
def eIdx (a b : EX) : EX := eOp idxD a b
def eIdxM (a b : EX) : EX := fun env S => (a env S).bnd fun x S1 => (b env S1).bnd fun y S2 => lift (idxM x y S2) S2
/-- o[i] = v, o a changing list -/
def setM (x y v : D) (S : Store) : Option Store := match x, y with
  | .ref n, .int i => (match S[n]? with
    | some (.lst l) => (pyIx l.length i).map fun j => S.set n (.lst (l.set j v))
    | _ => none)
  | _, _ => none
def sSetIt (o i v : EX) : ES := fun env S => (v env S).bnd fun z S1 => (o env S1).bnd fun x S2 => (i env S2).bnd fun y S3 => match setM x y z S3 with
  | some S4 => .ok (.nx env) S4
  | none => .bad
/-- the ends of a slice -/
def cutI (n d : Nat) : Option Int → Nat
  | none => d
  | some i => if i < 0 then (i + n).toNat else min i.toNat n
def cutL {α : Type} (xs : List α) (lo hi : Option Int) : List α := (xs.drop (cutI xs.length 0 lo)).take (cutI xs.length xs.length hi - cutI xs.length 0 lo)
def cutD (x : D) (lo hi : Option Int) : Option D := match x with
  | .tup l => some (.tup (cutL l lo hi))
  | .lst l => some (.lst (cutL l lo hi))
  | .str s => if s.length ≤ LINE then some (.str ⟨(cutL s.cps.toList lo hi).toArray⟩) else none
  | _ => none
/-- a part of a slice -/
abbrev OX := Env → Store → R (Option Int)
def oNone : OX := fun _ S => .ok none S
def oSome (a : EX) : OX := fun env S => (a env S).bnd fun x S1 => match x with
  | .int i => .ok (some i) S1
  | _ => .bad
def eCut (a : EX) (lo hi : OX) : EX := fun env S => (a env S).bnd fun x S1 => (lo env S1).bnd fun l S2 => (hi env S2).bnd fun h S3 => lift (cutD x l h) S3
/-- isinstance: what a thing is -/
inductive Ty where
  | b (n : String) | o (c : String)
  deriving DecidableEq
def tyD : D → Store → Option Ty
  | .non, _ => some (.b "NoneType")
  | .bl _, _ => some (.b "bool")
  | .int _, _ => some (.b "int")
  | .str _, _ => some (.b "str")
  | .tup _, _ => some (.b "tuple")
  | .lst _, _ => some (.b "list")
  | .scr _, _ => some (.b "list")
  | .dct _, _ => some (.b "dict")
  | .obj c _, _ => some (.o c)
  | .ref n, S => match S[n]? with
    | some (.lst _) => some (.b "list")
    | some (.dct _) => some (.b "dict")
    | some (.ins c _) => some (.o c)
    | _ => none
  | _, _ => none
/-- is a thing of the type t one of T -/
def subTy (t T : Ty) : Bool := decide (t = T) || (decide (t = .b "bool") && decide (T = .b "int"))
/-- tys: those that are looked at -/
def eIsI (tys : List Ty) (Tt : Ty) (a : EX) : EX := fun env S => (a env S).bnd fun x S1 => match tyD x S1 with
  | some t => if tys.contains t then .ok (.bl (subTy t Tt)) S1 else .bad
  | none => .bad
def lenD : D → Option D
  | .tup l => some (.int l.length)
  | .lst l => some (.int l.length)
  | .scr l => some (.int l.length)
  | .str s => if s.length ≤ LINE then some (.int s.length) else none
  | .dct l => some (.int l.length)
  | _ => none
def sSet (i : Nat) (e : EX) : ES := fun env S => (e env S).bnd fun d S1 => .ok (.nx (env.set i (some d))) S1
def sSeq (s t : ES) : ES := fun env S => (s env S).bnd fun c S1 => match c with
  | .nx e => t e S1
  | c => .ok c S1
def sPass : ES := fun env S => .ok (.nx env) S
def sIf (c : BX) (s t : ES) : ES := fun env S => (c env S).bnd fun k S1 => if k then s env S1 else t env S1
def sRet (e : EX) : ES := fun env S => (e env S).bnd fun d S1 => .ok (.rt d) S1
def sExpr (e : EX) : ES := fun env S => (e env S).bnd fun _ S1 => .ok (.nx env) S1
def sRaise (c : String) (a : AX) : ES := fun env S => (a env S).bnd fun fs S1 => .err c fs S1
abbrev Pat := D → Env → Option Env
def pName (i : Nat) : Pat := fun d env => some (env.set i (some d))
def pNil : List D → Env → Option Env := fun ds env => match ds with
  | [] => some env
  | _ => none
def pCons (p : Pat) (r : List D → Env → Option Env) : List D → Env → Option Env := fun ds env => match ds with
  | d :: ds => (p d env).bind fun e => r ds e
  | [] => none
def pTup (r : List D → Env → Option Env) : Pat := fun d env => match d with
  | .tup l => r l env
  | _ => none
def sUnp (p : Pat) (e : EX) : ES := fun env S => (e env S).bnd fun d S1 => match p d env with
  | some env' => .ok (.nx env') S1
  | none => .bad
def loop (tg : Pat) (body : ES) : List D → ES
  | [], env, S => .ok (.nx env) S
  | x :: xs, env, S => match tg x env with
    | none => .bad
    | some env1 => (body env1 S).bnd fun c S1 => match c with
      | .nx e => loop tg body xs e S1
      | .ct e => loop tg body xs e S1
      | .bk e => .ok (.nx e) S1
      | .rt d => .ok (.rt d) S1
def sFor (it : AX) (tg : Pat) (body : ES) : ES := fun env S => (it env S).bnd fun xs S1 => loop tg body xs env S1
/-- what raises is not told -/
def R.nox {α : Type} : R α → R α
  | .ok a S => .ok a S
  | _ => .bad
@[simp] theorem nox_ok {α : Type} (a : α) (S : Store) : (R.ok a S).nox = .ok a S := rfl
def lcLoop (tg : Pat) (c : BX) (el : EX) (env : Env) : List D → List D → Store → R (List D)
  | [], acc, S => .ok acc S
  | x :: xs, acc, S => match tg x env with
    | none => .bad
    | some env1 => (c env1 S).nox.bnd fun k S1 => if k then (el env1 S1).nox.bnd fun y S2 => if acc.length < LINE then lcLoop tg c el env xs (acc ++ [y]) S2 else .bad else lcLoop tg c el env xs acc S1
def bYes : BX := fun _ S => .ok true S
/-- a comprehension: vs the slots of its own names -/
def wipeE (env : Env) : List Nat → Env
  | [] => env
  | v :: vs => (wipeE env vs).set v none
def eLC (vs : List Nat) (it : AX) (tg : Pat) (c : BX) (el : EX) : EX := fun env S => (it env S).bnd fun xs S1 => (lcLoop tg c el (wipeE env vs) xs [] S1).bnd fun ys S2 => .ok (.lst ys) S2
/-- a def's body -/
def fnM (n : Nat) (body : ES) : Fn := fun ds S => (body (ds.map some ++ List.replicate (n - ds.length) none) S).bnd fun c S1 => match c with
  | .rt d => .ok d S1
  | .nx _ => .ok .non S1
  | _ => .bad
theorem ofString_inj {s t : String} : Str.ofString s = Str.ofString t ↔ s = t := by
  constructor
  · intro h
    rw [Str.ofString_eq_toList, Str.ofString_eq_toList] at h
    have h1 := congrArg Str.cps h
    have h2 : s.toList.map Char.toNat = t.toList.map Char.toNat := by simpa using h1
    have key : ∀ {l m : List Char}, l.map Char.toNat = m.map Char.toNat → l = m := by
      intro l
      induction l with
      | nil => intro m e; cases m with
        | nil => rfl
        | cons _ _ => cases e
      | cons a l ih => intro m e; cases m with
        | nil => cases e
        | cons b m =>
          rw [List.map_cons, List.map_cons] at e
          injection e with e1 e2
          rw [Char.toNat_inj.mp e1, ih e2]
    exact String.toList_inj.mp (key h2)
  · rintro rfl; rfl
def setF (f : String) (v : D) : List (String × D) → List (String × D)
  | [] => [(f, v)]
  | (g, u) :: r => if g = f then (f, v) :: r else (g, u) :: setF f v r
/-- a value's attribute: cs the classes that have it -/
def attrD (cf : String → List String) (cs : List String) (f : String) : D → Store → Option D
  | .obj c fs, _ => if cs.contains c then ((cf c).zip fs).lookup f else none
  | .ref n, S => match S[n]? with
    | some (.ins c fs) => if cs.contains c then fs.lookup f else none
    | _ => none
  | _, _ => none
def eAttr (cf : String → List String) (cs : List String) (f : String) (a : EX) : EX := fun env S => (a env S).bnd fun x S1 => lift (attrD cf cs f x S1) S1
/-- o.f = v, o a changing thing -/
def sSetAttr (cs : List String) (f : String) (o v : EX) : ES := fun env S => (v env S).bnd fun y S1 => (o env S1).bnd fun x S2 => match x with
  | .ref n => match S2[n]? with
    | some (.ins c fs) => if cs.contains c && decide (fs.length < 1000) then .ok (.nx env) (S2.set n (.ins c (setF f y fs))) else .bad
    | _ => .bad
  | _ => .bad
/-- is it a thing of the class c, without a field m -/
def isInst (cf : String → List String) (c m : String) (x : D) (S : Store) : Bool := match x with
  | .obj c' _ => c' == c && !(cf c).contains m
  | .ref n => match S[n]? with
    | some (.ins c' fs) => c' == c && (fs.lookup m).isNone
    | _ => false
  | _ => false
/-- o.m(..) -/
def eMeth (cf : String → List String) (c mn : String) (m : List D → List D → Store → R D) (o : EX) (fa fk : AX) : EX := fun env S => (o env S).bnd fun x S1 => if isInst cf c mn x S1 then (fa env S1).bnd fun xs S2 => (fk env S2).bnd fun zs S3 => m (x :: xs) zs S3 else .bad
/-- C(..): a new thing -/
def newM (c : String) (m : List D → List D → Store → R D) (xs zs : List D) (S : Store) : R D := (m (.ref S.length :: xs) zs (S ++ [.ins c []])).bnd fun r S1 => match r with
  | .non => .ok (.ref S.length) S1
  | _ => .bad
/-- .. that stands still from then on -/
def frzM (cf : String → List String) (r : R D) : R D := r.bnd fun x S => match x with
  | .ref n => match S[n]? with
    | some (.ins c fs) => if fs.map (·.1) = cf c then .ok (.obj c (fs.map (·.2))) (S.set n .dead) else .bad
    | some (.lst l) => .ok (.lst l) (S.set n .dead)
    | some (.dct l) => .ok (.dct l) (S.set n .dead)
    | _ => .bad
  | _ => .bad
/-- an expression's value stands still from now on -/
def eFrz (cf : String → List String) (a : EX) : EX := fun env S => frzM cf (a env S)
/-- built-ins by values -/
def eB (m : List D → Option D) (fa : AX) : EX := fun env S => (fa env S).bnd fun xs S1 => lift (m xs) S1
def bLen : List D → Option D
  | [x] => lenD x
  | _ => none
def bAbs : List D → Option D
  | [.int i] => some (.int (if i < 0 then -i else i))
  | _ => none
def bMax2 : List D → Option D
  | [.int i, .int j] => some (.int (if j > i then j else i))
  | _ => none
def bMin2 : List D → Option D
  | [.int i, .int j] => some (.int (if j < i then j else i))
  | _ => none
def bList : List D → Option D
  | [.tup l] => some (.lst l)
  | [.lst l] => some (.lst l)
  | _ => none
def bTuple : List D → Option D
  | [.tup l] => some (.tup l)
  | [.lst l] => some (.tup l)
  | _ => none
def divOk (j : Int) : Bool := decide (0 < j ∧ j < 1152921504606846976)
def bDivmod : List D → Option D
  | [.int i, .int j] => if divOk j then some (.tup [.int (i / j), .int (i % j)]) else none
  | _ => none
/-- list(..) of what will be changed -/
def eListM (fa : AX) : EX := fun env S => (fa env S).bnd fun xs S1 => match xs with
  | [.tup l] => .ok (.ref S1.length) (S1 ++ [.lst l])
  | [.lst l] => .ok (.ref S1.length) (S1 ++ [.lst l])
  | [.ref n] => (match S1[n]? with
    | some (.lst l) => .ok (.ref S1.length) (S1 ++ [.lst l])
    | _ => .bad)
  | _ => .bad
/-- l.append(x) -/
def appM (l x : D) (S : Store) : Option Store := match l with
  | .ref n => (match S[n]? with
    | some (.lst xs) => if xs.length < LINE then some (S.set n (.lst (xs ++ [x]))) else none
    | _ => none)
  | _ => none
def eApp (o : EX) (x : EX) : EX := fun env S => (o env S).bnd fun l S1 => if tyD l S1 = some (.b "list") then (x env S1).bnd fun y S2 => match appM l y S2 with
  | some S3 => .ok .non S3
  | none => .bad else .bad
end Ro
end
section
set_option Elab.async false
set_option linter.all false
set_option maxRecDepth 100000
set_option maxHeartbeats 4000000
namespace Ro
open PySem PySem.Spec PyProof.Rows L2
abbrev St := L2.St
structure Wd where
  G : Hp
  am : List Addr
  hid : List (Addr × List D) := []
/-- the exception in hand: where it lies, its dict, its class -/
structure XC where
  a : Addr
  dx : Option Addr
  c : String
/-- what is told of the text -/
structure Tb where
  K : PySem.W.Frag
  cf : String → List String
  tabs : List (Addr × Str)
  xc : Option XC := none
mutual
inductive Rep (T : Tb) (w : Wd) : D → V → Prop
  | non : Rep T w .non .non
  | bl (b : Bool) : Rep T w (.bl b) (.bl b)
  | int (i : Int) : Rep T w (.int i) (.int i)
  | str (s : Str) : Rep T w (.str s) (.str s)
  | tup {l : List D} {a : Addr} {vs : List V} (h : SqT T.K w.G a vs) (r : Reps T w l vs) : Rep T w (.tup l) (.ref a)
  | scr {l : List Int} {a : Addr} (h : SqL T.K w.G a (l.map V.int)) : Rep T w (.scr l) (.ref a)
  | lst {l : List D} {a : Addr} {vs : List V} (h : w.G a = some (.lst vs)) (r : Reps T w l vs) : Rep T w (.lst l) (.ref a)
  | dct {l : List (D × D)} {a : Addr} {kvs : List (Key × V)} (h : w.G a = some (.dK kvs)) (r : RepK T w l kvs) : Rep T w (.dct l) (.ref a)
  | obj {c : String} {l : List D} {a dx : Addr} {fs : List (Str × V)} (h : w.G a = some (.ins (He.ga T.K (c : Str)) dx fs)) (n : fs.map (·.1) = (T.cf c).map Str.ofString) (r : Reps T w l (fs.map (·.2))) : Rep T w (.obj c l) (.ref a)
  | ref {n : Nat} {a : Addr} (h : w.am[n]? = some a) : Rep T w (.ref n) (.ref a)
  | fn (x : String) : Rep T w (.fn x) (.ref (He.ga T.K (x : Str)))
  | xc0 {z : XC} (h : T.xc = some z) (hd : z.dx = none) : Rep T w (.thk 0 []) (.ref z.a)
  | xc1 {z : XC} {dd : Addr} {gs : List (Str × V)} {l : List D} (h : T.xc = some z) (hd : z.dx = some dd) (g : w.G dd = some (.xd gs)) (ex : ∀ f ∈ T.cf z.c, ∃ v, gs.lookup (Str.ofString f) = some v) (r : Reps T w l ((T.cf z.c).map fun f : String => (gs.lookup (Str.ofString f)).getD .non)) : Rep T w (.thk 0 l) (.ref z.a)
inductive Reps (T : Tb) (w : Wd) : List D → List V → Prop
  | nil : Reps T w [] []
  | cons {d : D} {v : V} {l : List D} {vs : List V} (h : Rep T w d v) (r : Reps T w l vs) : Reps T w (d :: l) (v :: vs)
inductive RepK (T : Tb) (w : Wd) : List (D × D) → List (Key × V) → Prop
  | nil : RepK T w [] []
  | int {i : Int} {d : D} {v : V} {l : List (D × D)} {vs : List (Key × V)} (h : Rep T w d v) (r : RepK T w l vs) : RepK T w ((.int i, d) :: l) ((.inl i, v) :: vs)
  | str {s : Str} {d : D} {v : V} {l : List (D × D)} {vs : List (Key × V)} (h : Rep T w d v) (r : RepK T w l vs) : RepK T w ((.str s, d) :: l) ((.inr s, v) :: vs)
end
/-- the world has grown; the lists that are being made stay -/
structure Wd.sb (w w' : Wd) : Prop where
  G : ∀ a o, w.G a = some o → w'.G a = some o
  am : ∃ t, w'.am = w.am ++ t
structure Wd.le (w w' : Wd) : Prop where
  tosb : w.sb w'
  hid : w'.hid = w.hid
theorem Wd.sb.trans {w w1 w2 : Wd} (a : w.sb w1) (b : w1.sb w2) : w.sb w2 := ⟨fun c o h => b.G c o (a.G c o h), by
  obtain ⟨t, e⟩ := a.am
  obtain ⟨u, e'⟩ := b.am
  exact ⟨t ++ u, by rw [e', e, List.append_assoc]⟩⟩
theorem Wd.le.refl (w : Wd) : w.le w := ⟨⟨fun _ _ h => h, [], by simp⟩, rfl⟩
theorem Wd.le.trans {w w1 w2 : Wd} (a : w.le w1) (b : w1.le w2) : w.le w2 := ⟨a.tosb.trans b.tosb, b.hid.trans a.hid⟩
theorem Wd.sb.at {w w' : Wd} (h : w.sb w') {n : Nat} {a : Addr} (e : w.am[n]? = some a) : w'.am[n]? = some a := by
  obtain ⟨t, q⟩ := h.am
  have hl := (List.getElem?_eq_some_iff.mp e).1
  rw [q, List.getElem?_append_left hl]
  exact e
theorem rd_le {w w' : Wd} (h : w.sb w') {a : Addr} {u : HO} (r : Rd w.G a u) : Rd w'.G a u := r.elim (fun r => .inl (h.G _ _ r)) fun ⟨o, r⟩ => .inr ⟨o, h.G _ _ r⟩
theorem sqt_le {K : PySem.W.Frag} {w w' : Wd} (h : w.sb w') {a : Addr} {xs : List V} (r : SqT K w.G a xs) : SqT K w'.G a xs := r.elim (fun r => .inl (rd_le h r)) .inr
theorem sql_le {K : PySem.W.Frag} {w w' : Wd} (h : w.sb w') {a : Addr} {xs : List V} (r : SqL K w.G a xs) : SqL K w'.G a xs := r.elim (fun r => .inl (rd_le h r)) .inr
theorem Wd.le.app (w : Wd) (p : Addr) : w.le ⟨w.G, w.am ++ [p], w.hid⟩ := ⟨⟨fun _ _ h => h, [p], rfl⟩, rfl⟩
mutual
theorem Rep.monoS {T : Tb} {w w' : Wd} (h : w.sb w') : ∀ {d : D} {v : V}, Rep T w d v → Rep T w' d v
  | _, _, .non => .non
  | _, _, .bl b => .bl b
  | _, _, .int i => .int i
  | _, _, .str s => .str s
  | _, _, .tup q r => .tup (sqt_le h q) (r.monoS h)
  | _, _, .scr q => .scr (sql_le h q)
  | _, _, .lst q r => .lst (h.G _ _ q) (r.monoS h)
  | _, _, .dct q r => .dct (h.G _ _ q) (r.monoS h)
  | _, _, .obj q n r => .obj (h.G _ _ q) n (r.monoS h)
  | _, _, .ref q => .ref (h.at q)
  | _, _, .fn x => .fn x
  | _, _, .xc0 q hd => .xc0 q hd
  | _, _, .xc1 q hd g ex r => .xc1 q hd (h.G _ _ g) ex (r.monoS h)
theorem Reps.monoS {T : Tb} {w w' : Wd} (h : w.sb w') : ∀ {l : List D} {vs : List V}, Reps T w l vs → Reps T w' l vs
  | _, _, .nil => .nil
  | _, _, .cons q r => .cons (q.monoS h) (r.monoS h)
theorem RepK.monoS {T : Tb} {w w' : Wd} (h : w.sb w') : ∀ {l : List (D × D)} {vs : List (Key × V)}, RepK T w l vs → RepK T w' l vs
  | _, _, .nil => .nil
  | _, _, .int q r => .int (q.monoS h) (r.monoS h)
  | _, _, .str q r => .str (q.monoS h) (r.monoS h)
end
theorem Rep.mono {T : Tb} {w w' : Wd} (h : w.le w') {d : D} {v : V} (r : Rep T w d v) : Rep T w' d v := r.monoS h.tosb
theorem Reps.mono {T : Tb} {w w' : Wd} (h : w.le w') {d : List D} {v : List V} (r : Reps T w d v) : Reps T w' d v := r.monoS h.tosb
theorem RepK.mono {T : Tb} {w w' : Wd} (h : w.le w') {d : List (D × D)} {v : List (Key × V)} (r : RepK T w d v) : RepK T w' d v := r.monoS h.tosb
theorem Reps.length {T : Tb} {w : Wd} : ∀ {l : List D} {vs : List V}, Reps T w l vs → l.length = vs.length
  | _, _, .nil => rfl
  | _, _, .cons _ r => by rw [List.length_cons, List.length_cons, r.length]
theorem Reps.get {T : Tb} {w : Wd} : ∀ {l : List D} {vs : List V} {i : Nat} {d : D}, Reps T w l vs → l[i]? = some d → ∃ v, vs[i]? = some v ∧ Rep T w d v
  | _, _, _, _, .nil, e => by simp at e
  | _, _, 0, _, .cons q _, e => by simp at e; subst e; exact ⟨_, rfl, q⟩
  | _, _, i + 1, d, .cons _ r, e => by
    obtain ⟨v, h1, h2⟩ := Reps.get (i := i) (d := d) r (by simpa using e)
    exact ⟨v, by simpa using h1, h2⟩
theorem Reps.append {T : Tb} {w : Wd} : ∀ {l m : List D} {vs us : List V}, Reps T w l vs → Reps T w m us → Reps T w (l ++ m) (vs ++ us)
  | _, _, _, _, .nil, s => s
  | _, _, _, _, .cons q r, s => .cons q (Reps.append r s)
theorem Reps.take {T : Tb} {w : Wd} : ∀ {l : List D} {vs : List V} (n : Nat), Reps T w l vs → Reps T w (l.take n) (vs.take n)
  | _, _, 0, _ => .nil
  | _, _, _ + 1, .nil => .nil
  | _, _, n + 1, .cons q r => .cons q (Reps.take n r)
theorem Reps.drop {T : Tb} {w : Wd} : ∀ {l : List D} {vs : List V} (n : Nat), Reps T w l vs → Reps T w (l.drop n) (vs.drop n)
  | _, _, 0, r => r
  | _, _, _ + 1, .nil => .nil
  | _, _, n + 1, .cons _ r => Reps.drop n r
theorem Reps.set {T : Tb} {w : Wd} {d : D} {v : V} (q : Rep T w d v) : ∀ {l : List D} {vs : List V} (i : Nat), Reps T w l vs → Reps T w (l.set i d) (vs.set i v)
  | _, _, _, .nil => .nil
  | _, _, 0, .cons _ r => .cons q r
  | _, _, i + 1, .cons p r => .cons p (Reps.set q i r)
theorem Reps.reverse {T : Tb} {w : Wd} : ∀ {l : List D} {vs : List V}, Reps T w l vs → Reps T w l.reverse vs.reverse
  | _, _, .nil => .nil
  | _, _, .cons q r => by rw [List.reverse_cons, List.reverse_cons]; exact (Reps.reverse r).append (.cons q .nil)
def CellR (T : Tb) (w : Wd) (H : Hp) (a : Addr) : Cell → Prop
  | .dead => True
  | .lst l => ∃ vs, H a = some (.lst vs) ∧ Reps T w l vs
  | .dct l => ∃ kvs, H a = some (.dK kvs) ∧ RepK T w l kvs
  | .ins c fs => ∃ dx gs, H a = some (.ins (He.ga T.K (c : Str)) dx gs) ∧ gs.map (·.1) = fs.map (fun p => Str.ofString p.1) ∧ Reps T w (fs.map (·.2)) (gs.map (·.2))
  | .dcT l => ∃ kvs : List (List Key × V), H a = some (.dT kvs) ∧ kvs.map (·.1) = l.map (fun p => p.1.map Sum.inl) ∧ Reps T w (l.map (·.2)) (kvs.map (·.2))
structure WR (T : Tb) (w : Wd) (S : Store) (H : Hp) : Prop where
  sub : ∀ a o, w.G a = some o → H a = some o
  len : w.am.length = S.length
  nd : w.am.Nodup
  has : ∀ a ∈ w.am, ∃ o, H a = some o ∧ ∀ ps, o ≠ .tbl ps
  out : ∀ (n : Nat) c a, S[n]? = some c → w.am[n]? = some a → c ≠ .dead → w.G a = none
  cell : ∀ (n : Nat) c a, S[n]? = some c → w.am[n]? = some a → CellR T w H a c
  tabs : LamX.Tabs T.tabs H
  hn : (w.hid.map (·.1)).Nodup
  hd : ∀ p ∈ w.hid, w.G p.1 = none ∧ p.1 ∉ w.am ∧ ∃ vs, H p.1 = some (.lst vs) ∧ Reps T w p.2 vs
  nt : ∀ a ps, w.G a ≠ some (.tbl ps)
/-- .. of a frame's slots -/
def ER (T : Tb) (w : Wd) (env : Env) (σ : St) : Prop := env.length = σ.length ∧ ∀ (i : Nat) d, env[i]? = some (some d) → ∃ v, σ[i]? = some (some v) ∧ Rep T w d v
theorem ER.monoS {T : Tb} {w w' : Wd} (h : w.sb w') {env : Env} {σ : St} (r : ER T w env σ) : ER T w' env σ := ⟨r.1, fun i d e => by
  obtain ⟨v, h1, h2⟩ := r.2 i d e
  exact ⟨v, h1, h2.monoS h⟩⟩
theorem ER.mono {T : Tb} {w w' : Wd} (h : w.le w') {env : Env} {σ : St} (r : ER T w env σ) : ER T w' env σ := ⟨r.1, fun i d e => by
  obtain ⟨v, h1, h2⟩ := r.2 i d e
  exact ⟨v, h1, h2.mono h⟩⟩
theorem ER.set {T : Tb} {w : Wd} {env : Env} {σ : St} {d : D} {v : V} (r : ER T w env σ) (q : Rep T w d v) (i : Nat) : ER T w (env.set i (some d)) (σ.set i (some v)) := ⟨by rw [List.length_set, List.length_set, r.1], fun j e h => by
  by_cases hj : i = j
  · subst hj
    rw [List.getElem?_set] at h ⊢
    simp only [if_true] at h ⊢
    by_cases hl : i < env.length
    · rw [if_pos hl] at h
      have e' : d = e := by simpa using h
      subst e'
      rw [if_pos (by rw [← r.1]; exact hl)]
      exact ⟨v, rfl, q⟩
    · rw [if_neg hl] at h
      cases h
  · rw [List.getElem?_set_ne hj] at h ⊢
    exact r.2 j e h⟩
/-- an exception as it lies -/
def XRep (T : Tb) (w : Wd) (H : Hp) (c : String) (fs : List D) (cls : Value) (dx : Option Addr) : Prop :=
  cls = .ref (He.ga T.K (c : Str)) ∧ ((fs = [] ∧ dx = none) ∨ ∃ a gs, dx = some a ∧ H a = some (.xd gs) ∧ (∀ f ∈ T.cf c, ∃ v, gs.lookup (Str.ofString f) = some v) ∧ Reps T w fs ((T.cf c).map fun f : String => (gs.lookup (Str.ofString f)).getD .non))
/-- a result, as it must lie -/
def RP {α : Type} (r : R α) (Pk : α → Store → Prop) (Pe : String → List D → Store → Prop) : Prop := match r with
  | .ok a S => Pk a S
  | .err c fs S => Pe c fs S
  | .bad => False
theorem RP.mono {α : Type} {r : R α} {Pk Pk' : α → Store → Prop} {Pe Pe' : String → List D → Store → Prop} (h : RP r Pk Pe) (hk : ∀ a S, Pk a S → Pk' a S) (he : ∀ c fs S, Pe c fs S → Pe' c fs S) : RP r Pk' Pe' := by
  cases r with
  | ok a S => exact hk _ _ h
  | err c fs S => exact he _ _ _ h
  | bad => exact h
theorem RP.bnd {α β : Type} {r : R α} {f : α → Store → R β} {Pk : β → Store → Prop} {Pe : String → List D → Store → Prop} (h : RP (r.bnd f) Pk Pe) : RP r (fun a S => RP (f a S) Pk Pe) Pe := by
  cases r with
  | ok a S => exact h
  | err c fs S => exact h
  | bad => exact h
/-- the exception's wish -/
def XW (T : Tb) (w : Wd) (E : XK) : String → List D → Store → Prop := fun c fs S => ∀ w' H' cls dx, w.le w' → WR T w' S H' → XRep T w' H' c fs cls dx → E cls dx H'
theorem XW.le {T : Tb} {w w1 : Wd} {E : XK} (h : w.le w1) {c : String} {fs : List D} {S : Store} (x : XW T w E c fs S) : XW T w1 E c fs S := fun w' H' cls dx l r q => x w' H' cls dx (h.trans l) r q
/-- readings -/
def tI (T : Tb) (E : XK) (f : EX) : TE := fun σ H Q => ∃ w env S, WR T w S H ∧ ER T w env σ ∧ RP (f env S) (fun d S' => ∀ w' H' v, w.le w' → WR T w' S' H' → Rep T w' d v → Q v H') (XW T w E)
def tIb (T : Tb) (E : XK) (f : BX) : TT := fun σ H Q => ∃ w env S, WR T w S H ∧ ER T w env σ ∧ RP (f env S) (fun b S' => ∀ w' H', w.le w' → WR T w' S' H' → Q b H') (XW T w E)
def tIa (T : Tb) (E : XK) (f : AX) : TA := fun σ H Q => ∃ w env S, WR T w S H ∧ ER T w env σ ∧ RP (f env S) (fun ds S' => ∀ w' H' vs, w.le w' → WR T w' S' H' → Reps T w' ds vs → Q vs H') (XW T w E)
def CP (T : Tb) (w : Wd) (D : Ends) (c : Ctl) (S : Store) : Prop := match c with
  | .nx e => ∀ w' H' σ', w.le w' → WR T w' S H' → ER T w' e σ' → D.nx σ' H'
  | .bk e => ∀ w' H' σ', w.le w' → WR T w' S H' → ER T w' e σ' → D.bk σ' H'
  | .ct e => ∀ w' H' σ', w.le w' → WR T w' S H' → ER T w' e σ' → D.ct σ' H'
  | .rt d => ∀ w' H' v, w.le w' → WR T w' S H' → Rep T w' d v → D.rt v H'
def tIs (T : Tb) (E : XK) (f : ES) : TS := fun D σ H => ∃ w env S, WR T w S H ∧ ER T w env σ ∧ RP (f env S) (CP T w D) (XW T w E)
/-- judgements -/
def IE (T : Tb) (E : XK) (X : Cx) (e : Expr) (f : EX) : Prop := PE X e (tI T E f)
def IB (T : Tb) (E : XK) (X : Cx) (e : Expr) (f : BX) : Prop := PT X e (tIb T E f)
def IW (T : Tb) (E : XK) (X : Cx) (e : Expr) (f : BX) : Prop := PW X e (tIb T E f)
def IA (T : Tb) (E : XK) (X : Cx) (es : List Expr) (f : AX) : Prop := PA X es (tIa T E f)
def IS (T : Tb) (E : XK) (X : Cx) (st : Stmt) (f : ES) : Prop := PS X st (tIs T E f)
def ISs (T : Tb) (E : XK) (X : Cx) (sts : List Stmt) (f : ES) : Prop := PSs X sts (tIs T E f)
theorem PE.mono {X : Cx} {e : Expr} {t t' : TE} (h : PE X e t) (k : ∀ σ H Q, t' σ H Q → t σ H Q) : PE X e t' := ⟨fun pins s σ H Q I q => h.run pins s σ H Q I (k _ _ _ q)⟩
theorem PT.mono {X : Cx} {e : Expr} {t t' : TT} (h : PT X e t) (k : ∀ σ H Q, t' σ H Q → t σ H Q) : PT X e t' := ⟨fun pins s σ H Q I q => h.run pins s σ H Q I (k _ _ _ q)⟩
theorem PW.mono {X : Cx} {e : Expr} {t t' : TT} (h : PW X e t) (k : ∀ σ H Q, t' σ H Q → t σ H Q) : PW X e t' := ⟨fun wh pins s σ H Q I q => h.run wh pins s σ H Q I (k _ _ _ q)⟩
theorem PA.mono {X : Cx} {es : List Expr} {t t' : TA} (h : PA X es t) (k : ∀ σ H Q, t' σ H Q → t σ H Q) : PA X es t' := ⟨fun pos pins s σ H Q I q => h.run pos pins s σ H Q I (k _ _ _ q)⟩
theorem PS.mono {X : Cx} {st : Stmt} {t t' : TS} (h : PS X st t) (k : ∀ D σ H, t' D σ H → t D σ H) : PS X st t' := ⟨fun pins s σ H D I q => h.run pins s σ H D I (k _ _ _ q)⟩
theorem PSs.mono {X : Cx} {st : List Stmt} {t t' : TS} (h : PSs X st t) (k : ∀ D σ H, t' D σ H → t D σ H) : PSs X st t' := ⟨fun pins s σ H D I q => h.run pins s σ H D I (k _ _ _ q)⟩
theorem CellR.keep {T : Tb} {w w' : Wd} {H H' : Hp} {a : Addr} {c : Cell} (h : CellR T w H a c) (l : w.sb w') (k : ∀ o, H a = some o → H' a = some o) : CellR T w' H' a c := by
  cases c with
  | dead => trivial
  | lst l1 =>
    obtain ⟨vs, h1, h2⟩ := h
    exact ⟨vs, k _ h1, h2.monoS l⟩
  | dct l1 =>
    obtain ⟨vs, h1, h2⟩ := h
    exact ⟨vs, k _ h1, h2.monoS l⟩
  | ins c fs =>
    obtain ⟨dx, gs, h1, h2, h3⟩ := h
    exact ⟨dx, gs, k _ h1, h2, h3.monoS l⟩
  | dcT l1 =>
    obtain ⟨kvs, h1, h2, h3⟩ := h
    exact ⟨kvs, k _ h1, h2, h3.monoS l⟩
/-- neither a table nor a code object -/
def NoTab (o : HO) : Prop := (∀ ps, o ≠ .tbl ps) ∧ ∀ c q, o ≠ LamX.CodeO c q
theorem noTab_lst {xs : List V} : NoTab (.lst xs) := ⟨fun _ z => (by cases z), fun _ _ z => (by unfold LamX.CodeO at z; cases z)⟩
theorem noTab_dK {xs : List (Key × V)} : NoTab (.dK xs) := ⟨fun _ z => (by cases z), fun _ _ z => (by unfold LamX.CodeO at z; cases z)⟩
theorem noTab_dT {xs : List (List Key × V)} : NoTab (.dT xs) := ⟨fun _ z => (by cases z), fun _ _ z => (by unfold LamX.CodeO at z; cases z)⟩
theorem noTab_ins {C dx : Addr} {fs : List (Str × V)} : NoTab (.ins C dx fs) := ⟨fun _ z => (by cases z), fun _ _ z => (by unfold LamX.CodeO at z; cases z)⟩
theorem tabs_upd {ts : List (Addr × Str)} {H : Hp} {a : Addr} {o o' : HO} (t : LamX.Tabs ts H) (ha : H a = some o) (n : NoTab o) : LamX.Tabs ts (upd H a o') := fun p hp => by
  obtain ⟨ps, h1, h2, h3⟩ := t p hp
  refine ⟨ps, ?_, h2, fun pos cv hc => ?_⟩
  · rw [upd_ne (fun z => by rw [z, ha] at h1; exact n.1 _ (Option.some.inj h1))]
    exact h1
  · obtain ⟨c, e1, e2⟩ := h3 pos cv hc
    refine ⟨c, e1, ?_⟩
    rw [upd_ne (fun z => by rw [z, ha] at e2; exact n.2 _ _ (Option.some.inj e2))]
    exact e2
theorem tabs_new {ts : List (Addr × Str)} {H : Hp} {a : Addr} {o' : HO} (t : LamX.Tabs ts H) (ha : H a = none) : LamX.Tabs ts (upd H a o') := t.ext fun b o e => by
  rw [upd_ne (ne_of_none e ha)]
  exact e
theorem CellR.noTab {T : Tb} {w : Wd} {H : Hp} {a : Addr} {c : Cell} (h : CellR T w H a c) (hc : c ≠ .dead) : ∃ o, H a = some o ∧ NoTab o := by
  cases c with
  | dead => exact absurd rfl hc
  | lst l1 =>
    obtain ⟨vs, h1, h2⟩ := h
    exact ⟨_, h1, noTab_lst⟩
  | dct l1 =>
    obtain ⟨vs, h1, h2⟩ := h
    exact ⟨_, h1, noTab_dK⟩
  | dcT l1 =>
    obtain ⟨vs, h1, _⟩ := h
    exact ⟨_, h1, noTab_dT⟩
  | ins c fs =>
    obtain ⟨dx, gs, h1, h2, h3⟩ := h
    exact ⟨_, h1, noTab_ins⟩
section
variable {T : Tb} {w : Wd} {S : Store} {H : Hp} {p a : Addr} {o : HO}
theorem WR.free (r : WR T w S H) (hp : H p = none) : w.G p = none := by
  cases e : w.G p with
  | none => rfl
  | some o => rw [r.sub _ _ e] at hp; cases hp
/-- a new thing that stands still -/
theorem WR.new (r : WR T w S H) (hp : H p = none) (o : HO) (ho : ∀ ps, o ≠ .tbl ps := by intro _ z; cases z) : w.le ⟨upd w.G p o, w.am, w.hid⟩ ∧ WR T ⟨upd w.G p o, w.am, w.hid⟩ S (upd H p o) := by
  have hG := r.free hp
  have l : w.le ⟨upd w.G p o, w.am, w.hid⟩ := ⟨⟨fun a u e => by show upd w.G p o a = some u; rw [upd_ne (ne_of_none e hG)]; exact e, [], by simp⟩, rfl⟩
  have k : ∀ a u, H a = some u → upd H p o a = some u := fun a u e => by rw [upd_ne (ne_of_none e hp)]; exact e
  refine ⟨l, ?_, r.len, r.nd, fun a ha => ?_, fun n c a h1 h2 h3 => ?_, fun n c a h1 h2 => ?_, tabs_new r.tabs hp, r.hn, fun q hq => ?_, fun a ps e => ?_⟩
  · intro a u e
    have e : upd w.G p o a = some u := e
    by_cases h : a = p
    · subst h
      rw [upd_same] at e ⊢
      exact e
    · rw [upd_ne h] at e ⊢
      exact r.sub _ _ e
  · obtain ⟨u, e, nt⟩ := r.has a ha
    exact ⟨u, k _ _ e, nt⟩
  · show upd w.G p o a = none
    obtain ⟨u, e, _⟩ := (r.cell n c a h1 h2).noTab h3
    rw [upd_ne (ne_of_none e hp)]
    exact r.out n c a h1 h2 h3
  · exact (r.cell n c a h1 h2).keep l.tosb fun u e => k _ _ e
  · obtain ⟨z1, z2, vs, z3, z4⟩ := r.hd q hq
    refine ⟨?_, z2, vs, k _ _ z3, z4.mono l⟩
    show upd w.G p o q.1 = none
    rw [upd_ne (ne_of_none z3 hp)]
    exact z1
  · have e : upd w.G p o a = some (.tbl ps) := e
    by_cases h : a = p
    · rw [h, upd_same] at e
      exact ho ps (Option.some.inj e)
    · rw [upd_ne h] at e
      exact r.nt a ps e
/-- .. and its like, by the heap alone -/
theorem WR.grow {H' : Hp} (r : WR T w S H) (k : ∀ a u, H a = some u → H' a = some u) : WR T w S H' :=
  ⟨fun a u e => k _ _ (r.sub _ _ e), r.len, r.nd, fun a ha => (r.has a ha).elim fun u e => ⟨u, k _ _ e.1, e.2⟩, r.out, fun n c a h1 h2 => (r.cell n c a h1 h2).keep (Wd.le.refl _).tosb fun u e => k _ _ e, r.tabs.ext k, r.hn, fun q hq => (r.hd q hq).elim fun z1 z => ⟨z1, z.1, z.2.elim fun vs z => ⟨vs, k _ _ z.1, z.2⟩⟩, r.nt⟩
/-- a new thing that will change -/
theorem WR.alloc (r : WR T w S H) (hp : H p = none) {o : HO} {c : Cell} (hc : CellR T ⟨w.G, w.am ++ [p], w.hid⟩ (upd H p o) p c) (ho : ∀ ps, o ≠ .tbl ps := by intro _ z; cases z) :
    w.le ⟨w.G, w.am ++ [p], w.hid⟩ ∧ WR T ⟨w.G, w.am ++ [p], w.hid⟩ (S ++ [c]) (upd H p o) ∧ (w.am ++ [p])[S.length]? = some p := by
  have l : w.le ⟨w.G, w.am ++ [p], w.hid⟩ := Wd.le.app w p
  have k : ∀ a u, H a = some u → upd H p o a = some u := fun a u e => by rw [upd_ne (ne_of_none e hp)]; exact e
  have hn : p ∉ w.am := fun z => by
    obtain ⟨u, e, _⟩ := r.has p z
    rw [hp] at e
    cases e
  have at_ : (w.am ++ [p])[S.length]? = some p := by rw [← r.len]; simp
  refine ⟨l, ⟨fun a u e => k _ _ (r.sub _ _ e), by simp [r.len], ?_, fun a ha => ?_, fun n c1 a h1 h2 h3 => ?_, fun n c1 a h1 h2 => ?_, tabs_new r.tabs hp, r.hn, fun q hq => ?_, r.nt⟩, at_⟩
  · exact List.nodup_append.mpr ⟨r.nd, by simp, fun a ha b hb => by
      have e : b = p := by simpa using hb
      subst e
      exact fun z => hn (z ▸ ha)⟩
  · rcases List.mem_append.mp ha with ha | ha
    · obtain ⟨u, e, nt⟩ := r.has a ha
      exact ⟨u, k _ _ e, nt⟩
    · have e : a = p := by simpa using ha
      subst e
      exact ⟨o, upd_same, ho⟩
  · have h2 : (w.am ++ [p])[n]? = some a := h2
    by_cases hl : n < S.length
    · rw [List.getElem?_append_left hl] at h1
      rw [List.getElem?_append_left (by rw [r.len]; exact hl)] at h2
      exact r.out n c1 a h1 h2 h3
    · have hle := (List.getElem?_eq_some_iff.mp h1).1
      rw [List.length_append, List.length_singleton] at hle
      have e : n = S.length := by omega
      subst e
      rw [at_] at h2
      cases h2
      exact r.free hp
  · have h2 : (w.am ++ [p])[n]? = some a := h2
    by_cases hl : n < S.length
    · rw [List.getElem?_append_left hl] at h1
      rw [List.getElem?_append_left (by rw [r.len]; exact hl)] at h2
      exact (r.cell n c1 a h1 h2).keep l.tosb fun u e => k _ _ e
    · have hle := (List.getElem?_eq_some_iff.mp h1).1
      rw [List.length_append, List.length_singleton] at hle
      have e : n = S.length := by omega
      subst e
      rw [at_] at h2
      cases h2
      have e1 : c1 = c := by
        rw [List.getElem?_append_right (Nat.le_refl _)] at h1
        simpa using h1.symm
      subst e1
      exact hc
  · obtain ⟨z1, z2, vs, z3, z4⟩ := r.hd q hq
    refine ⟨z1, fun z => ?_, vs, k _ _ z3, z4.mono l⟩
    rcases List.mem_append.mp z with z | z
    · exact z2 z
    · have e : q.1 = p := by simpa using z
      rw [e, hp] at z3
      cases z3
theorem WR.at_ne (r : WR T w S H) {n m : Nat} {a b : Addr} (h1 : w.am[n]? = some a) (h2 : w.am[m]? = some b) (h : n ≠ m) : a ≠ b := fun z => by
  subst z
  obtain ⟨l1, e1⟩ := List.getElem?_eq_some_iff.mp h1
  obtain ⟨l2, e2⟩ := List.getElem?_eq_some_iff.mp h2
  exact h ((List.getElem_inj r.nd).mp (e1.trans e2.symm))
/-- a thing is changed -/
theorem WR.write (r : WR T w S H) {n : Nat} {c c' : Cell} (hS : S[n]? = some c) (ha : w.am[n]? = some a) (hd : c ≠ .dead) {o' : HO} (hc : CellR T w (upd H a o') a c') (ho' : ∀ ps, o' ≠ .tbl ps := by intro _ z; cases z) : WR T w (S.set n c') (upd H a o') := by
  obtain ⟨o, e, nt⟩ := (r.cell n c a hS ha).noTab hd
  have hG := r.out n c a hS ha hd
  have hl := (List.getElem?_eq_some_iff.mp hS).1
  refine ⟨fun b u q => ?_, by rw [List.length_set]; exact r.len, r.nd, fun b hb => ?_, fun m c1 b h1 h2 h3 => ?_, fun m c1 b h1 h2 => ?_, tabs_upd r.tabs e nt, r.hn, fun q hq => ?_, r.nt⟩
  · rw [upd_ne (ne_of_none q hG)]
    exact r.sub _ _ q
  · obtain ⟨u, q, nt⟩ := r.has b hb
    by_cases h : b = a
    · subst h
      exact ⟨o', upd_same, ho'⟩
    · exact ⟨u, by rw [upd_ne h]; exact q, nt⟩
  · by_cases h : m = n
    · subst h
      rw [ha] at h2
      cases h2
      exact hG
    · rw [List.getElem?_set_ne (Ne.symm h)] at h1
      exact r.out m c1 b h1 h2 h3
  · by_cases h : m = n
    · subst h
      rw [ha] at h2
      cases h2
      rw [List.getElem?_set_self hl] at h1
      cases h1
      exact hc
    · rw [List.getElem?_set_ne (Ne.symm h)] at h1
      have hne := r.at_ne h2 ha h
      exact (r.cell m c1 b h1 h2).keep (Wd.le.refl _).tosb fun u q => by rw [upd_ne hne]; exact q
  · obtain ⟨z1, z2, vs, z3, z4⟩ := r.hd q hq
    exact ⟨z1, z2, vs, by rw [upd_ne (fun z => z2 (by rw [z]; exact List.mem_of_getElem? ha))]; exact z3, z4⟩
/-- a thing stands still from now on -/
theorem WR.freeze (r : WR T w S H) {n : Nat} {c : Cell} (hS : S[n]? = some c) (ha : w.am[n]? = some a) (hd : c ≠ .dead) (ho : H a = some o) : w.le ⟨upd w.G a o, w.am, w.hid⟩ ∧ WR T ⟨upd w.G a o, w.am, w.hid⟩ (S.set n .dead) H := by
  have hG := r.out n c a hS ha hd
  have hl := (List.getElem?_eq_some_iff.mp hS).1
  have l : w.le ⟨upd w.G a o, w.am, w.hid⟩ := ⟨⟨fun b u e => by show upd w.G a o b = some u; rw [upd_ne (ne_of_none e hG)]; exact e, [], by simp⟩, rfl⟩
  refine ⟨l, fun b u e => ?_, by rw [List.length_set]; exact r.len, r.nd, r.has, fun m c1 b h1 h2 h3 => ?_, fun m c1 b h1 h2 => ?_, r.tabs, r.hn, fun q hq => ?_, fun b ps e => ?_⟩
  · have e : upd w.G a o b = some u := e
    by_cases h : b = a
    · subst h
      rw [upd_same] at e
      rw [← e]
      exact ho
    · rw [upd_ne h] at e
      exact r.sub _ _ e
  · have h2 : w.am[m]? = some b := h2
    by_cases h : m = n
    · subst h
      rw [List.getElem?_set_self hl] at h1
      cases h1
      exact absurd rfl h3
    · rw [List.getElem?_set_ne (Ne.symm h)] at h1
      show upd w.G a o b = none
      rw [upd_ne (r.at_ne h2 ha h)]
      exact r.out m c1 b h1 h2 h3
  · have h2 : w.am[m]? = some b := h2
    by_cases h : m = n
    · subst h
      rw [List.getElem?_set_self hl] at h1
      cases h1
      trivial
    · rw [List.getElem?_set_ne (Ne.symm h)] at h1
      exact (r.cell m c1 b h1 h2).keep l.tosb fun _ q => q
  · obtain ⟨z1, z2, vs, z3, z4⟩ := r.hd q hq
    refine ⟨?_, z2, vs, z3, z4.mono l⟩
    show upd w.G a o q.1 = none
    rw [upd_ne (fun z => z2 (by rw [z]; exact List.mem_of_getElem? ha))]
    exact z1
  · have e : upd w.G a o b = some (.tbl ps) := e
    by_cases h : b = a
    · rw [h, upd_same] at e
      cases e
      obtain ⟨u, q, nt⟩ := (r.cell n c a hS ha).noTab hd
      rw [ho] at q
      cases q
      exact nt.1 ps rfl
    · rw [upd_ne h] at e
      exact r.nt b ps e
end
theorem sqt_sub {T : Tb} {w : Wd} {S : Store} {H : Hp} (r : WR T w S H) {a : Addr} {xs : List V} (h : SqT T.K w.G a xs) : SqT T.K H a xs := h.elim (fun h => .inl (h.elim (fun h => .inl (r.sub _ _ h)) fun ⟨o, h⟩ => .inr ⟨o, r.sub _ _ h⟩)) .inr
theorem sql_sub {T : Tb} {w : Wd} {S : Store} {H : Hp} (r : WR T w S H) {a : Addr} {xs : List V} (h : SqL T.K w.G a xs) : SqL T.K H a xs := h.elim (fun h => .inl (h.elim (fun h => .inl (r.sub _ _ h)) fun ⟨o, h⟩ => .inr ⟨o, r.sub _ _ h⟩)) .inr
end Ro
end
section
set_option Elab.async false
set_option linter.all false
set_option maxRecDepth 100000
set_option maxHeartbeats 4000000
namespace Ro
open PySem PySem.Spec PyProof.Rows L2
variable {T : Tb} {E : XK} {X : Cx} {a b c : Expr} {es : List Expr} {f g h : EX} {fa : AX} {fb gb : BX} {pos : Pos}
/-- two expressions in a row -/
theorem tI_two {k : D → D → Store → R D} {σ : St} {H : Hp} {Q : VK} (q : tI T E (fun env S => (f env S).bnd fun x S1 => (g env S1).bnd fun y S2 => k x y S2) σ H Q) :
    tI T E f σ H fun x H1 => tI T E g σ H1 fun y H2 => ∃ w d e S, WR T w S H2 ∧ Rep T w d x ∧ Rep T w e y ∧ RP (k d e S) (fun d S' => ∀ w' H' v, w.le w' → WR T w' S' H' → Rep T w' d v → Q v H') (XW T w E) := by
  obtain ⟨w, env, S, r, e, h⟩ := q
  refine ⟨w, env, S, r, e, (RP.bnd h).mono (fun d S1 h1 w1 H1 x l1 r1 p1 => ⟨w1, env, S1, r1, e.mono l1, (RP.bnd h1).mono (fun d2 S2 h2 w2 H2 y l2 r2 p2 => ⟨w2, d, d2, S2, r2, p1.mono l2, p2, ?_⟩) (fun _ _ _ x => x.le l1)⟩) (fun _ _ _ x => x)⟩
  exact h2.mono (fun d S' q w' H' v l => q w' H' v ((l1.trans l2).trans l)) fun _ _ _ x => x.le (l1.trans l2)
theorem ie_var {i : Nat} {x : Str} (hN : X.N[i]? = some x) (hv : Vis X.env.scope x) (hd : (x == ("__debug__" : Str)) = false := by decide +kernel) (hcd : (x == ("__classdict__" : Str)) = false := by decide +kernel) : IE T E X (.Name x pos) (eVar i) :=
  PE.mono (pe_var hN hv hd hcd) fun σ H Q ⟨w, env, S, r, e, q⟩ => by
    unfold eVar at q
    cases z : env[i]? with
    | none => rw [z] at q; exact q.elim
    | some o =>
      rw [z] at q
      cases o with
      | none => exact q.elim
      | some d =>
        obtain ⟨v, h1, h2⟩ := e.2 i d z
        exact ⟨v, h1, q w H v (Wd.le.refl _) r h2⟩
theorem ie_c {e : Expr} {d : D} {v : V} (h : PE X e (tC v)) (k : ∀ w, Rep T w d v) : IE T E X e (eC d) :=
  PE.mono h fun σ H Q ⟨w, env, S, r, e, q⟩ => q w H v (Wd.le.refl _) r (k w)
theorem ie_int {i : Int} {j : Nat} : IE T E X (.Constant (.int i) j pos) (eC (.int i)) := ie_c pe_int fun _ => .int i
theorem ie_bl {i : Bool} {j : Nat} : IE T E X (.Constant (.bool i) j pos) (eC (.bl i)) := ie_c pe_bl fun _ => .bl i
theorem ie_non {j : Nat} : IE T E X (.Constant .none j pos) (eC .non) := ie_c pe_non fun _ => .non
theorem ie_str {i : Str} {j : Nat} : IE T E X (.Constant (.str i) j pos) (eC (.str i)) := ie_c pe_str fun _ => .str i
theorem ie_glob {x : Str} {d : D} {v : V} {u : Value} (hg : Gl X x) (hm : X.mg x = some u) (r : RelV v u) (k : ∀ w, Rep T w d v) (hd : (x == ("__debug__" : Str)) = false := by decide +kernel) : IE T E X (.Name x pos) (eC d) := ie_c (pe_glob hg hm r hd) k
def rOp (T : Tb) (op : D → D → Option D) : R2 := fun x y H Q => ∃ w d e r S, WR T w S H ∧ Rep T w d x ∧ Rep T w e y ∧ op d e = some r ∧ ∀ w' H' z, w.le w' → WR T w' S H' → Rep T w' r z → Q z H'
theorem rOp_of {op : D → D → Option D} {w : Wd} {d e : D} {S : Store} {x y : V} {H : Hp} {Q : VK} (r : WR T w S H) (p : Rep T w d x) (q : Rep T w e y) (h : RP (lift (op d e) S) (fun d S' => ∀ w' H' v, w.le w' → WR T w' S' H' → Rep T w' d v → Q v H') (XW T w E)) : rOp T op x y H Q := by
  cases z : op d e with
  | none => rw [z] at h; exact h.elim
  | some k => rw [z] at h; exact ⟨w, d, e, k, S, r, p, q, z, fun w' H' v l r' p' => h w' H' v l r' p'⟩
theorem ie_op {o : Operator} {op : D → D → Option D} (ho : OpR X (binaryOp o) (rOp T op)) (ha : IE T E X a f) (hb : IE T E X b g) : IE T E X (.BinOp a o b pos) (eOp op f g) :=
  PE.mono (pe_op ho ha hb) fun σ H Q q => by
    have q2 := tI_two (k := fun x y S => lift (op x y) S) q
    obtain ⟨w, env, S, r, e, h⟩ := q2
    refine ⟨w, env, S, r, e, h.mono (fun d S1 h1 w1 H1 x l1 r1 p1 => ?_) fun _ _ _ x => x⟩
    obtain ⟨w2, env2, S2, r2, e2, h2⟩ := h1 w1 H1 x l1 r1 p1
    refine ⟨w2, env2, S2, r2, e2, h2.mono (fun d S1 h1 w1 H1 x l1 r1 p1 => ?_) fun _ _ _ x => x⟩
    obtain ⟨w3, d3, e3, S3, r3, p3, q3, h3⟩ := h1 w1 H1 x l1 r1 p1
    exact rOp_of r3 p3 q3 h3
theorem ie_cmp {o : CmpOp} {op : D → D → Option D} (ho : OpR X (compareOp o) (rOp T op)) (ha : IE T E X a f) (hb : IE T E X b g) (hm : behindInMarks o b = false) : IE T E X (.Compare a [o] [b] pos) (eOp op f g) :=
  PE.mono (pe_cmpR ho ha hb hm) fun σ H Q q => by
    have q2 := tI_two (k := fun x y S => lift (op x y) S) q
    obtain ⟨w, env, S, r, e, h⟩ := q2
    refine ⟨w, env, S, r, e, h.mono (fun d S1 h1 w1 H1 x l1 r1 p1 => ?_) fun _ _ _ x => x⟩
    obtain ⟨w2, env2, S2, r2, e2, h2⟩ := h1 w1 H1 x l1 r1 p1
    refine ⟨w2, env2, S2, r2, e2, h2.mono (fun d S1 h1 w1 H1 x l1 r1 p1 => ?_) fun _ _ _ x => x⟩
    obtain ⟨w3, d3, e3, S3, r3, p3, q3, h3⟩ := h1 w1 H1 x l1 r1 p1
    exact rOp_of r3 p3 q3 h3
/-- a value of a test -/
theorem tI_bVal {σ : St} {H : Hp} {Q : Bool → Hp → Prop} (q : tIb T E (bVal f) σ H Q) : tI T E f σ H fun x H1 => ∃ k, x = .bl k ∧ Q k H1 := by
  obtain ⟨w, env, S, r, e, h⟩ := q
  refine ⟨w, env, S, r, e, (RP.bnd h).mono (fun d S1 h1 w1 H1 x l1 r1 p1 => ?_) (fun _ _ _ x => x)⟩
  cases p1 with
  | bl k => exact ⟨k, rfl, h1 w1 H1 l1 r1⟩
  | _ => exact h1.elim
theorem ib_cmp {o : CmpOp} {op : D → D → Option D} (ho : OpR X (compareOp o) (rOp T op)) (ha : IE T E X a f) (hb : IE T E X b g) (hm : behindInMarks o b = false) : IB T E X (.Compare a [o] [b] pos) (bVal (eOp op f g)) :=
  PT.mono (pt_cmpR ho ha hb hm) fun σ H Q q => by
    have q2 := tI_two (k := fun x y S => lift (op x y) S) (tI_bVal q)
    obtain ⟨w, env, S, r, e, h⟩ := q2
    refine ⟨w, env, S, r, e, h.mono (fun d S1 h1 w1 H1 x l1 r1 p1 => ?_) fun _ _ _ x => x⟩
    obtain ⟨w2, env2, S2, r2, e2, h2⟩ := h1 w1 H1 x l1 r1 p1
    refine ⟨w2, env2, S2, r2, e2, h2.mono (fun d S1 h1 w1 H1 x l1 r1 p1 => ?_) fun _ _ _ x => x⟩
    obtain ⟨w3, d3, e3, S3, r3, p3, q3, h3⟩ := h1 w1 H1 x l1 r1 p1
    exact rOp_of r3 p3 q3 h3
/-- an expression that is a bool, as a test -/
theorem ib_val (he : IE T E X a f) (hw : ∀ whole, isTrue a X.env whole = (do let v ← whole; standAt a.pos; holding [v] (truthy v)) := by intro _; rfl) : IB T E X a (bVal f) :=
  PT.mono (pt_val he hw) fun σ H Q q => tI_bVal q
theorem iw_pt (h : IW T E X a fb) : IB T E X a fb := PW.pt h
theorem ib_not (h : IB T E X a fb) : IB T E X (.UnaryOp .Not a pos) (bNot fb) :=
  PT.mono (pt_not h) fun σ H Q ⟨w, env, S, r, e, q⟩ => ⟨w, env, S, r, e, (RP.bnd q).mono (fun _ _ h1 => h1) fun _ _ _ x => x⟩
theorem iw_and1 (h : IB T E X a fb) : IW T E X (.BoolOp .And [a] pos) fb := pw_and1 h
theorem iw_or1 (h : IB T E X a fb) : IW T E X (.BoolOp .Or [a] pos) fb := pw_or1 h
theorem iw_and (h : IB T E X a fb) (h2 : IW T E X (.BoolOp .And (b :: es) pos) gb) : IW T E X (.BoolOp .And (a :: b :: es) pos) (bAnd fb gb) :=
  PW.mono (pw_and h h2) fun σ H Q ⟨w, env, S, r, e, q⟩ => ⟨w, env, S, r, e, (RP.bnd q).mono (fun k S1 h1 w1 H1 l1 r1 => by
    cases k with
    | true => exact ⟨w1, env, S1, r1, e.mono l1, RP.mono h1 (fun k2 S2 h2 w2 H2 l2 r2 => h2 w2 H2 (l1.trans l2) r2) fun _ _ _ x => x.le l1⟩
    | false => exact h1 w1 H1 l1 r1) fun _ _ _ x => x⟩
theorem iw_or (h : IB T E X a fb) (h2 : IW T E X (.BoolOp .Or (b :: es) pos) gb) : IW T E X (.BoolOp .Or (a :: b :: es) pos) (bOr fb gb) :=
  PW.mono (pw_or h h2) fun σ H Q ⟨w, env, S, r, e, q⟩ => ⟨w, env, S, r, e, (RP.bnd q).mono (fun k S1 h1 w1 H1 l1 r1 => by
    cases k with
    | false => exact ⟨w1, env, S1, r1, e.mono l1, RP.mono h1 (fun k2 S2 h2 w2 H2 l2 r2 => h2 w2 H2 (l1.trans l2) r2) fun _ _ _ x => x.le l1⟩
    | true => exact h1 w1 H1 l1 r1) fun _ _ _ x => x⟩
theorem ie_one {o : BoolOp} (h : IE T E X a f) : IE T E X (.BoolOp o [a] pos) f := pe_one h
theorem ie_and (h : IE T E X a f) (h2 : IE T E X (.BoolOp .And (b :: es) pos) g) : IE T E X (.BoolOp .And (a :: b :: es) pos) (eAnd f g) :=
  PE.mono (pe_and h h2) fun σ H Q ⟨w, env, S, r, e, q⟩ => ⟨w, env, S, r, e, (RP.bnd q).mono (fun d S1 h1 w1 H1 x l1 r1 p1 => by
    cases p1 with
    | bl k =>
      refine ⟨k, rfl, ?_⟩
      cases k with
      | true => exact ⟨w1, env, S1, r1, e.mono l1, RP.mono h1 (fun k2 S2 h2 w2 H2 v l2 r2 => h2 w2 H2 v (l1.trans l2) r2) fun _ _ _ x => x.le l1⟩
      | false => exact h1 w1 H1 _ l1 r1 (.bl false)
    | _ => exact (show False from h1).elim) fun _ _ _ x => x⟩
theorem ie_not (h : IE T E X a f) : IE T E X (.UnaryOp .Not a pos) (eNot f) :=
  PE.mono (pe_not h) fun σ H Q ⟨w, env, S, r, e, q⟩ => ⟨w, env, S, r, e, (RP.bnd q).mono (fun d S1 h1 w1 H1 x l1 r1 p1 => by
    cases p1 with
    | bl k => exact ⟨k, rfl, h1 w1 H1 _ l1 r1 (.bl (!k))⟩
    | _ => exact (show False from h1).elim) fun _ _ _ x => x⟩
theorem ie_if (hc : IB T E X c fb) (ha : IE T E X a f) (hb : IE T E X b g) : IE T E X (.IfExp c a b pos) (eIf fb f g) :=
  PE.mono (pe_ifExp hc ha hb) fun σ H Q ⟨w, env, S, r, e, q⟩ => ⟨w, env, S, r, e, (RP.bnd q).mono (fun k S1 h1 w1 H1 l1 r1 => by
    cases k with
    | true => exact ⟨w1, env, S1, r1, e.mono l1, RP.mono h1 (fun k2 S2 h2 w2 H2 v l2 r2 => h2 w2 H2 v (l1.trans l2) r2) fun _ _ _ x => x.le l1⟩
    | false => exact ⟨w1, env, S1, r1, e.mono l1, RP.mono h1 (fun k2 S2 h2 w2 H2 v l2 r2 => h2 w2 H2 v (l1.trans l2) r2) fun _ _ _ x => x.le l1⟩) fun _ _ _ x => x⟩
end Ro
end
section
set_option Elab.async false
set_option linter.all false
set_option maxRecDepth 100000
set_option maxHeartbeats 4000000
namespace Ro
open PySem PySem.Spec PyProof.Rows L2
variable {T : Tb} {E : XK} {X : Cx} {a b c : Expr} {es : List Expr} {f g h : EX} {fa ga : AX} {fb gb : BX} {pos : Pos}
theorem ia_nil : IA T E X [] aNil := PA.mono pa_nil fun σ H Q ⟨w, env, S, r, e, q⟩ => q w H [] (Wd.le.refl _) r .nil
theorem ia_cons (ha : IE T E X a f) (hr : IA T E X es fa) (hs : starEach (a :: es) X.env = (false, eval a X.env) :: starEach es X.env := by rfl) : IA T E X (a :: es) (aCons f fa) :=
  PA.mono (pa_cons ha hr hs) fun σ H Q ⟨w, env, S, r, e, q⟩ => ⟨w, env, S, r, e, (RP.bnd q).mono (fun d S1 h1 w1 H1 x l1 r1 p1 => ⟨w1, env, S1, r1, e.mono l1, (RP.bnd h1).mono (fun ds S2 h2 w2 H2 xs l2 r2 p2 => h2 w2 H2 _ (l1.trans l2) r2 (.cons (p1.mono l2) p2)) fun _ _ _ x => x.le l1⟩) fun _ _ _ x => x⟩
theorem ie_tup {k : Nat} (h : IA T E X es fa) : IE T E X (.Tuple es k pos) (eTup fa) :=
  PE.mono (pe_tup h) fun σ H Q ⟨w, env, S, r, e, q⟩ => ⟨w, env, S, r, e, (RP.bnd q).mono (fun ds S1 h1 w1 H1 xs l1 r1 p1 => by
    by_cases hl : ds.length ≤ LINE
    · rw [if_pos hl] at h1
      refine ⟨by rw [sizeLine_eq, ← p1.length]; exact hl, fun p hp => ?_⟩
      obtain ⟨l2, r2⟩ := r1.new hp (.tup xs)
      exact h1 _ _ _ (l1.trans l2) r2 (.tup (.inl (.inl upd_same)) (p1.mono l2))
    · rw [if_neg hl] at h1
      exact (show False from h1).elim) fun _ _ _ x => x⟩
theorem ie_lst (h : IA T E X es fa) : IE T E X (.List es pos) (eLst fa) :=
  PE.mono (pe_lst h) fun σ H Q ⟨w, env, S, r, e, q⟩ => ⟨w, env, S, r, e, (RP.bnd q).mono (fun ds S1 h1 w1 H1 xs l1 r1 p1 => by
    by_cases hl : ds.length ≤ LINE
    · rw [if_pos hl] at h1
      refine ⟨by rw [sizeLine_eq, ← p1.length]; exact hl, fun p hp => ?_⟩
      obtain ⟨l2, r2⟩ := r1.new hp (.lst xs)
      exact h1 _ _ _ (l1.trans l2) r2 (.lst upd_same (p1.mono l2))
    · rw [if_neg hl] at h1
      exact (show False from h1).elim) fun _ _ _ x => x⟩
theorem ie_lstM (h : IA T E X es fa) : IE T E X (.List es pos) (eLstM fa) :=
  PE.mono (pe_lst h) fun σ H Q ⟨w, env, S, r, e, q⟩ => ⟨w, env, S, r, e, (RP.bnd q).mono (fun ds S1 h1 w1 H1 xs l1 r1 p1 => by
    by_cases hl : ds.length ≤ LINE
    · rw [if_pos hl] at h1
      refine ⟨by rw [sizeLine_eq, ← p1.length]; exact hl, fun p hp => ?_⟩
      obtain ⟨l2, r2, at_⟩ := r1.alloc (o := .lst xs) (c := .lst ds) hp ⟨xs, upd_same, p1.mono (Wd.le.app _ _)⟩
      exact h1 _ _ _ (l1.trans l2) r2 (.ref at_)
    · rw [if_neg hl] at h1
      exact (show False from h1).elim) fun _ _ _ x => x⟩
theorem rd_chain {op op' : D → D → Option D} {σ : St} {H : Hp} {Q : VK} (q : tI T E (eChain op op' f g h) σ H Q) : tChain (rOp T op) (rOp T op') (tI T E f) (tI T E g) (tI T E h) σ H Q := by
  obtain ⟨w, env, S, r, e, q⟩ := q
  refine ⟨w, env, S, r, e, (RP.bnd q).mono (fun d S1 h1 w1 H1 x l1 r1 p1 => ⟨w1, env, S1, r1, e.mono l1, (RP.bnd h1).mono (fun d2 S2 h2 w2 H2 y l2 r2 p2 => ?_) (fun _ _ _ x => x.le l1)⟩) (fun _ _ _ x => x)⟩
  cases z : op d d2 with
  | none => rw [z] at h2; exact (show False from h2).elim
  | some k =>
    rw [z] at h2
    refine ⟨w2, d, d2, k, S2, r2, p1.mono l2, p2, z, fun w3 H3 v l3 r3 p3 => ?_⟩
    cases p3 with
    | bl kk =>
      refine ⟨kk, rfl, ?_⟩
      cases kk with
      | true =>
        rw [if_pos rfl]
        refine ⟨w3, env, S2, r3, e.mono ((l1.trans l2).trans l3), (RP.bnd h2).mono (fun d3 S3 h3 w4 H4 v4 l4 r4 p4 => ?_) fun _ _ _ x => x.le ((l1.trans l2).trans l3)⟩
        have := rOp_of (E := E) (Q := Q) r4 (p2.mono (l3.trans l4)) p4 (RP.mono h3 (fun d S' q w' H' v l => q w' H' v ((((l1.trans l2).trans l3).trans l4).trans l)) fun _ _ _ x => x.le (((l1.trans l2).trans l3).trans l4))
        exact this
      | false =>
        rw [if_neg Bool.false_ne_true]
        exact h2 w3 H3 _ ((l1.trans l2).trans l3) r3 (.bl false)
    | _ => exact (show False from h2).elim
theorem ie_chain {o o' : CmpOp} {op op' : D → D → Option D} (ho : OpR X (compareOp o) (rOp T op)) (ho' : OpR X (compareOp o') (rOp T op')) (ha : IE T E X a f) (hb : IE T E X b g) (hc : IE T E X c h) (hm : lastMarks [o, o'] [b, c] = false := by with_unfolding_all rfl) : IE T E X (.Compare a [o, o'] [b, c] pos) (eChain op op' f g h) :=
  PE.mono (pe_chain (pos := pos) ho ho' ha hb hc hm) fun σ H Q q => rd_chain q
theorem ib_chain {o o' : CmpOp} {op op' : D → D → Option D} (ho : OpR X (compareOp o) (rOp T op)) (ho' : OpR X (compareOp o') (rOp T op')) (ha : IE T E X a f) (hb : IE T E X b g) (hc : IE T E X c h) (hm : lastMarks [o, o'] [b, c] = false := by with_unfolding_all rfl) : IB T E X (.Compare a [o, o'] [b, c] pos) (bVal (eChain op op' f g h)) :=
  PT.mono (pt_chain (pos := pos) ho ho' ha hb hc hm) fun σ H Q q => rd_chain (tI_bVal q)
variable {st : Stmt} {sts rest : List Stmt} {s t : ES}
theorem CP.le {w w' : Wd} {D : Ends} {c : Ctl} {S : Store} (l : w.le w') (h : CP T w D c S) : CP T w' D c S := by
  cases c with
  | nx e => exact fun w2 H2 σ2 l2 => h w2 H2 σ2 (l.trans l2)
  | rt d => exact fun w2 H2 v l2 => h w2 H2 v (l.trans l2)
  | bk e => exact fun w2 H2 σ2 l2 => h w2 H2 σ2 (l.trans l2)
  | ct e => exact fun w2 H2 σ2 l2 => h w2 H2 σ2 (l.trans l2)
theorem is_one (h : IS T E X st s) : ISs T E X [st] s := pss_one h
theorem is_nil : ISs T E X [] sPass := PSs.mono pss_nil fun D σ H ⟨w, env, S, r, e, q⟩ => q w H σ (Wd.le.refl _) r e
theorem is_cons (h1 : IS T E X st s) (h2 : ISs T E X rest t) : ISs T E X (st :: rest) (sSeq s t) :=
  PSs.mono (pss_cons h1 h2) fun D σ H ⟨w, env, S, r, e, q⟩ => ⟨w, env, S, r, e, (RP.bnd q).mono (fun c S1 h1 => by
    cases c with
    | nx e1 => exact fun w1 H1 σ1 l1 r1 p1 => ⟨w1, e1, S1, r1, p1, RP.mono h1 (fun c S2 h2 => CP.le l1 h2) fun _ _ _ x => x.le l1⟩
    | rt d => exact h1
    | bk e => exact h1
    | ct e => exact h1) fun _ _ _ x => x⟩
theorem is_set {i : Nat} {x : Str} {p' : Pos} (hN : X.N.Nodup) (hi : X.N[i]? = some x) (hx : Loc X.env.scope x) (he : IE T E X a f) (hs : swapsWith a (some (.Name x p')) pos.line X.env = pure false := by rfl) (hf : X.fn x = true ∨ X.env.scope.names.lookup x = some .local := by first | exact .inl rfl | exact .inr rfl | assumption) :
    IS T E X (.Assign [.Name x p'] a pos) (sSet i f) :=
  PS.mono (ps_set hN hi hx he hs hf) fun D σ H ⟨w, env, S, r, e, q⟩ => ⟨w, env, S, r, e, (RP.bnd q).mono (fun d S1 h1 w1 H1 v l1 r1 p1 => h1 w1 H1 _ l1 r1 ((e.mono l1).set p1 i)) fun _ _ _ x => x⟩
theorem is_ret (he : IE T E X a f) : IS T E X (.Return (some a) pos) (sRet f) :=
  PS.mono (ps_ret he) fun D σ H ⟨w, env, S, r, e, q⟩ => ⟨w, env, S, r, e, (RP.bnd q).mono (fun d S1 h1 w1 H1 v l1 r1 p1 => h1 w1 H1 v l1 r1 p1) fun _ _ _ x => x⟩
theorem is_expr (he : IE T E X a f) (hs : swapsWith a none pos.line X.env = pure false := by rfl) : IS T E X (.Expr a pos) (sExpr f) :=
  PS.mono (ps_expr he hs) fun D σ H ⟨w, env, S, r, e, q⟩ => ⟨w, env, S, r, e, (RP.bnd q).mono (fun d S1 h1 w1 H1 v l1 r1 p1 => h1 w1 H1 _ l1 r1 (e.mono l1)) fun _ _ _ x => x⟩
theorem is_if {bs cs : List Stmt} (hc : IB T E X c fb) (ha : ISs T E X bs s) (hb : ISs T E X cs t) : IS T E X (.If c bs cs pos) (sIf fb s t) :=
  PS.mono (ps_if hc ha hb) fun D σ H ⟨w, env, S, r, e, q⟩ => ⟨w, env, S, r, e, (RP.bnd q).mono (fun k S1 h1 w1 H1 l1 r1 => by
    cases k with
    | true => exact ⟨w1, env, S1, r1, e.mono l1, RP.mono h1 (fun c S2 h2 => CP.le l1 h2) fun _ _ _ x => x.le l1⟩
    | false => exact ⟨w1, env, S1, r1, e.mono l1, RP.mono h1 (fun c S2 h2 => CP.le l1 h2) fun _ _ _ x => x.le l1⟩) fun _ _ _ x => x⟩
theorem wipe_len (σ : St) : ∀ vs : List Nat, (wipe σ vs).length = σ.length := wipe_length σ
theorem wipe_get (σ : St) (j : Nat) : ∀ vs : List Nat, (wipe σ vs)[j]? = if j ∈ vs then (if j < σ.length then some none else none) else σ[j]?
  | [] => by simp [wipe]
  | v :: vs => by
    show ((wipe σ vs).set v none)[j]? = _
    by_cases h : v = j
    · subst h
      rw [List.getElem?_set]
      simp [wipe_len]
    · rw [List.getElem?_set_ne h, wipe_get σ j vs]
      have e : (j ∈ v :: vs) ↔ j ∈ vs := by simp [Ne.symm h]
      simp only [e]
theorem wipe_set {σ : St} {i : Nat} {x : Option V} {vs : List Nat} (h : i ∈ vs) : wipe (σ.set i x) vs = wipe σ vs := by
  apply List.ext_getElem?
  intro j
  rw [wipe_get, wipe_get, List.length_set]
  by_cases hj : j ∈ vs
  · rw [if_pos hj, if_pos hj]
  · rw [if_neg hj, if_neg hj, List.getElem?_set_ne (fun z => hj (by rw [← z]; exact h))]
theorem wipe_wipe (σ : St) (vs : List Nat) : wipe (wipe σ vs) vs = wipe σ vs := by
  apply List.ext_getElem?
  intro j
  rw [wipe_get, wipe_get, wipe_len]
  by_cases hj : j ∈ vs
  · rw [if_pos hj, if_pos hj]
  · rw [if_neg hj, if_neg hj]
def gI (T : Tb) (vs : List Nat) (p : Pat) : TG := fun v σ H Q => ∃ w env S d e, WR T w S H ∧ ER T w env σ ∧ Rep T w d v ∧ p d env = some e ∧ ∀ σ', ER T w e σ' → wipe σ' vs = wipe σ vs → Q σ' H
def gIs (T : Tb) (vs : List Nat) (p : List D → Env → Option Env) : TGs := fun us σ H Q => ∃ w env S ds e, WR T w S H ∧ ER T w env σ ∧ Reps T w ds us ∧ p ds env = some e ∧ ∀ σ', ER T w e σ' → wipe σ' vs = wipe σ vs → Q σ' H
def IG (T : Tb) (X : Cx) (vs : List Nat) (tg : Expr) (p : Pat) : Prop := PG X tg (gI T vs p)
def IGs (T : Tb) (X : Cx) (vs : List Nat) (tg : List Expr) (p : List D → Env → Option Env) : Prop := PGs X tg (gIs T vs p)
theorem PG.mono {X : Cx} {e : Expr} {t t' : TG} (h : PG X e t) (k : ∀ v σ H Q, t' v σ H Q → t v σ H Q) : PG X e t' := ⟨fun pins s σ H v u Q I r q => h.run pins s σ H v u Q I r (k _ _ _ _ q)⟩
theorem PGs.mono {X : Cx} {e : List Expr} {t t' : TGs} (h : PGs X e t) (k : ∀ v σ H Q, t' v σ H Q → t v σ H Q) : PGs X e t' := ⟨fun pins s σ H v u Q I r q => h.run pins s σ H v u Q I r (k _ _ _ _ q)⟩
variable {vs : List Nat}
theorem ig_name {i : Nat} {x : Str} (hN : X.N.Nodup) (hi : X.N[i]? = some x) (hx : Loc X.env.scope x) (hv : i ∈ vs := by decide) (hf : X.fn x = true ∨ X.env.scope.names.lookup x = some .local := by first | exact .inl rfl | exact .inr rfl | assumption) : IG T X vs (.Name x pos) (pName i) :=
  PG.mono (pg_name hN hi hx hf) fun v σ H Q ⟨w, env, S, d, e, r, q, p, h, k⟩ => by
    cases h
    exact k _ (q.set p i) (wipe_set hv)
theorem igs_nil : IGs T X vs [] pNil := PGs.mono pgs_nil fun v σ H Q ⟨w, env, S, d, e, r, q, p, h, k⟩ => by
  cases p with
  | nil => cases h; exact ⟨rfl, k _ q rfl⟩
  | cons _ _ => cases h
theorem igs_cons {p : Pat} {ps : List D → Env → Option Env} (h1 : IG T X vs a p) (h2 : IGs T X vs es ps) (hs : (assignEach (a :: es) X.env).map (·.2) = assign a X.env :: (assignEach es X.env).map (·.2) := by rfl) : IGs T X vs (a :: es) (pCons p ps) :=
  PGs.mono (pgs_cons h1 h2 hs) fun v σ H Q ⟨w, env, S, d, e, r, q, p0, h, k⟩ => by
    cases p0 with
    | nil => cases h
    | @cons d1 v1 ds us p1 p2 =>
      have h : (p d1 env).bind (fun e => ps ds e) = some e := h
      cases z : p d1 env with
      | none => rw [z] at h; cases h
      | some e1 =>
        rw [z] at h
        exact ⟨_, _, rfl, w, env, S, d1, e1, r, q, p1, z, fun σ1 q1 z1 => ⟨w, e1, S, ds, e, r, q1, p2, h, fun σ2 q2 z2 => k σ2 q2 (z2.trans z1)⟩⟩
theorem ig_tup {ps : List D → Env → Option Env} {k n : Nat} (hc : X.calm = true) (h : IGs T X vs es ps) (hl : ∀ ds env e, ps ds env = some e → ds.length = n) (hK : X.K = T.K := by rfl)
    (hn : (assignEach es X.env).length = n := by rfl) (hst : (assignEach es X.env).findIdx? (·.1) = none := by rfl) : IG T X vs (.Tuple es k pos) (pTup ps) :=
  PG.mono (pg_tup hc h hn hst) fun v σ H Q ⟨w, env, S, d, e, r, q, p0, h, k⟩ => by
    cases p0 with
    | tup q2 r2 => exact ⟨_, _, rfl, by rw [hK]; exact sqt_sub r q2, by rw [← r2.length]; exact hl _ _ _ h, w, env, S, _, e, r, q, r2, h, k⟩
    | _ => cases h
theorem is_unp {p : Pat} (he : IE T E X a f) (hg : IG T X vs b p) (hs : swapsWithSole [b] a pos.line X.env = pure false := by rfl) (hw : swappedStores [b] a X.env = pure none := by rfl) (h1 : (assignEach [b] X.env).map (·.2) = [assign b X.env] := by rfl) : IS T E X (.Assign [b] a pos) (sUnp p f) :=
  PS.mono (ps_asg he hg hs hw h1) fun D σ H ⟨w, env, S, r, e, q⟩ => ⟨w, env, S, r, e, (RP.bnd q).mono (fun d S1 h1 w1 H1 v l1 r1 p1 => by
    cases z : p d env with
    | none => rw [z] at h1; exact (show False from h1).elim
    | some e1 =>
      rw [z] at h1
      exact ⟨w1, env, S1, d, e1, r1, e.mono l1, p1, z, fun σ' q' _ => h1 w1 H1 σ' l1 r1 q'⟩) fun _ _ _ x => x⟩
end Ro
end
section
set_option Elab.async false
set_option linter.all false
set_option maxRecDepth 100000
set_option maxHeartbeats 4000000
namespace Ro
open PySem PySem.Spec PyProof.Rows L2
variable {T : Tb} {E : XK} {X : Cx} {a b c : Expr} {es : List Expr} {f g h : EX} {fa ga : AX} {fb gb : BX} {pos : Pos} {st : Stmt} {sts rest : List Stmt} {s t : ES}
structure ItR (T : Tb) (w : Wd) (ds : List D) (J : It) : Prop where
  goS : ∀ (i : Nat) H w' S, w.sb w' → WR T w' S H → i < ds.length → J.go i H
  stopS : ∀ (i : Nat) H w' S, w.sb w' → WR T w' S H → ds.length ≤ i → J.stop i H
  yldS : ∀ (i : Nat) H x H' w' S d, w.sb w' → WR T w' S H → ds[i]? = some d → J.yld i H x H' → ∃ w2, w'.le w2 ∧ WR T w2 S H' ∧ Rep T w2 d x
theorem ItR.go {T : Tb} {w : Wd} {ds : List D} {J : It} (it : ItR T w ds J) (i : Nat) (H : Hp) (w' : Wd) (S : Store) (l : w.le w') (r : WR T w' S H) (h : i < ds.length) : J.go i H := it.goS i H w' S l.tosb r h
theorem ItR.stop {T : Tb} {w : Wd} {ds : List D} {J : It} (it : ItR T w ds J) (i : Nat) (H : Hp) (w' : Wd) (S : Store) (l : w.le w') (r : WR T w' S H) (h : ds.length ≤ i) : J.stop i H := it.stopS i H w' S l.tosb r h
theorem ItR.yld {T : Tb} {w : Wd} {ds : List D} {J : It} (it : ItR T w ds J) (i : Nat) (H : Hp) (x : V) (H' : Hp) (w' : Wd) (S : Store) (d : D) (l : w.le w') (r : WR T w' S H) (hd : ds[i]? = some d) (y : J.yld i H x H') : ∃ w2, w'.le w2 ∧ WR T w2 S H' ∧ Rep T w2 d x := it.yldS i H x H' w' S d l.tosb r hd y
def tII (T : Tb) (E : XK) (fa : AX) : TI := fun σ H R => ∃ w env S, WR T w S H ∧ ER T w env σ ∧ RP (fa env S) (fun ds S' => ∀ w' H' J, w.le w' → WR T w' S' H' → ItR T w' ds J → R J H') (XW T w E)
def II (T : Tb) (E : XK) (X : Cx) (tg iter : Expr) (fa : AX) : Prop := PI X tg iter (tII T E fa)
theorem PI.mono {X : Cx} {tg e : Expr} {t t' : TI} (h : PI X tg e t) (k : ∀ σ H R, t' σ H R → t σ H R) : PI X tg e t' := ⟨fun pins s σ H R I q => h.run pins s σ H R I (k _ _ _ q)⟩
theorem is_for {tg iter : Expr} {body : List Stmt} {p : Pat} (hp : PassesOwn (model X.prog X.w) X.A X.env X.xe) (hc : X.calm = true) (hi : II T E X tg iter fa) {vs : List Nat} (hg : IG T X vs tg p) (hb : ISs T E X body s) (hs : ∀ x, foldedSetIterable iter X.env x = pure x := by intro _; rfl) : IS T E X (.For tg iter body [] pos) (sFor fa p s) :=
  PS.mono (ps_for hp hc hi hg hb hs) fun D σ H ⟨w, env, S, r, e, q⟩ => ⟨w, env, S, r, e, (RP.bnd q).mono (fun ds S1 h1 w1 H1 J l1 r1 it => by
    refine ⟨fun i m σ H => m = ds.length - i ∧ i ≤ ds.length ∧ ∃ w env S, w1.le w ∧ WR T w S H ∧ ER T w env σ ∧ RP (loop p s (ds.drop i) env S) (CP T w D) (XW T w E),
      ⟨ds.length, by simp, Nat.zero_le _, w1, env, S1, Wd.le.refl _, r1, e.mono l1, RP.mono h1 (fun c S2 h2 => CP.le l1 h2) fun _ _ _ x => x.le l1⟩, ?_⟩
    rintro i m σ H ⟨rfl, hi, w, env, S, l, r, e, q⟩
    by_cases hlt : i < ds.length
    · refine .inr ⟨it.go i H w S l r hlt, fun σ H => i + 1 ≤ ds.length ∧ ∃ w env S, w1.le w ∧ WR T w S H ∧ ER T w env σ ∧ RP (loop p s (ds.drop (i + 1)) env S) (CP T w D) (XW T w E), fun σ' H' h => ⟨ds.length - (i + 1), by omega, rfl, h⟩, fun x H' y => ?_⟩
      obtain ⟨w2, l2, r2, p2⟩ := it.yld i H x H' w S ds[i] l r (List.getElem?_eq_getElem hlt) y
      rw [List.drop_eq_getElem_cons hlt] at q
      unfold loop at q
      cases z : p ds[i] env with
      | none => rw [z] at q; exact (show False from q).elim
      | some e1 =>
        rw [z] at q
        refine ⟨w2, env, S, ds[i], e1, r2, e.mono l2, p2, z, fun σ2 q2 _ => ⟨w2, e1, S, r2, q2, (RP.bnd q).mono (fun c S3 h3 => ?_) fun _ _ _ x => x.le l2⟩⟩
        cases c with
        | nx e3 => exact fun w4 H4 σ4 l4 r4 q4 => ⟨hlt, w4, e3, S3, (l.trans l2).trans l4, r4, q4, RP.mono h3 (fun c S5 h5 => CP.le (l2.trans l4) h5) fun _ _ _ x => x.le (l2.trans l4)⟩
        | ct e3 => exact fun w4 H4 σ4 l4 r4 q4 => ⟨hlt, w4, e3, S3, (l.trans l2).trans l4, r4, q4, RP.mono h3 (fun c S5 h5 => CP.le (l2.trans l4) h5) fun _ _ _ x => x.le (l2.trans l4)⟩
        | bk e3 => exact fun w4 H4 σ4 l4 => h3 w4 H4 σ4 (l2.trans l4)
        | rt d => exact fun w4 H4 v l4 => h3 w4 H4 v (l2.trans l4)
    · have e0 : ds.drop i = [] := List.drop_of_length_le (by omega)
      rw [e0] at q
      exact .inl ⟨it.stop i H w S l r (by omega), q w H σ (Wd.le.refl _) r e⟩) fun _ _ _ x => x⟩
/-- a list, a tuple that stands still -/
def itSeq (f : EX) : AX := fun env S => (f env S).bnd fun d S1 => match d with
  | .lst l => .ok l S1
  | _ => .bad
def itTup (f : EX) : AX := fun env S => (f env S).bnd fun d S1 => match d with
  | .tup l => .ok l S1
  | _ => .bad
theorem itR_lst {w : Wd} {l : List D} {p : Addr} {vs : List V} (q : SqL T.K w.G p vs) (r : Reps T w l vs) : ItR T w l (Itl T.K p) where
  goS := fun i H w' S l1 r1 hi => by
    obtain ⟨v, h1, _⟩ := r.get (List.getElem?_eq_getElem hi)
    exact ⟨vs, v, sql_sub r1 (sql_le l1 q), h1⟩
  stopS := fun i H w' S l1 r1 hi => ⟨vs, sql_sub r1 (sql_le l1 q), by rw [← r.length]; exact hi⟩
  yldS := fun i H x H' w' S d l1 r1 hd y => by
    obtain ⟨rfl, y⟩ := y
    obtain ⟨v, h1, h2⟩ := r.get hd
    have e := y vs (sql_sub r1 (sql_le l1 q))
    rw [h1] at e
    cases e
    exact ⟨w', Wd.le.refl _, r1, h2.monoS l1⟩
theorem itR_tup {w : Wd} {l : List D} {p : Addr} {vs : List V} (q : SqT T.K w.G p vs) (r : Reps T w l vs) : ItR T w l (Itt T.K p) where
  goS := fun i H w' S l1 r1 hi => by
    obtain ⟨v, h1, _⟩ := r.get (List.getElem?_eq_getElem hi)
    exact ⟨vs, v, sqt_sub r1 (sqt_le l1 q), h1⟩
  stopS := fun i H w' S l1 r1 hi => ⟨vs, sqt_sub r1 (sqt_le l1 q), by rw [← r.length]; exact hi⟩
  yldS := fun i H x H' w' S d l1 r1 hd y => by
    obtain ⟨rfl, y⟩ := y
    obtain ⟨v, h1, h2⟩ := r.get hd
    have e := y vs (sqt_sub r1 (sqt_le l1 q))
    rw [h1] at e
    cases e
    exact ⟨w', Wd.le.refl _, r1, h2.monoS l1⟩
theorem ii_lst {tg : Expr} (hK : X.K = T.K) (h : IE T E X a f) : II T E X tg a (itSeq f) :=
  PI.mono (pi_list h) fun σ H Rr ⟨w, env, S, r, e, q⟩ => ⟨w, env, S, r, e, (RP.bnd q).mono (fun d S1 h1 w1 H1 v l1 r1 p1 => by
    cases p1 with
    | lst q2 r2 =>
      refine ⟨_, rfl, ⟨_, .inl (.inl (r1.sub _ _ q2))⟩, ?_⟩
      rw [hK]
      exact h1 w1 H1 _ l1 r1 (itR_lst (.inl (.inl q2)) r2)
    | _ => exact (show False from h1).elim) fun _ _ _ x => x⟩
theorem ii_tup {tg : Expr} (hK : X.K = T.K) (h : IE T E X a f) : II T E X tg a (itTup f) :=
  PI.mono (pi_tup h) fun σ H Rr ⟨w, env, S, r, e, q⟩ => ⟨w, env, S, r, e, (RP.bnd q).mono (fun d S1 h1 w1 H1 v l1 r1 p1 => by
    cases p1 with
    | tup q2 r2 =>
      refine ⟨_, rfl, ⟨_, by rw [hK]; exact sqt_sub r1 q2⟩, ?_⟩
      rw [hK]
      exact h1 w1 H1 _ l1 r1 (itR_tup q2 r2)
    | _ => exact (show False from h1).elim) fun _ _ _ x => x⟩
/-- lo, lo + 1, .. -/
def rngL (lo : Int) (n : Nat) : List D := (List.range n).map fun i : Nat => D.int (lo + (i : Int))
def small62 (i : Int) : Bool := decide (-(2 ^ 62) ≤ i ∧ i < 2 ^ 62)
def itR1 (fa : AX) : AX := fun env S => (fa env S).bnd fun ds S1 => match ds with
  | [.int j] => if small62 j then .ok (rngL 0 j.toNat) S1 else .bad
  | _ => .bad
def itR2 (fa : AX) : AX := fun env S => (fa env S).bnd fun ds S1 => match ds with
  | [.int i, .int j] => if small62 i && small62 j then .ok (rngL i (j - i).toNat) S1 else .bad
  | _ => .bad
theorem itR_rng {w : Wd} {lo : Int} {n : Nat} : ItR T w (rngL lo n) (Itr lo n) where
  goS := fun i H w' S l1 r1 hi => by
    have e : (rngL lo n).length = n := by unfold rngL; simp
    rw [e] at hi
    exact hi
  stopS := fun i H w' S l1 r1 hi => by
    have e : (rngL lo n).length = n := by unfold rngL; simp
    rw [e] at hi
    exact hi
  yldS := fun i H x H' w' S d l1 r1 hd y => by
    obtain ⟨rfl, rfl⟩ := y
    unfold rngL at hd
    rw [List.getElem?_map] at hd
    cases z : (List.range n)[i]? with
    | none => rw [z] at hd; cases hd
    | some k =>
      rw [z] at hd
      obtain ⟨hl, e⟩ := List.getElem?_eq_some_iff.mp z
      rw [List.getElem_range] at e
      subst e
      cases hd
      exact ⟨w', Wd.le.refl _, r1, .int _⟩
theorem ii_r1 {tg : Expr} {p : Pos} (hg : Gl X "range") (hm : X.mg "range" = none) (ha : IA T E X [a] fa) (hs : starEach [a] X.env = [(false, eval a X.env)] := by rfl) : II T E X tg (.Call (.Name "range" p) [a] [] pos) (itR1 fa) :=
  PI.mono (pi_range1 hg hm ha hs) fun σ H Rr ⟨w, env, S, r, e, q⟩ => ⟨w, env, S, r, e, (RP.bnd q).mono (fun ds S1 h1 w1 H1 v l1 r1 p1 => by
    split at h1
    · rename_i j
      cases p1 with
      | cons p2 p3 =>
        cases p2; cases p3
        by_cases hj : small62 j
        · rw [if_pos hj] at h1
          have hj' := of_decide_eq_true hj
          exact ⟨j, rfl, hj'.1, hj'.2, h1 w1 H1 _ l1 r1 itR_rng⟩
        · rw [if_neg hj] at h1
          exact (show False from h1).elim
    · exact (show False from h1).elim) fun _ _ _ x => x⟩
def spI (T : Tb) (n : Nat) (m : Fn) : Sp := fun vs H Q E => vs.length = n ∧ ∃ w ds S, WR T w S H ∧ Reps T w ds vs ∧ RP (m ds S) (fun d S' => ∀ w' H' v, w.le w' → WR T w' S' H' → Rep T w' d v → Q v H') (XW T w E)
theorem er_start {w : Wd} {N : List Str} {ds : List D} {vs : List V} (r : Reps T w ds vs) : ER T w (ds.map some ++ List.replicate (N.length - ds.length) none) (L2.start N vs) := by
  refine ⟨by simp [L2.start, r.length], fun i d h => ?_⟩
  by_cases hi : i < ds.length
  · rw [List.getElem?_append_left (by simpa using hi), List.getElem?_map] at h
    cases z : ds[i]? with
    | none => rw [z] at h; cases h
    | some d2 =>
      rw [z] at h
      have e : d2 = d := by simpa using h
      subst e
      obtain ⟨v, h1, h2⟩ := r.get z
      refine ⟨v, ?_, h2⟩
      unfold L2.start
      rw [List.getElem?_append_left (by rw [List.length_map, ← r.length]; exact hi), List.getElem?_map, h1]
      rfl
  · rw [List.getElem?_append_right (by simpa using hi)] at h
    rw [List.getElem?_replicate] at h
    split at h <;> cases h
/-- room, and no repr under way -/
structure RG (k : Nat) (A : Around) : Prop where
  rm : Room k A
  gd : A.guards = some []
theorem RG.mono {j k : Nat} {A : Around} (r : RG k A) (h : j ≤ k) : RG j A := ⟨r.rm.mono h, r.gd⟩
theorem RG.deeper {k : Nat} {A : Around} (r : RG (k + 1) A) (env : PySem.Env) : RG k (A.deeper env) := ⟨r.rm.deeper env, r.gd⟩
theorem RG.in1 {k : Nat} {A : Around} (r : RG (k + 1) A) : RG k A.in1 := ⟨r.rm.in1, r.gd⟩
theorem RG.make {k : Nat} {A : Around} (r : RG (k + 1) A) (c : Addr) (us : List Value) (kw : List (Str × Value)) : RG k (A.under (.builtin "type.__call__" ⟨.ref c :: us, kw⟩)) :=
  ⟨r.rm.make c us kw, by
    have e := r.gd
    have g : Code.guards (.builtin "type.__call__" ⟨.ref c :: us, kw⟩) = [] := by
      unfold Code.guards
      rw [if_neg (by show ¬ (guardIds.contains "type.__call__" = true); decide)]
    show pushGuards (Code.guards (.builtin "type.__call__" ⟨.ref c :: us, kw⟩)) A.guards = some []
    rw [g]
    exact e⟩
/-- .. a def that runs wherever there is room and no repr is under way -/
structure FnG (P : Program) (w : World) (K : PySem.W.Frag) (mg : Str → Option Value) (base : Heap) (k : Nat) (fp : Addr) (fd : FuncData) (ps : List Str) (sp : Sp) : Prop where
  run : ∀ (A : Around) (below : List PySem.Env) (s : Shared) (H : Hp) (ar : Args) (us : List Value) (vs : List V) (Q : VK) (E : XK), RG k A → Env0 P w K mg base A below s H → BindsTo s fd ar (ps.zip us) → Vals vs us → sp vs H Q E →
    codeAny (model P w) A (.call (.ref fp) ar) (CR (L2N.CX P w) below P w H s Q E) s
theorem FnG.mono {P : Program} {w : World} {K : PySem.W.Frag} {mg : Str → Option Value} {base : Heap} {j k : Nat} {fp : Addr} {fd : FuncData} {ps : List Str} {sp : Sp} (F : FnG P w K mg base j fp fd ps sp) (h : j ≤ k) : FnG P w K mg base k fp fd ps sp :=
  ⟨fun A below s H ar us vs Q E hr => F.run A below s H ar us vs Q E (hr.mono h)⟩
theorem fnG_of {P : Program} {w : World} {K : PySem.W.Frag} {mg : Str → Option Value} {base : Heap} {k : Nat} {fp : Addr} {nm ql : Str} {prm : Arguments} {bd : List Stmt} {scp : Scope} {dV kV doc pm cdv ct oc : Value} {an od : Option Addr}
    {osl : Array (Option Value)} {N ps : List Str} {sp : Sp} (look : K.lookup fp = some ⟨oc, od, .func (PySem.W.fnOf nm ql prm bd scp dV kV doc pm an cdv ct), osl⟩) (code : PySem.W.codeIn K cdv ql = true) (Sc : FnScope N ps scp)
    (len : ∀ vs H Q E, sp vs H Q E → vs.length = ps.length)
    (h : ∀ (A : Around) (below : List PySem.Env) (s : Shared) (H : Hp) (vs : List V) (Q : VK) (E : XK), RG k (A.deeper (envOfC ql scp s.heap.objs.size fp cdv)) → sp vs H Q E →
      ∃ t, PSs (cxOf (L2N.CX P w) P w K mg base N ql scp fp cdv A below s H E) bd t ∧ t { nx := fun _ H' => Q .non H', rt := Q } (L2.start N vs) H) :
    FnG P w K mg base (k + 1) fp (PySem.W.fnOf nm ql prm bd scp dV kV doc pm an cdv ct) ps sp := by
  constructor
  intro A below s H ar us vs Q E hr env0 hbd rv hsp
  have hlen := len _ _ _ _ hsp
  have inK : K.In s.heap := env0.mod.kin.keeps fun b o q => (env0.bs b o q).1
  have noLim : s.heap.NoLimit := env0.mod.nolimit.keeps fun b o q => (env0.bs b o q).1
  have kinds : ∀ z ∈ ps.zip us, scp.names.lookup z.1 = some .local ∨ (scp.names.lookup z.1 = some .cell ∧ ((cellsFrom (s.heap.objs.size + 1) scp.names []).lookup z.1).isSome = true) := by
    rintro ⟨n, v⟩ hz
    rcases Sc.par n (List.of_mem_zip hz).1 with k1 | k1
    · exact Or.inl k1
    · exact Or.inr ⟨k1, PySem.W.cellsFrom_some _ _ _ (Or.inl k1)⟩
  refine codeAny_call_function hr.rm.depth (inK _ _ look) rfl Sc.co Sc.gen rfl (PySem.W.codeRec_of inK code) (hbd _ _ _ _ ?_)
  refine wpAny_newFunctionEnv_cells Sc.kind kinds fun en hen st hx => ?_
  subst hen
  obtain ⟨t, runs, ends⟩ := h A below s H vs Q E (hr.deeper _) hsp
  have J0 : Inv (cxOf (L2N.CX P w) P w K mg base N ql scp fp cdv A below s H E) [] (L2.start N vs) H st := inv_start Sc hr.rm.hd env0 hlen rv hx
  refine ⟨noLim.keeps hx.toInCall.keep, codeAny_func (wpAny_mono (runs.run [] st (L2.start N vs) H _ J0 ends) (fun fl st' hs => ?_) fun e st' hs => hs)⟩
  cases fl with
  | ret u =>
    obtain ⟨v, _, H', J, r1, q⟩ := hs
    exact ⟨v, H', J.os, J.bare, J.base, J.hok, r1, q⟩
  | next =>
    obtain ⟨_, H', J, q⟩ := hs
    exact ⟨V.non, H', J.os, J.bare, J.base, J.hok, rfl, q⟩
  | brk => exact hs.elim fun _ z => z.elim fun _ z => z.2.elim
  | cont => exact hs.elim fun _ z => z.elim fun _ z => z.2.elim
/-- a call by it -/
theorem FnG.callBy {X : Cx} {n k : Nat} {fp : Addr} {fd : FuncData} {ps ks : List Str} {sp : Sp} {gg : List Value → List Value → List Value} {gV : List V → List V → List V} {E : XK} {pins : List (Addr × Obj)} {σ : St} {H : Hp} {s : Shared} {Q : VK} {us ws : List Value} {vs zs : List V}
    (F : FnG X.prog X.w X.K X.mg X.base k fp fd ps sp) (hr : RG k X.A) (hb : KBn X.K fd ps n ks gg gV) (hx : Passes (L2N.CX X.prog X.w) X E) (I : Inv X pins σ H s) (rv : Vals vs us) (rz : Vals zs ws) (l1 : vs.length = n) (l2 : zs.length = ks.length) (h : sp (gV vs zs) H Q E) :
    wpAny (model X.prog X.w) X.A (call (.ref fp) us (ks.zip ws)) (EP X pins σ Q) X.xe s := by
  have all := hb.rel rv rz
  have run := F.run X.A X.stack s H ⟨us, ks.zip ws⟩ (gg us ws) (gV vs zs) Q E hr I.env0 (hb.to s us ws I.kIn (rv.length.symm.trans l1) (rz.length.symm.trans l2)) all h
  refine wpAny_call (codeAny_mono run fun r st hq => ?_)
  match r, hq with
  | .error e, hq => exact hx pins σ H s e st I hq
  | .ok (.ret u), hq => exact I.after hq
/-- a new thing by its __init__ -/
theorem FnG.makes {X : Cx} {n k : Nat} {C fp : Addr} {fd : FuncData} {ps ks : List Str} {sp : Sp} {gg : List Value → List Value → List Value} {gV : List V → List V → List V} {E : XK} {pins : List (Addr × Obj)} {σ : St} {H : Hp} {s : Shared} {Q : VK} {us ws : List Value} {vs zs : List V}
    (M : Mk X.K C fp) (F : FnG X.prog X.w X.K X.mg X.base k fp fd ps sp) (hr : RG (k + 1) X.A) (hb : KBn X.K fd ps (n + 1) ks gg gV) (hx : Passes (L2N.CX X.prog X.w) X E) (I : Inv X pins σ H s) (rv : Vals vs us) (rz : Vals zs ws) (l1 : vs.length = n) (l2 : zs.length = ks.length)
    (h : ∀ x dx, H x = none → H dx = none → dx ≠ x → sp (gV (.ref x :: vs) zs) (upd (upd H dx (.own x)) x (.ins C dx [])) (fun v H2 => v = .non ∧ Q (.ref x) H2) E) :
    wpAny (model X.prog X.w) X.A (call (.ref C) us (ks.zip ws)) (EP X pins σ Q) X.xe s := by
  have start := h (s.heap.objs.size + 1) s.heap.objs.size (I.hok.fresh (by omega)) (I.hok.fresh (by omega)) (by intro z; exact absurd z (Nat.ne_of_lt (Nat.lt_succ_self _)))
  have J := Inv.made (C := C) I
  have rv1 : Vals (V.ref (s.heap.objs.size + 1) :: vs) (Value.ref (s.heap.objs.size + 1) :: us) := .cons rfl rv
  have n1 : (Value.ref (s.heap.objs.size + 1) :: us).length = n + 1 := by rw [← rv1.length, List.length_cons, l1]
  have run := F.run _ X.stack _ _ ⟨Value.ref (s.heap.objs.size + 1) :: us, ks.zip ws⟩ _ _ _ E (hr.make C us (ks.zip ws)) (J.env0.make C us (ks.zip ws)) (hb.to _ _ ws J.kIn n1 (rz.length.symm.trans l2)) (hb.rel rv1 rz) start
  refine wpAny_call (make_map (f := fp) I.kIn M.makes M.init (beq_iff_eq.mp M.fn) (codeAny_mono run fun r st hq => ?_))
  match r, hq with
  | .error e, hq => exact hx pins σ _ _ e st J hq
  | .ok (.ret u), hq =>
    obtain ⟨v, H', J3, r3, e3, q3⟩ := J.after hq
    subst e3
    exact ⟨r3, V.ref (s.heap.objs.size + 1), H', J3, rfl, q3⟩
/-- a def of the text keeps what its mirror says -/
structure OkF (T : Tb) (P : Program) (w : World) (mg : Str → Option Value) (base : Heap) (k : Nat) (d : He.DefD) (ps : List Str) (m : Fn) : Prop where
  ex : ∃ fd, FunD T.K d.name d.qual d.params d.body d.scope (d.dvs T.K) [] (He.fAd T.K d.at_) fd ∧ FnG P w T.K mg base k (He.fAd T.K d.at_) fd ps (spI T ps.length m)
theorem OkF.mono {T : Tb} {P : Program} {w : World} {mg : Str → Option Value} {base : Heap} {j k : Nat} {d : He.DefD} {ps : List Str} {m : Fn} (F : OkF T P w mg base j d ps m) (h : j ≤ k) : OkF T P w mg base k d ps m := by
  obtain ⟨fd, F1, F2⟩ := F.ex
  exact ⟨fd, F1, F2.mono h⟩
theorem OkF.mk' {P : Program} {w : World} {mg : Str → Option Value} {base : Heap} {k : Nat} {d : He.DefD} {ps N : List Str} {body : ES} {fd : FuncData}
    (F : FunD T.K d.name d.qual d.params d.body d.scope (d.dvs T.K) [] (He.fAd T.K d.at_) fd) (Sc : FnScope N ps d.scope)
    (h : ∀ (cdv : Value) (A : Around) (outer : List PySem.Env) (s : Shared) (H : Hp) (E : XK), RG k (A.deeper (envOfC d.qual d.scope s.heap.objs.size (He.fAd T.K d.at_) cdv)) →
      ISs T E (cxOf (L2N.CX P w) P w T.K mg base N d.qual d.scope (He.fAd T.K d.at_) cdv A outer s H E) d.body body) : OkF T P w mg base (k + 1) d ps (fnM N.length body) := by
  refine ⟨fd, F, ?_⟩
  obtain ⟨oc, od, dV, kV, doc, pm, an, cdv, ct, osl, rfl, lk, hcd, _, _⟩ := F.ex
  refine fnG_of lk hcd Sc (fun vs H Q E h => h.1) fun A outer s H vs Q E hr hsp => ⟨_, h cdv A outer s H E hr, ?_⟩
  obtain ⟨hl, w0, ds, S, r, q, hm⟩ := hsp
  refine ⟨w0, _, S, r, er_start q, (RP.bnd hm).mono (fun c S1 h1 => ?_) fun _ _ _ x => x⟩
  cases c with
  | rt d => exact h1
  | nx e => exact fun w' H' σ' l r' q' => h1 w' H' .non l r' .non
  | bk e => exact (show False from h1).elim
  | ct e => exact (show False from h1).elim
end Ro
end
section
set_option Elab.async false
set_option linter.all false
set_option maxRecDepth 100000
set_option maxHeartbeats 4000000
namespace Ro
open PySem PySem.Spec PyProof.Rows L2
variable {T : Tb} {E : XK} {X : Cx} {a b c : Expr} {es : List Expr} {f g h : EX} {fa ga fk : AX} {fb gb : BX} {pos : Pos} {st : Stmt} {sts rest : List Stmt} {s t : ES}
theorem reps_get_none {w : Wd} {xs : List D} {us : List V} (r : Reps T w xs us) {i : Nat} (h : xs[i]? = none) : us[i]? = none := by
  have e := List.getElem?_eq_none_iff.mp h
  exact List.getElem?_eq_none_iff.mpr (by rw [← r.length]; exact e)
theorem vals_pick : ∀ (pk : List (Nat × Nat)) {vs ds zs : List V} {us its ws : List Value}, Vals vs us → Vals ds its → Vals zs ws → Vals (pick pk vs ds zs) (pick pk us its ws)
  | [], _, _, _, _, _, _, _, _, _ => .nil
  | q :: pk, vs, ds, zs, us, its, ws, h1, h2, h3 => by
    have ih := vals_pick pk h1 h2 h3
    have key : ∀ {xs : List V} {ys : List Value}, Vals xs ys → Vals (xs[q.2]?).toList (ys[q.2]?).toList := fun {xs ys} r => by
      cases e : xs[q.2]? with
      | none => rw [r.none_of e]; exact .nil
      | some x =>
        obtain ⟨y, e1, e2⟩ := r.get e
        rw [e1]
        exact .cons e2 .nil
    show Vals (((if q.1 = 0 then vs else if q.1 = 1 then ds else zs)[q.2]?).toList ++ pick pk vs ds zs) (((if q.1 = 0 then us else if q.1 = 1 then its else ws)[q.2]?).toList ++ pick pk us its ws)
    refine Vals.append ?_ ih
    by_cases c1 : q.1 = 0
    · rw [if_pos c1, if_pos c1]; exact key h1
    · rw [if_neg c1, if_neg c1]
      by_cases c2 : q.1 = 1
      · rw [if_pos c2, if_pos c2]; exact key h2
      · rw [if_neg c2, if_neg c2]; exact key h3
theorem reps_pick {w : Wd} : ∀ (pk : List (Nat × Nat)) {vs ds zs : List D} {us its ws : List V}, Reps T w vs us → Reps T w ds its → Reps T w zs ws → Reps T w (pick pk vs ds zs) (pick pk us its ws)
  | [], _, _, _, _, _, _, _, _, _ => .nil
  | q :: pk, vs, ds, zs, us, its, ws, h1, h2, h3 => by
    have ih := reps_pick pk h1 h2 h3
    have key : ∀ {xs : List D} {ys : List V}, Reps T w xs ys → Reps T w (xs[q.2]?).toList (ys[q.2]?).toList := fun {xs ys} r => by
      cases e : xs[q.2]? with
      | none => rw [reps_get_none r e]; exact .nil
      | some x =>
        obtain ⟨y, e1, e2⟩ := r.get e
        rw [e1]
        exact .cons e2 .nil
    show Reps T w (((if q.1 = 0 then vs else if q.1 = 1 then ds else zs)[q.2]?).toList ++ pick pk vs ds zs) (((if q.1 = 0 then us else if q.1 = 1 then its else ws)[q.2]?).toList ++ pick pk us its ws)
    refine Reps.append ?_ ih
    by_cases c1 : q.1 = 0
    · rw [if_pos c1, if_pos c1]; exact key h1
    · rw [if_neg c1, if_neg c1]
      by_cases c2 : q.1 = 1
      · rw [if_pos c2, if_pos c2]; exact key h2
      · rw [if_neg c2, if_neg c2]; exact key h3
/-- a call's binding -/
structure KBD (T : Tb) (fd : FuncData) (ps : List Str) (n : Nat) (ks : List Str) (pk : List (Nat × Nat)) (dfs : List D) : Prop where
  ex : ∃ its dvs, KBn T.K fd ps n ks (fun us ws => pick pk us its ws) (fun vs zs => pick pk vs dvs zs) ∧ ∀ w, Reps T w dfs dvs
def dvD : He.Dv → D
  | .bl b => .bl b
  | .int i => .int i
  | .str s => .str s
  | _ => .non
def dvOk : He.Dv → Bool
  | .non => true
  | .bl _ => true
  | .int _ => true
  | .str _ => true
  | _ => false
theorem reps_dfl {K : PySem.W.Frag} {w : Wd} : ∀ {l : List He.Dv}, l.all dvOk = true → Reps T w (l.map dvD) (l.map (He.Dv.v K))
  | [], _ => .nil
  | d :: l, h => by
    obtain ⟨h1, h2⟩ := Bool.and_eq_true_iff.mp (show (dvOk d && l.all dvOk) = true from h)
    refine .cons ?_ (reps_dfl h2)
    cases d <;> first | exact .non | exact .bl _ | exact .int _ | exact .str _ | cases h1
/-- no default is asked -/
theorem kbd_n {x qual : Str} {params : Arguments} {body : List Stmt} {scope : Scope} {f : Addr} {fd : FuncData} {ps ks : List Str} {n : Nat} {pk : List (Nat × Nat)} (F : FunD T.K x qual params body scope [] [] f fd)
    (h : ∀ (kV doc pm : Value) (an : Option Addr) (cdv ct : Value) (us ws : List Value), us.length = n → ws.length = ks.length → bindArgs (PySem.W.fnOf x qual params body scope .none kV doc pm an cdv ct) ⟨us, ks.zip ws⟩ = pure (ps.zip (pick pk us [] ws))) : KBD T fd ps n ks pk [] := by
  obtain ⟨oc, od, dV, kV, doc, pm, an, cdv, ct, osl, rfl, lk, hcd, hD, hK⟩ := F.ex
  rcases hD with ⟨_, rfl⟩ | ⟨e, _⟩
  · exact ⟨[], [], ⟨fun s us ws X l1 l2 => .of_eq (h kV doc pm an cdv ct us ws l1 l2), fun r1 r2 => vals_pick pk r1 .nil r2⟩, fun _ => .nil⟩
  · exact absurd rfl e
theorem kbd_d {x qual : Str} {params : Arguments} {body : List Stmt} {scope : Scope} {f : Addr} {fd : FuncData} {ps ks : List Str} {n : Nat} {pk : List (Nat × Nat)} {l : List He.Dv} (F : FunD T.K x qual params body scope (l.map (He.Dv.v T.K)) [] f fd) (hl : l.all dvOk = true) (hd : l ≠ [])
    (h : ∀ (T : Addr) (kV doc pm : Value) (an : Option Addr) (cdv ct : Value) (us its ws : List Value), us.length = n → its.length = l.length → ws.length = ks.length →
      ∃ k, bindArgs (PySem.W.fnOf x qual params body scope (.ref T) kV doc pm an cdv ct) ⟨us, ks.zip ws⟩ = seqItems? (.ref T) >>= k ∧ k (some its.toArray) = pure (ps.zip (pick pk us its ws))) : KBD T fd ps n ks pk (l.map dvD) := by
  obtain ⟨its, hb⟩ := F.kbindsD (ps := ps) n ks (fun us its ws => pick pk us its ws) (by simpa using hd) (fun r1 r2 r3 => vals_pick pk r1 r2 r3) (fun T kV doc pm an cdv ct us its ws h1 h2 h3 => h T kV doc pm an cdv ct us its ws h1 (by simpa using h2) h3)
  exact ⟨its, _, hb, fun w => reps_dfl hl⟩
def IK (T : Tb) (E : XK) (X : Cx) (kws : List Keyword) (fa : AX) : Prop := PK X kws (tIa T E fa)
theorem PK.mono {X : Cx} {es : List Keyword} {t t' : TA} (h : PK X es t) (k : ∀ σ H Q, t' σ H Q → t σ H Q) : PK X es t' := ⟨fun pos pins s σ H Q I q => h.run pos pins s σ H Q I (k _ _ _ q)⟩
theorem ik_nil : IK T E X [] aNil := PK.mono pk_nil fun σ H Q ⟨w, env, S, r, e, q⟩ => q w H [] (Wd.le.refl _) r .nil
theorem ik_cons {kws : List Keyword} {nm : Option Str} {kpos : Pos} (ha : IE T E X a f) (hr : IK T E X kws fa) : IK T E X (⟨nm, a, kpos⟩ :: kws) (aCons f fa) :=
  PK.mono (pk_cons ha hr) fun σ H Q ⟨w, env, S, r, e, q⟩ => ⟨w, env, S, r, e, (RP.bnd q).mono (fun d S1 h1 w1 H1 x l1 r1 p1 => ⟨w1, env, S1, r1, e.mono l1, (RP.bnd h1).mono (fun ds S2 h2 w2 H2 xs l2 r2 p2 => h2 w2 H2 _ (l1.trans l2) r2 (.cons (p1.mono l2) p2)) fun _ _ _ x => x.le l1⟩) fun _ _ _ x => x⟩
abbrev Pk (T : Tb) (w : Wd) (Q : VK) : D → Store → Prop := fun d S' => ∀ w' H' v, w.le w' → WR T w' S' H' → Rep T w' d v → Q v H'
def AK (T : Tb) (E : XK) (X : Cx) (es : List Expr) (kws : List Keyword) (pos : Pos) (ks : List Str) (fa fk : AX) : Prop :=
  ∀ (pins : List (Addr × Obj)) (s : Shared) (σ : St) (H : Hp) (w : Wd) (env : Env) (S : Store) (m : List D → List D → Store → R D) (Q : VK) (fv : Value) (first : List Value) (Qf : Value → Shared → Prop),
    Inv X pins σ H s → WR T w S H → ER T w env σ → PySem.W.keepIn X.K fv = true → RP ((fa env S).bnd fun xs S1 => (fk env S1).bnd fun zs S2 => m xs zs S2) (Pk T w Q) (XW T w E) →
    (∀ s2 H2 us ws vs zs w2 xs ys S2, Inv X pins σ H2 s2 → w.le w2 → WR T w2 S2 H2 → Vals vs us → Vals zs ws → Reps T w2 xs vs → Reps T w2 ys zs → RP (m xs ys S2) (Pk T w2 Q) (XW T w2 E) → wpAny (model X.prog X.w) X.A (call fv (first ++ us) (ks.zip ws)) Qf X.xe s2) →
    wpAny (model X.prog X.w) X.A (callWith pos fv first (backTo pos (starEach es X.env)) (backToKw pos (keywordEach kws X.env))) Qf X.xe s
theorem ak_cons {kws : List Keyword} {ks : List Str} (ha : IA T E X (a :: es) fa) (hkw : IK T E X kws fk) (hall : (backToKw pos (keywordEach kws X.env)).all (·.1.isSome) = true := by rfl) (hks : (backToKw pos (keywordEach kws X.env)).filterMap (·.1) = ks := by rfl)
    (he : starEach (a :: es) X.env = (false, eval a X.env) :: starEach es X.env := by rfl) (hpl : ((backTo pos (starEach (a :: es) X.env)).any (·.1) || (backToKw pos (keywordEach kws X.env)).any (·.1.isNone)) = false := by rfl) : AK T E X (a :: es) kws pos ks fa fk := by
  intro pins s σ H w env S m Q fv first Qf I r e hk q k
  refine PySem.W.callWith_KW (h₀ := X.base) I.ok.mod.kin hk hall (thn (ha.run pos pins s σ H (fun vs2 H2 => ∃ w1 xs S1, w.le w1 ∧ WR T w1 S1 H2 ∧ Reps T w1 xs vs2 ∧ RP ((fk env S1).bnd fun zs S2 => m xs zs S2) (Pk T w Q) (XW T w E)) I ⟨w, env, S, r, e, (RP.bnd q).mono (fun xs S1 h1 w1 H1 vs l1 r1 p1 => ⟨w1, xs, S1, l1, r1, p1, h1⟩) fun _ _ _ x => x⟩) fun us s1 ⟨vs, H1, I1, rv, q1⟩ => ?_) hpl he
  · obtain ⟨w1, xs, S1, l1, r1, p1, h1⟩ := q1
    refine thn (hkw.run pos pins s1 σ H1 (fun zs H2 => ∃ w2 ys S2, w1.le w2 ∧ WR T w2 S2 H2 ∧ Reps T w2 ys zs ∧ RP (m xs ys S2) (Pk T w Q) (XW T w E)) I1 ⟨w1, env, S1, r1, e.mono l1, (RP.bnd h1).mono (fun ys S2 h2 w2 H2 zs l2 r2 p2 => ⟨w2, ys, S2, l2, r2, p2, h2⟩) fun _ _ _ x => x.le l1⟩) fun ws s2 ⟨zs, H2, I2, rz, w2, ys, S2, l2, r2, p2, h2⟩ => ⟨I2.kIn, ?_⟩
    rw [hks]
    exact k s2 H2 us ws vs zs w2 xs ys S2 I2 (l1.trans l2) r2 rv rz (p1.mono l2) p2 (RP.mono h2 (fun d S' q w' H' v l => q w' H' v ((l1.trans l2).trans l)) fun _ _ _ x => x.le (l1.trans l2))
theorem ak_nil {kws : List Keyword} {ks : List Str} (hkw : IK T E X kws fk) (hall : (backToKw pos (keywordEach kws X.env)).all (·.1.isSome) = true := by rfl) (hks : (backToKw pos (keywordEach kws X.env)).filterMap (·.1) = ks := by rfl)
    (hpl : ((backTo pos (starEach [] X.env)).any (·.1) || (backToKw pos (keywordEach kws X.env)).any (·.1.isNone)) = false := by rfl) : AK T E X [] kws pos ks aNil fk := by
  intro pins s σ H w env S m Q fv first Qf I r e hk q k
  refine PySem.W.callWith_KW0 (h₀ := X.base) I.ok.mod.kin hk hall (thn (hkw.run pos pins s σ H (fun zs H2 => ∃ w2 ys S2, w.le w2 ∧ WR T w2 S2 H2 ∧ Reps T w2 ys zs ∧ RP (m [] ys S2) (Pk T w Q) (XW T w E)) I ⟨w, env, S, r, e, (RP.bnd (show RP ((fk env S).bnd fun ys S2 => m [] ys S2) (Pk T w Q) (XW T w E) from q)).mono (fun ys S2 h2 w2 H2 zs l2 r2 p2 => ⟨w2, ys, S2, l2, r2, p2, h2⟩) fun _ _ _ x => x⟩) fun ws s2 ⟨zs, H2, I2, rz, w2, ys, S2, l2, r2, p2, h2⟩ => ⟨I2.kIn, ?_⟩) hpl
  rw [hks]
  exact k s2 H2 [] ws [] zs w2 [] ys S2 I2 l2 r2 .nil rz .nil p2 (RP.mono h2 (fun d S' q w' H' v l => q w' H' v (l2.trans l)) fun _ _ _ x => x.le l2)
theorem fn_core {k n : Nat} {fd : FuncData} {fp : Addr} {ps ks : List Str} {m : Fn} {pk : List (Nat × Nat)} {dfs : List D} (F : FnG X.prog X.w T.K X.mg X.base k fp fd ps (spI T ps.length m)) (hK : X.K = T.K) (hr : RG k X.A) (hb : KBD T fd ps n ks pk dfs) (tk : L2N.Takes X fun c d _ H => E c d H)
    {pins : List (Addr × Obj)} {s : Shared} {σ : St} {H : Hp} {w : Wd} {S : Store} {us ws : List Value} {vs zs : List V} {xs ys : List D} {Q : VK} (I : Inv X pins σ H s) (r : WR T w S H) (rv : Vals vs us) (rz : Vals zs ws) (px : Reps T w xs vs) (py : Reps T w ys zs)
    (l1 : xs.length = n) (l2 : ys.length = ks.length) (l3 : (pick pk xs dfs ys).length = ps.length) (q : RP (m (pick pk xs dfs ys) S) (Pk T w Q) (XW T w E)) : wpAny (model X.prog X.w) X.A (call (.ref fp) us (ks.zip ws)) (EP X pins σ Q) X.xe s := by
  obtain ⟨its, dvs, kb, rd⟩ := hb.ex
  have F' : FnG X.prog X.w X.K X.mg X.base k fp fd ps (spI T ps.length m) := by rw [hK]; exact F
  have kb' : KBn X.K fd ps n ks (fun us ws => pick pk us its ws) (fun vs zs => pick pk vs dvs zs) := by rw [hK]; exact kb
  have pp := reps_pick pk px (rd w) py
  exact FnG.callBy F' hr kb' (L2N.passes_call tk fun _ _ _ _ h => h) I rv rz (by rw [← px.length]; exact l1) (by rw [← py.length]; exact l2) ⟨by rw [← pp.length]; exact l3, w, _, S, r, pp, q⟩
/-- how many, and put -/
def callM (m : Fn) (n kn pn : Nat) (pk : List (Nat × Nat)) (dfs : List D) : List D → List D → Store → R D := fun xs ys S => if xs.length = n ∧ ys.length = kn ∧ (pick pk xs dfs ys).length = pn then m (pick pk xs dfs ys) S else .bad
def eFn (m : List D → List D → Store → R D) (fa fk : AX) : EX := fun env S => (fa env S).bnd fun xs S1 => (fk env S1).bnd fun zs S2 => m xs zs S2
theorem callM_ok {m : Fn} {n kn pn : Nat} {pk : List (Nat × Nat)} {dfs xs ys : List D} {S : Store} {Pk : D → Store → Prop} {Pe : String → List D → Store → Prop} (h : RP (callM m n kn pn pk dfs xs ys S) Pk Pe) :
    xs.length = n ∧ ys.length = kn ∧ (pick pk xs dfs ys).length = pn ∧ RP (m (pick pk xs dfs ys) S) Pk Pe := by
  unfold callM at h
  by_cases c : xs.length = n ∧ ys.length = kn ∧ (pick pk xs dfs ys).length = pn
  · rw [if_pos c] at h
    exact ⟨c.1, c.2.1, c.2.2, h⟩
  · rw [if_neg c] at h
    exact (show False from h).elim
/-- f(.., k = ..) -/
theorem ie_fn {k n : Nat} {d : He.DefD} {x : Str} {p : Pos} {kws : List Keyword} {ps ks : List Str} {m : Fn} {pk : List (Nat × Nat)} {dfs : List D} (F : OkF T X.prog X.w X.mg X.base k d ps m) (hK : X.K = T.K) (hr : RG k X.A) (hg : Gl X x) (hm : X.mg x = some (.ref (He.fAd T.K d.at_)))
    (hb : ∀ fd, FunD T.K d.name d.qual d.params d.body d.scope (d.dvs T.K) [] (He.fAd T.K d.at_) fd → KBD T fd ps n ks pk dfs) (tk : L2N.Takes X fun c d _ H => E c d H) (ha : AK T E X es kws pos ks fa fk) (hdb : (x == ("__debug__" : Str)) = false := by decide +kernel) :
    IE T E X (.Call (.Name x p) es kws pos) (eFn (callM m n ks.length ps.length pk dfs) fa fk) := by
  obtain ⟨fd, FD, FO⟩ := F.ex
  refine ⟨fun pins s σ H Q I h => ?_⟩
  obtain ⟨w, env, S, r, e, q⟩ := h
  refine wpAny_Call_Name_kw (ld_glob I hg hm ?_ hdb)
  refine ha pins s σ H w env S _ Q _ [] _ I r e (by rw [hK]; exact FD.kp) q fun s2 H2 us ws vs zs w2 xs ys S2 I2 l2 r2 rv rz px py q2 => ?_
  obtain ⟨c1, c2, c3, q3⟩ := callM_ok q2
  exact fn_core FO hK hr (hb fd FD) tk I2 r2 rv rz px py c1 c2 c3 q3
end Ro
end
section
set_option Elab.async false
set_option linter.all false
set_option maxRecDepth 100000
set_option maxHeartbeats 4000000
namespace Ro
open PySem PySem.Spec PyProof.Rows L2
variable {T : Tb} {E : XK} {X : Cx} {a b c : Expr} {es : List Expr} {f g h : EX} {fa ga fk : AX} {fb gb : BX} {pos : Pos} {st : Stmt} {sts rest : List Stmt} {s t : ES}
theorem lookup_rep {w : Wd} {f : String} {d : D} : ∀ {fs : List (String × D)} {gs : List (Str × V)}, gs.map (·.1) = fs.map (fun p => Str.ofString p.1) → Reps T w (fs.map (·.2)) (gs.map (·.2)) → fs.lookup f = some d → ∃ v, gs.lookup (Str.ofString f) = some v ∧ Rep T w d v
  | [], _, _, _, h => by cases h
  | (k, e) :: fs, [], h1, _, _ => by cases h1
  | (k, e) :: fs, (k2, v) :: gs, h1, h2, h3 => by
    have h1' : k2 :: gs.map (·.1) = Str.ofString k :: fs.map (fun p => Str.ofString p.1) := h1
    injection h1' with e1 e2
    have h2' : Reps T w (e :: fs.map (·.2)) (v :: gs.map (·.2)) := h2
    cases h2' with
    | cons r1 r2 =>
      rw [List.lookup_cons] at h3 ⊢
      by_cases hk : f = k
      · subst hk
        rw [beq_self_eq_true] at h3
        have e3 : e = d := Option.some.inj h3
        subst e3
        rw [e1, beq_self_eq_true]
        exact ⟨v, rfl, r1⟩
      · rw [beq_eq_false_iff_ne.mpr hk] at h3
        have hk2 : Str.ofString f ≠ k2 := fun z => hk (ofString_inj.mp (z.trans e1))
        rw [beq_eq_false_iff_ne.mpr hk2]
        exact lookup_rep e2 r2 h3
theorem lookup_none {f : String} : ∀ {fs : List (String × D)} {gs : List (Str × V)}, gs.map (·.1) = fs.map (fun p => Str.ofString p.1) → fs.lookup f = none → gs.lookup (Str.ofString f) = none
  | [], [], _, _ => rfl
  | [], _ :: _, h, _ => by cases h
  | (k, e) :: fs, [], h1, _ => by cases h1
  | (k, e) :: fs, (k2, v) :: gs, h1, h3 => by
    have h1' : k2 :: gs.map (·.1) = Str.ofString k :: fs.map (fun p => Str.ofString p.1) := h1
    injection h1' with e1 e2
    rw [List.lookup_cons] at h3 ⊢
    by_cases hk : f = k
    · subst hk
      rw [beq_self_eq_true] at h3
      cases h3
    · rw [beq_eq_false_iff_ne.mpr hk] at h3
      have hk2 : Str.ofString f ≠ k2 := fun z => hk (ofString_inj.mp (z.trans e1))
      rw [beq_eq_false_iff_ne.mpr hk2]
      exact lookup_none e2 h3
theorem put_rep {w : Wd} {f : String} {d : D} {v : V} (q : Rep T w d v) : ∀ {fs : List (String × D)} {gs : List (Str × V)}, gs.map (·.1) = fs.map (fun p => Str.ofString p.1) → Reps T w (fs.map (·.2)) (gs.map (·.2)) →
    (putF (Str.ofString f) v gs).map (·.1) = (setF f d fs).map (fun p => Str.ofString p.1) ∧ Reps T w ((setF f d fs).map (·.2)) ((putF (Str.ofString f) v gs).map (·.2))
  | [], [], _, _ => ⟨rfl, .cons q .nil⟩
  | [], _ :: _, h, _ => by cases h
  | (k, e) :: fs, [], h1, _ => by cases h1
  | (k, e) :: fs, (k2, u) :: gs, h1, h2 => by
    have h1' : k2 :: gs.map (·.1) = Str.ofString k :: fs.map (fun p => Str.ofString p.1) := h1
    injection h1' with e1 e2
    have h2' : Reps T w (e :: fs.map (·.2)) (u :: gs.map (·.2)) := h2
    cases h2' with
    | cons r1 r2 =>
      show (if k2 = Str.ofString f then (k2, v) :: gs else (k2, u) :: putF (Str.ofString f) v gs).map (·.1) = (if k = f then (f, d) :: fs else (k, e) :: setF f d fs).map (fun p => Str.ofString p.1) ∧ Reps T w ((if k = f then (f, d) :: fs else (k, e) :: setF f d fs).map (·.2)) ((if k2 = Str.ofString f then (k2, v) :: gs else (k2, u) :: putF (Str.ofString f) v gs).map (·.2))
      by_cases hk : k = f
      · subst hk
        rw [if_pos e1, if_pos rfl]
        exact ⟨by rw [List.map_cons, List.map_cons, e2, e1], .cons q r2⟩
      · rw [if_neg hk, if_neg (fun z => hk (ofString_inj.mp (e1.symm.trans z)))]
        obtain ⟨h3, h4⟩ := put_rep q e2 r2
        exact ⟨by rw [List.map_cons, List.map_cons, e1, h3], .cons r1 h4⟩
theorem zip_fst : ∀ {ns : List String} {ds : List D}, ns.length = ds.length → (ns.zip ds).map (fun p => Str.ofString p.1) = ns.map Str.ofString ∧ (ns.zip ds).map (·.2) = ds
  | [], [], _ => ⟨rfl, rfl⟩
  | [], _ :: _, h => by cases h
  | _ :: _, [], h => by cases h
  | n :: ns, d :: ds, h => by
    obtain ⟨h1, h2⟩ := zip_fst (ns := ns) (ds := ds) (Nat.succ.inj h)
    exact ⟨by rw [List.zip_cons_cons, List.map_cons, List.map_cons, h1], by rw [List.zip_cons_cons, List.map_cons, h2]⟩
/-- a thing with fields, as it lies -/
theorem inst_of {w : Wd} {S : Store} {H : Hp} {x : V} {cf : String → List String} (hcf : T.cf = cf) (r : WR T w S H) {d : D} (p : Rep T w d x) :
    (∀ c ds, d = .obj c ds → ∃ a dx gs, x = .ref a ∧ H a = some (.ins (He.ga T.K (c : Str)) dx gs) ∧ gs.map (·.1) = ((cf c).zip ds).map (fun p => Str.ofString p.1) ∧ Reps T w (((cf c).zip ds).map (·.2)) (gs.map (·.2))) ∧
    (∀ n c fs, d = .ref n → S[n]? = some (.ins c fs) → ∃ a dx gs, x = .ref a ∧ w.am[n]? = some a ∧ H a = some (.ins (He.ga T.K (c : Str)) dx gs) ∧ gs.map (·.1) = fs.map (fun p => Str.ofString p.1) ∧ Reps T w (fs.map (·.2)) (gs.map (·.2))) := by
  constructor
  · rintro c ds rfl
    cases p with
    | obj h n q =>
      rename_i a dx fs
      have hl : (cf c).length = ds.length := by
        rw [hcf] at n
        have e := congrArg List.length n
        rw [List.length_map, List.length_map] at e
        rw [q.length, List.length_map]
        exact e.symm
      obtain ⟨z1, z2⟩ := zip_fst hl
      exact ⟨a, dx, fs, rfl, r.sub _ _ h, by rw [z1, n, hcf], by rw [z2]; exact q⟩
  · rintro n c fs rfl hS
    cases p with
    | ref h =>
      obtain ⟨dx, gs, h1, h2, h3⟩ := r.cell n _ _ hS h
      exact ⟨_, dx, gs, rfl, h, h1, h2, h3⟩
theorem ie_attr {cf : String → List String} {cs : List String} {fn : String} (hcf : T.cf = cf) (hK : X.K = T.K) (hc : ∀ c ∈ cs, Cls T.K (He.ga T.K (c : Str)) ∧ NoAttr T.K (He.ga T.K (c : Str)) (fn : Str)) (ha : IE T E X a f) (hb : attributeBase a (fn : Str) X.env (eval a X.env) = eval a X.env := by rfl) :
    IE T E X (.Attribute a (fn : Str) pos) (eAttr cf cs fn f) :=
  PE.mono (pe_fld ha hb) fun σ H Q ⟨w, env, S, r, e, q⟩ => ⟨w, env, S, r, e, (RP.bnd q).mono (fun d S1 h1 w1 H1 x l1 r1 p1 => by
    cases z : attrD cf cs fn d S1 with
    | none => rw [z] at h1; exact (show False from h1).elim
    | some y =>
      rw [z] at h1
      obtain ⟨i1, i2⟩ := inst_of hcf r1 p1
      unfold attrD at z
      split at z
      · rename_i c ds
        by_cases hcs : cs.contains c = true
        · rw [if_pos hcs] at z
          obtain ⟨p, dx, gs, rfl, h3, h4, h5⟩ := i1 c ds rfl
          obtain ⟨v, h6, h7⟩ := lookup_rep h4 h5 z
          obtain ⟨c1, c2⟩ := hc c (by simpa using hcs)
          rw [hK]
          exact ⟨p, _, dx, gs, v, rfl, h3, c1, c2, h6, h1 w1 H1 v l1 r1 h7⟩
        · rw [if_neg hcs] at z; cases z
      · rename_i n
        split at z
        · rename_i c fs hS
          by_cases hcs : cs.contains c = true
          · rw [if_pos hcs] at z
            obtain ⟨p, dx, gs, rfl, _, h3, h4, h5⟩ := i2 n c fs rfl hS
            obtain ⟨v, h6, h7⟩ := lookup_rep h4 h5 z
            obtain ⟨c1, c2⟩ := hc c (by simpa using hcs)
            rw [hK]
            exact ⟨p, _, dx, gs, v, rfl, h3, c1, c2, h6, h1 w1 H1 v l1 r1 h7⟩
          · rw [if_neg hcs] at z; cases z
        · cases z
      · cases z) fun _ _ _ x => x⟩
theorem is_setattr {cs : List String} {fn : String} {pos' : Pos} (hK : X.K = T.K) (hc : ∀ c ∈ cs, Cls T.K (He.ga T.K (c : Str)) ∧ NoAttr T.K (He.ga T.K (c : Str)) (fn : Str)) (ho : IE T E X a f) (hv : IE T E X b g) (hs : swapsWith b (some (.Attribute a (fn : Str) pos')) pos.line X.env = pure false := by rfl) :
    IS T E X (.Assign [.Attribute a (fn : Str) pos'] b pos) (sSetAttr cs fn f g) :=
  PS.mono (ps_fld ho hv hs) fun D σ H ⟨w, env, S, r, e, q⟩ => ⟨w, env, S, r, e, (RP.bnd q).mono (fun y S1 h1 w1 H1 yv l1 r1 p1 => ⟨w1, env, S1, r1, e.mono l1, (RP.bnd h1).mono (fun x S2 h2 w2 H2 xv l2 r2 p2 => by
    split at h2
    · rename_i n
      split at h2
      · rename_i c fs hS
        by_cases hcs : (cs.contains c && decide (fs.length < 1000)) = true
        · rw [if_pos hcs] at h2
          obtain ⟨k1, k2⟩ := Bool.and_eq_true_iff.mp hcs
          obtain ⟨p, dx, gs, rfl, hn, h3, h4, h5⟩ := (inst_of rfl r2 p2).2 n c fs rfl hS
          obtain ⟨c1, c2⟩ := hc c (by simpa using k1)
          have hlen : gs.length < 1000 := by
            have e1 := congrArg List.length h4
            rw [List.length_map, List.length_map] at e1
            rw [e1]
            exact of_decide_eq_true k2
          obtain ⟨h6, h7⟩ := put_rep (T := T) (w := w2) (f := fn) (p1.mono l2) h4 h5
          have r3 := r2.write hS hn (by intro z; cases z) (o' := .ins (He.ga T.K (c : Str)) dx (putF (Str.ofString fn) yv gs)) (c' := .ins c (setF fn y fs)) ⟨dx, _, upd_same, h6, h7⟩
          rw [hK]
          exact ⟨p, _, dx, gs, rfl, h3, c1, c2, hlen, h2 w2 _ σ (l1.trans l2) r3 (e.mono (l1.trans l2))⟩
        · rw [if_neg hcs] at h2; exact (show False from h2).elim
      · exact (show False from h2).elim
    · exact (show False from h2).elim) fun _ _ _ x => x.le l1⟩) fun _ _ _ x => x⟩
theorem inst_at {w : Wd} {S : Store} {H : Hp} {x : V} {cf : String → List String} {c m : String} {d : D} (hcf : T.cf = cf) (r : WR T w S H) (p : Rep T w d x) (h : isInst cf c m d S = true) : ∃ a dx gs, x = .ref a ∧ H a = some (.ins (He.ga T.K (c : Str)) dx gs) ∧ gs.lookup (Str.ofString m) = none := by
  obtain ⟨i1, i2⟩ := inst_of hcf r p
  unfold isInst at h
  split at h
  · rename_i c' ds
    obtain ⟨h1, h2⟩ := Bool.and_eq_true_iff.mp h
    have e : c' = c := by simpa using h1
    subst e
    obtain ⟨a, dx, gs, e1, e2, e3, e4⟩ := i1 c' ds rfl
    refine ⟨a, dx, gs, e1, e2, lookup_none e3 ?_⟩
    have hn : m ∉ cf c' := by simpa using h2
    rw [List.lookup_eq_none_iff]
    rintro ⟨k, v⟩ hp
    have hk : k ∈ cf c' := (List.of_mem_zip hp).1
    simp only [bne_iff_ne, ne_eq, beq_eq_false_iff_ne]
    intro z
    subst z
    exact hn hk
  · rename_i n
    split at h
    · rename_i c' fs hS
      obtain ⟨h1, h2⟩ := Bool.and_eq_true_iff.mp h
      have e : c' = c := by simpa using h1
      subst e
      obtain ⟨a, dx, gs, e1, _, e2, e3, e4⟩ := i2 n c' fs rfl hS
      exact ⟨a, dx, gs, e1, e2, lookup_none e3 (by simpa using h2)⟩
    · cases h
  · cases h
theorem ie_meth {cf : String → List String} {cn mn : String} {k n : Nat} {d : He.DefD} {apos : Pos} {pl : Sem Bool} {kws : List Keyword} {ps ks : List Str} {m : Fn} {pk : List (Nat × Nat)} {dfs : List D} (hcf : T.cf = cf) (F : OkF T X.prog X.w X.mg X.base k d ps m) (hK : X.K = T.K) (hr : RG k X.A)
    (hc : Cls T.K (He.ga T.K (cn : Str))) (hm : Meth T.K (He.ga T.K (cn : Str)) (mn : Str) (He.fAd T.K d.at_))
    (hb : ∀ fd, FunD T.K d.name d.qual d.params d.body d.scope (d.dvs T.K) [] (He.fAd T.K d.at_) fd → KBD T fd ps (n + 1) ks pk dfs) (tk : L2N.Takes X fun c d _ H => E c d H) (ho : IE T E X a f) (ha : AK T E X es kws pos ks fa fk)
    (ht : eval (.Call (.Attribute a (mn : Str) apos) es kws pos) X.env = (do
      let ov ← eval a X.env
      standAt apos.atName
      let (f, first) ← holding [ov] (getMethod ov (mn : Str) pl)
      callWith pos f first (backTo pos (starEach es X.env)) (backToKw pos (keywordEach kws X.env))) := by rfl) :
    IE T E X (.Call (.Attribute a (mn : Str) apos) es kws pos) (eMeth cf cn mn (callM m (n + 1) ks.length ps.length pk dfs) f fa fk) := by
  obtain ⟨fd, FD, FO⟩ := F.ex
  refine ⟨fun pins s σ H Q I h => ?_⟩
  obtain ⟨w, env, S, r, e, q⟩ := h
  refine PySem.W.methodCall_KW (pl := pl) (thn (ho.run pins s σ H (fun x H1 => ∃ w1 d1 S1, w.le w1 ∧ WR T w1 S1 H1 ∧ Rep T w1 d1 x ∧ isInst cf cn mn d1 S1 = true ∧ RP ((fa env S1).bnd fun xs S2 => (fk env S2).bnd fun zs S3 => callM m (n + 1) ks.length ps.length pk dfs (d1 :: xs) zs S3) (Pk T w Q) (XW T w E)) I ⟨w, env, S, r, e, (RP.bnd q).mono (fun d1 S1 h1 w1 H1 x l1 r1 p1 => by
    by_cases hi : isInst cf cn mn d1 S1 = true
    · rw [if_pos hi] at h1
      exact ⟨w1, d1, S1, l1, r1, p1, hi, h1⟩
    · rw [if_neg hi] at h1
      exact (show False from h1).elim) fun _ _ _ x => x⟩) fun u s1 ⟨x, H1, I1, rx, w1, d1, S1, l1, r1, p1, hi, h1⟩ => ?_) ht
  obtain ⟨p, dx, gs, rfl, h3, h4⟩ := inst_at hcf r1 p1 hi
  obtain rfl : u = Value.ref p := rx
  refine getmeth_ok I1 h3 (by rw [hK]; exact hc) (by rw [hK]; exact hm) h4 ?_
  refine ha pins s1 σ H1 w1 env S1 _ Q _ [.ref p] _ I1 r1 (e.mono l1) (by rw [hK]; exact hm.kp) (RP.mono h1 (fun d S' q w' H' v l => q w' H' v (l1.trans l)) fun _ _ _ x => x.le l1) fun s2 H2 us ws vs zs w2 xs ys S2 I2 l2 r2 rv rz px py q2 => ?_
  obtain ⟨c1, c2, c3, q3⟩ := callM_ok q2
  exact fn_core FO hK hr (hb fd FD) tk I2 r2 (.cons (show RelV (V.ref p) (Value.ref p) from rfl) rv) rz (.cons (p1.mono l2) px) py c1 c2 c3 q3
end Ro
end
section
set_option Elab.async false
set_option linter.all false
set_option maxRecDepth 100000
set_option maxHeartbeats 4000000
namespace Ro
open PySem PySem.Spec PyProof.Rows L2
variable {T : Tb} {E : XK} {X : Cx} {a b c : Expr} {es : List Expr} {f g h : EX} {fa ga fk : AX} {fb gb : BX} {pos : Pos} {st : Stmt} {sts rest : List Stmt} {s t : ES}
theorem orOp2 {fn : Value → Value → Sem Value} {op : D → D → Option D} (h : ∀ w d e r S x y H Q, WR T w S H → Rep T w d x → Rep T w e y → op d e = some r → (∀ w' H' z, w.le w' → WR T w' S H' → Rep T w' r z → Q z H') → ∃ r, OpR X fn r ∧ r x y H Q) : OpR X fn (rOp T op) := fun pins s σ H x y v u Q I rx ry q => by
  obtain ⟨w, d, e, r, S, h1, h2, h3, h4, h5⟩ := q
  obtain ⟨r', ho, q'⟩ := h w d e r S x y H Q h1 h2 h3 h4 h5
  exact ho pins s σ H x y v u Q I rx ry q'
theorem oi_add (hK : X.K = T.K) : OpR X (binaryOp .Add) (rOp T addD) := orOp2 fun w d e r S x y H Q h1 h2 h3 h4 h5 => by
  unfold addD at h4
  split at h4
  · cases h2; cases h3; cases h4
    exact ⟨_, op_add, _, _, rfl, rfl, h5 w H _ (Wd.le.refl _) h1 (.int _)⟩
  · cases h2; cases h3
    split at h4
    · rename_i hl
      cases h4
      exact ⟨_, op_add_str, _, _, rfl, rfl, by rw [sizeLine_eq]; exact hl, h5 w H _ (Wd.le.refl _) h1 (.str _)⟩
    · cases h4
  · rename_i l m
    cases h2 with
    | tup q2 r2 =>
    cases h3 with
    | tup q3 r3 =>
    split at h4
    · rename_i hl
      cases h4
      refine ⟨_, op_catA, _, _, _, _, rfl, rfl, by rw [hK]; exact sqt_sub h1 q2, by rw [hK]; exact sqt_sub h1 q3, by rw [sizeLine_eq, ← r2.length, ← r3.length]; exact hl, fun e => ?_, fun e1 e2 => ?_, fun e1 e2 p hp => ?_⟩
      · subst e
        cases r2
        exact h5 w H _ (Wd.le.refl _) h1 (.tup q3 r3)
      · subst e2
        cases r3
        rw [List.append_nil] at h5
        exact h5 w H _ (Wd.le.refl _) h1 (.tup q2 r2)
      · obtain ⟨l1, r1⟩ := h1.new hp (.tup _)
        exact h5 _ _ _ l1 r1 (.tup (.inl (.inl upd_same)) ((r2.append r3).mono l1))
    · cases h4
  · rename_i l m
    cases h2 with
    | lst q2 r2 =>
    cases h3 with
    | lst q3 r3 =>
    split at h4
    · rename_i hl
      cases h4
      refine ⟨_, op_cat, _, _, _, _, rfl, rfl, h1.sub _ _ q2, h1.sub _ _ q3, by rw [sizeLine_eq, ← r2.length, ← r3.length]; exact hl, fun p hp => ?_⟩
      obtain ⟨l1, r1⟩ := h1.new hp (.lst _)
      exact h5 _ _ _ l1 r1 (.lst upd_same ((r2.append r3).mono l1))
    · cases h4
  · cases h4
theorem oi_sub : OpR X (binaryOp .Sub) (rOp T subD) := orOp2 fun w d e r S x y H Q h1 h2 h3 h4 h5 => by
  unfold subD at h4
  split at h4
  · cases h2; cases h3; cases h4
    exact ⟨_, op_sub, _, _, rfl, rfl, h5 w H _ (Wd.le.refl _) h1 (.int _)⟩
  · cases h4
theorem oi_mul : OpR X (binaryOp .Mult) (rOp T mulD) := orOp2 fun w d e r S x y H Q h1 h2 h3 h4 h5 => by
  unfold mulD at h4
  split at h4
  · cases h2; cases h3
    split at h4
    · rename_i hl
      cases h4
      exact ⟨_, op_mulW, _, _, rfl, rfl, (by unfold CMulW; simpa [mulOk] using hl), h5 w H _ (Wd.le.refl _) h1 (.int _)⟩
    · cases h4
  · cases h4
theorem oi_fdiv : OpR X (binaryOp .FloorDiv) (rOp T fdivD) := orOp2 fun w d e r S x y H Q h1 h2 h3 h4 h5 => by
  unfold fdivD at h4
  split at h4
  · cases h2; cases h3
    split at h4
    · rename_i hl
      cases h4
      exact ⟨_, op_fdivW, _, _, rfl, rfl, hl, h5 w H _ (Wd.le.refl _) h1 (.int _)⟩
    · cases h4
  · cases h4
theorem oi_mod : OpR X (binaryOp .Mod) (rOp T modD) := orOp2 fun w d e r S x y H Q h1 h2 h3 h4 h5 => by
  unfold modD at h4
  split at h4
  · cases h2; cases h3
    split at h4
    · rename_i hl
      cases h4
      exact ⟨_, op_mod, _, _, rfl, rfl, hl, h5 w H _ (Wd.le.refl _) h1 (.int _)⟩
    · cases h4
  · cases h4
theorem oi_pow : OpR X (binaryOp .Pow) (rOp T powD) := orOp2 fun w d e r S x y H Q h1 h2 h3 h4 h5 => by
  unfold powD at h4
  split at h4
  · cases h2; cases h3
    split at h4
    · rename_i hl
      cases h4
      exact ⟨_, op_pow, _, _, rfl, rfl, hl, h5 w H _ (Wd.le.refl _) h1 (.int _)⟩
    · cases h4
  · cases h4
theorem oi_le : OpR X (compareOp .LtE) (rOp T leD) := orOp2 fun w d e r S x y H Q h1 h2 h3 h4 h5 => by
  unfold leD at h4
  split at h4
  · cases h2; cases h3; cases h4
    exact ⟨_, op_le, _, _, rfl, rfl, h5 w H _ (Wd.le.refl _) h1 (.bl _)⟩
  · cases h4
theorem rep_non {w : Wd} {d : D} {x : V} (p : Rep T w d x) : decide (x = .non) = isNonD d := by
  cases p <;> first | rfl | exact decide_eq_false (fun z => by cases z)
theorem oi_is : OpR X (compareOp .Is) (rOp T isND) := orOp2 fun w d e r S x y H Q h1 h2 h3 h4 h5 => by
  unfold isND at h4
  split at h4
  · rename_i hn
    cases h4
    have he : y = .non := of_decide_eq_true ((rep_non h3).trans hn)
    refine ⟨_, op_isN, he, ?_⟩
    rw [rep_non h2]
    exact h5 w H _ (Wd.le.refl _) h1 (.bl _)
  · cases h4
theorem oi_isnot : OpR X (compareOp .IsNot) (rOp T notND) := orOp2 fun w d e r S x y H Q h1 h2 h3 h4 h5 => by
  unfold notND at h4
  split at h4
  · rename_i hn
    cases h4
    have he : y = .non := of_decide_eq_true ((rep_non h3).trans hn)
    refine ⟨_, op_notN, he, ?_⟩
    rw [rep_non h2]
    exact h5 w H _ (Wd.le.refl _) h1 (.bl _)
  · cases h4
theorem ie_neg (h : IE T E X a f) : IE T E X (.UnaryOp .USub a pos) (eUn negD f) :=
  PE.mono (pe_un un_neg h) fun σ H Q ⟨w, env, S, r, e, q⟩ => ⟨w, env, S, r, e, (RP.bnd q).mono (fun d S1 h1 w1 H1 x l1 r1 p1 => by
    cases p1 with
    | int i => exact ⟨i, rfl, h1 w1 H1 _ l1 r1 (.int _)⟩
    | _ => exact (show False from h1).elim) fun _ _ _ x => x⟩
theorem reps_atP {w : Wd} {l : List D} {vs : List V} {i : Int} {d : D} (r : Reps T w l vs) (h : atP l i = some d) : ∃ v, atI vs i = some v ∧ Rep T w d v := by
  unfold atP at h
  cases z : pyIx l.length i with
  | none => rw [z] at h; cases h
  | some j =>
    rw [z] at h
    obtain ⟨v, h1, h2⟩ := r.get (show l[j]? = some d from h)
    refine ⟨v, ?_, h2⟩
    unfold atI
    rw [show ixN vs.length i = some j from by rw [← r.length]; exact z]
    exact h1
theorem ie_idx (hK : X.K = T.K) (ha : IE T E X a f) (hb : IE T E X b g) (hs : PlainIx b := by exact fun _ _ => rfl) : IE T E X (.Subscript a b pos) (eIdx f g) :=
  PE.mono (pe_ix ix_seq ha hb hs) fun σ H Q q => by
    have q2 := tI_two (k := fun x y S => lift (idxD x y) S) q
    obtain ⟨w, env, S, r, e, h⟩ := q2
    refine ⟨w, env, S, r, e, h.mono (fun d S1 h1 w1 H1 x l1 r1 p1 => ?_) fun _ _ _ x => x⟩
    obtain ⟨w2, env2, S2, r2, e2, h2⟩ := h1 w1 H1 x l1 r1 p1
    refine ⟨w2, env2, S2, r2, e2, h2.mono (fun d S1 h1 w1 H1 x l1 r1 p1 => ?_) fun _ _ _ x => x⟩
    obtain ⟨w3, d3, e3, S3, r3, p3, q3, h3⟩ := h1 w1 H1 x l1 r1 p1
    obtain ⟨w3, d3, e3, rr, S3, r3, p3, q3, hh, h3⟩ := rOp_of r3 p3 q3 h3
    unfold idxD at hh
    rw [hK]
    split at hh
    · cases q3
      cases p3 with
      | tup qq rq =>
        obtain ⟨v, a1, a2⟩ := reps_atP rq hh
        exact .inr (.inl ⟨_, _, _, v, rfl, rfl, sqt_sub r3 qq, a1, h3 w3 _ _ (Wd.le.refl _) r3 a2⟩)
    · cases q3
      cases p3 with
      | lst qq rq =>
        obtain ⟨v, a1, a2⟩ := reps_atP rq hh
        exact .inl ⟨_, _, _, v, rfl, rfl, .inl (.inl (r3.sub _ _ qq)), a1, h3 w3 _ _ (Wd.le.refl _) r3 a2⟩
    · rename_i l i
      cases q3
      cases p3 with
      | scr qq =>
        cases z : atP l i with
        | none => rw [z] at hh; cases hh
        | some k =>
          rw [z] at hh
          cases hh
          refine .inl ⟨_, _, _, .int k, rfl, rfl, sql_sub r3 qq, ?_, h3 w3 _ _ (Wd.le.refl _) r3 (.int _)⟩
          unfold atP at z
          unfold atI
          rw [List.length_map]
          cases z2 : pyIx l.length i with
          | none => rw [z2] at z; cases z
          | some j =>
            rw [z2] at z
            rw [show ixN l.length i = some j from z2]
            show (l.map V.int)[j]? = _
            rw [List.getElem?_map, show l[j]? = some k from z]
            rfl
    · rename_i s i
      cases q3
      cases p3
      split at hh
      · rename_i hl
        cases z : atP s.cps.toList i with
        | none => rw [z] at hh; cases hh
        | some c =>
          rw [z] at hh
          cases hh
          exact .inr (.inr ⟨s, i, c, rfl, rfl, by rw [sizeLine_eq]; exact hl, z, h3 w3 _ _ (Wd.le.refl _) r3 (.str _)⟩)
      · cases hh
    · cases hh
theorem ie_idxM (hK : X.K = T.K) (ha : IE T E X a f) (hb : IE T E X b g) (hs : PlainIx b := by exact fun _ _ => rfl) : IE T E X (.Subscript a b pos) (eIdxM f g) :=
  PE.mono (pe_ix ix_list ha hb hs) fun σ H Q q => by
    have q2 := tI_two (k := fun x y S => lift (idxM x y S) S) q
    obtain ⟨w, env, S, r, e, h⟩ := q2
    refine ⟨w, env, S, r, e, h.mono (fun d S1 h1 w1 H1 x l1 r1 p1 => ?_) fun _ _ _ x => x⟩
    obtain ⟨w2, env2, S2, r2, e2, h2⟩ := h1 w1 H1 x l1 r1 p1
    refine ⟨w2, env2, S2, r2, e2, h2.mono (fun d S1 h1 w1 H1 x l1 r1 p1 => ?_) fun _ _ _ x => x⟩
    obtain ⟨w3, d3, e3, S3, r3, p3, q3, h3⟩ := h1 w1 H1 x l1 r1 p1
    cases z : idxM d3 e3 S3 with
    | none => rw [z] at h3; exact (show False from h3).elim
    | some y =>
      rw [z] at h3
      unfold idxM at z
      split at z
      · rename_i n i
        split at z
        · rename_i l hS
          cases q3
          cases p3 with
          | ref hn =>
            obtain ⟨vs, c1, c2⟩ := r3.cell n _ _ hS hn
            obtain ⟨v, a1, a2⟩ := reps_atP c2 z
            exact ⟨_, _, _, v, rfl, rfl, .inl (.inl c1), a1, h3 w3 _ _ (Wd.le.refl _) r3 a2⟩
        · cases z
      · cases z
theorem is_setit {pos' : Pos} (hv : IE T E X c h) (ho : IE T E X a f) (hi : IE T E X b g) (hs : swapsWithSole [.Subscript a b pos'] c pos.line X.env = pure false := by rfl) (hw : swappedStores [.Subscript a b pos'] c X.env = pure none := by rfl)
    (h1 : (assignEach [.Subscript a b pos'] X.env).map (·.2) = [assign (.Subscript a b pos') X.env] := by rfl)
    (hasg : ∀ v, assign (.Subscript a b pos') X.env v = (do
      let ov ← holding [v] (eval a X.env)
      let iv ← holding [v, ov] (eval b X.env)
      standAt pos'
      holding [v, ov, iv] (setItem ov iv v)
      release [v, ov, iv] []) := by intro _; rfl) : IS T E X (.Assign [.Subscript a b pos'] c pos) (sSetIt f g h) :=
  PS.mono (ps_asg hv (pg_sub ho hi set_list hasg) hs hw h1) fun D σ H ⟨w, env, S, r, e, q⟩ => ⟨w, env, S, r, e, (RP.bnd q).mono (fun z S1 h1 w1 H1 zv l1 r1 p1 => ⟨w1, env, S1, r1, e.mono l1, (RP.bnd h1).mono (fun x S2 h2 w2 H2 xv l2 r2 p2 => ⟨w2, env, S2, r2, (e.mono l1).mono l2, (RP.bnd h2).mono (fun y S3 h3 w3 H3 yv l3 r3 p3 => by
    cases z2 : setM x y z S3 with
    | none => rw [z2] at h3; exact (show False from h3).elim
    | some S4 =>
      rw [z2] at h3
      unfold setM at z2
      split at z2
      · rename_i n i
        split at z2
        · rename_i l hS
          cases zj : pyIx l.length i with
          | none => rw [zj] at z2; cases z2
          | some j =>
            rw [zj] at z2
            cases z2
            cases p3
            cases (p2.mono l3) with
            | ref hn =>
              obtain ⟨vs, c1, c2⟩ := r3.cell n _ _ hS hn
              have lt := (l1.trans l2).trans l3
              refine ⟨_, vs, i, j, rfl, rfl, c1, by rw [← c2.length]; exact zj, ?_⟩
              exact h3 w3 _ σ lt (r3.write hS hn (by intro z; cases z) ⟨_, upd_same, c2.set ((p1.mono l2).mono l3) j⟩) (e.mono lt)
        · cases z2
      · cases z2) fun _ _ _ x => x.le (l1.trans l2)⟩) fun _ _ _ x => x.le l1⟩) fun _ _ _ x => x⟩
end Ro
end
section
set_option Elab.async false
set_option linter.all false
set_option maxRecDepth 100000
set_option maxHeartbeats 4000000
namespace Ro
open PySem PySem.Spec PyProof.Rows L2
variable {T : Tb} {E : XK} {X : Cx} {a b c : Expr} {es : List Expr} {f g h : EX} {fa ga fk : AX} {fb gb : BX} {pos : Pos} {st : Stmt} {sts rest : List Stmt} {s t : ES}
theorem frzM_ok {cf : String → List String} (hcf : T.cf = cf) {w : Wd} {S : Store} {H : Hp} {x : V} {d : D} {Pk : D → Store → Prop} {Pe : String → List D → Store → Prop} (r : WR T w S H) (p : Rep T w d x) (h : RP (frzM cf (.ok d S)) Pk Pe) :
    ∃ w' d' S', w.le w' ∧ WR T w' S' H ∧ Rep T w' d' x ∧ Pk d' S' := by
  unfold frzM at h
  rw [bnd_ok] at h
  split at h
  · rename_i n
    cases p with
    | ref hn =>
    split at h
    · rename_i c fs hS
      split at h
      · rename_i he
        obtain ⟨dx, gs, h1, h2, h3⟩ := r.cell n _ _ hS hn
        obtain ⟨l, r'⟩ := r.freeze hS hn (by intro z; cases z) h1
        refine ⟨_, _, _, l, r', .obj (dx := dx) (fs := gs) upd_same ?_ (h3.mono l), h⟩
        rw [h2, hcf, ← he, List.map_map]
        rfl
      · exact (show False from h).elim
    · rename_i l0 hS
      obtain ⟨vs, h1, h2⟩ := r.cell n _ _ hS hn
      obtain ⟨l, r'⟩ := r.freeze hS hn (by intro z; cases z) h1
      exact ⟨_, _, _, l, r', .lst upd_same (h2.mono l), h⟩
    · rename_i l0 hS
      obtain ⟨vs, h1, h2⟩ := r.cell n _ _ hS hn
      obtain ⟨l, r'⟩ := r.freeze hS hn (by intro z; cases z) h1
      exact ⟨_, _, _, l, r', .dct upd_same (h2.mono l), h⟩
    · exact (show False from h).elim
  · exact (show False from h).elim
theorem frzM_bnd {cf : String → List String} {r : R D} {Pk : D → Store → Prop} {Pe : String → List D → Store → Prop} (h : RP (frzM cf r) Pk Pe) : RP r (fun d S => RP (frzM cf (.ok d S)) Pk Pe) Pe := by
  cases r with
  | ok d S => exact h
  | err c fs S => exact h
  | bad => exact h
theorem ie_frz {cf : String → List String} (hcf : T.cf = cf) (ha : IE T E X a f) : IE T E X a (eFrz cf f) :=
  PE.mono ha fun σ H Q ⟨w, env, S, r, e, q⟩ => ⟨w, env, S, r, e, (frzM_bnd q).mono (fun d S1 h1 w1 H1 x l1 r1 p1 => by
    obtain ⟨w2, d2, S2, l2, r2, p2, h2⟩ := frzM_ok hcf r1 p1 h1
    exact h2 w2 H1 x (l1.trans l2) r2 p2) fun _ _ _ x => x⟩
theorem make_core {k n : Nat} {cn : String} {fd : FuncData} {fp : Addr} {ps ks : List Str} {m : Fn} {pk : List (Nat × Nat)} {dfs : List D} (F : FnG X.prog X.w T.K X.mg X.base k fp fd ps (spI T ps.length m)) (M : Mk T.K (He.ga T.K (cn : Str)) fp) (hK : X.K = T.K) (hr : RG (k + 1) X.A) (hb : KBD T fd ps (n + 1) ks pk dfs) (tk : L2N.Takes X fun c d _ H => E c d H)
    {pins : List (Addr × Obj)} {s : Shared} {σ : St} {H : Hp} {w : Wd} {S : Store} {us ws : List Value} {vs zs : List V} {xs ys : List D} {Q : VK} (I : Inv X pins σ H s) (r : WR T w S H) (rv : Vals vs us) (rz : Vals zs ws) (px : Reps T w xs vs) (py : Reps T w ys zs)
    (q : RP (newM cn (callM m (n + 1) ks.length ps.length pk dfs) xs ys S) (Pk T w Q) (XW T w E)) : wpAny (model X.prog X.w) X.A (call (.ref (He.ga T.K (cn : Str))) us (ks.zip ws)) (EP X pins σ Q) X.xe s := by
  obtain ⟨its, dvs, kb, rd⟩ := hb.ex
  have F' : FnG X.prog X.w X.K X.mg X.base k fp fd ps (spI T ps.length m) := by rw [hK]; exact F
  have M' : Mk X.K (He.ga T.K (cn : Str)) fp := by rw [hK]; exact M
  have kb' : KBn X.K fd ps (n + 1) ks (fun us ws => pick pk us its ws) (fun vs zs => pick pk vs dvs zs) := by rw [hK]; exact kb
  have q1 := RP.bnd (show RP (newM cn (callM m (n + 1) ks.length ps.length pk dfs) xs ys S) _ _ from q)
  obtain ⟨c1, c2, c3, q2⟩ := callM_ok q1
  have l1 : xs.length = n := by simpa using c1
  refine FnG.makes M' F' hr kb' (L2N.passes_call tk fun _ _ _ _ h => h) I rv rz (by rw [← px.length]; exact l1) (by rw [← py.length]; exact c2) fun x dx hx hdx hne => ?_
  have hx2 : upd H dx (.own x) x = none := by rw [upd_ne hne.symm]; exact hx
  have r0 : WR T w S (upd H dx (.own x)) := r.grow fun a u e => by rw [upd_ne (ne_of_none e hdx)]; exact e
  obtain ⟨l2, r2, at_⟩ := r0.alloc (o := .ins (He.ga T.K (cn : Str)) dx []) (c := .ins cn []) hx2 ⟨dx, [], upd_same, rfl, .nil⟩
  have pp := reps_pick pk (T := T) (w := ⟨w.G, w.am ++ [x], w.hid⟩) (.cons (.ref at_) (px.mono l2)) (rd _) (py.mono l2)
  refine ⟨by rw [← pp.length]; exact c3, _, _, _, r2, pp, q2.mono (fun d S1 h1 w1 H1 v l3 r3 p3 => ?_) fun _ _ _ x => x.le l2⟩
  cases p3 with
  | non => exact ⟨rfl, h1 w1 H1 _ (l2.trans l3) r3 (.ref (l3.tosb.at at_))⟩
  | _ => exact (show False from h1).elim
/-- C(.., k = ..) -/
theorem ie_new {k n : Nat} {cn : String} {d : He.DefD} {p : Pos} {kws : List Keyword} {ps ks : List Str} {m : Fn} {pk : List (Nat × Nat)} {dfs : List D} (F : OkF T X.prog X.w X.mg X.base k d ps m) (M : Mk T.K (He.ga T.K (cn : Str)) (He.fAd T.K d.at_)) (hK : X.K = T.K) (hr : RG (k + 1) X.A) (hg : Gl X (cn : Str)) (hm : X.mg (cn : Str) = some (.ref (He.ga T.K (cn : Str))))
    (hb : ∀ fd, FunD T.K d.name d.qual d.params d.body d.scope (d.dvs T.K) [] (He.fAd T.K d.at_) fd → KBD T fd ps (n + 1) ks pk dfs) (tk : L2N.Takes X fun c d _ H => E c d H) (ha : AK T E X es kws pos ks fa fk) (hdb : ((cn : Str) == ("__debug__" : Str)) = false := by decide +kernel) :
    IE T E X (.Call (.Name (cn : Str) p) es kws pos) (eFn (newM cn (callM m (n + 1) ks.length ps.length pk dfs)) fa fk) := by
  obtain ⟨fd, FD, FO⟩ := F.ex
  refine ⟨fun pins s σ H Q I h => ?_⟩
  obtain ⟨w, env, S, r, e, q⟩ := h
  refine wpAny_Call_Name_kw (ld_glob I hg hm ?_ hdb)
  refine ha pins s σ H w env S _ Q _ [] _ I r e (by rw [hK]; exact M.kp) q fun s2 H2 us ws vs zs w2 xs ys S2 I2 l2 r2 rv rz px py q2 => ?_
  exact make_core FO M hK hr (hb fd FD) tk I2 r2 rv rz px py q2
theorem er_wipe {w : Wd} {env : Env} {σ : St} (r : ER T w env σ) : ∀ vs : List Nat, ER T w (wipeE env vs) (wipe σ vs)
  | [] => r
  | v :: vs => by
    have ih := er_wipe r vs
    refine ⟨by show ((wipeE env vs).set v none).length = ((wipe σ vs).set v none).length; rw [List.length_set, List.length_set, ih.1], fun i d h => ?_⟩
    have h : ((wipeE env vs).set v none)[i]? = some (some d) := h
    show ∃ x, ((wipe σ vs).set v none)[i]? = some (some x) ∧ _
    by_cases hv : v = i
    · subst hv
      rw [List.getElem?_set] at h
      simp only [if_true] at h
      split at h <;> cases h
    · rw [List.getElem?_set_ne hv] at h ⊢
      exact ih.2 i d h
theorem RP.nox {α : Type} {r : R α} {Pk : α → Store → Prop} {Pe : String → List D → Store → Prop} (h : RP r.nox Pk Pe) (Pe' : String → List D → Store → Prop) : RP r Pk Pe' := by
  cases r with
  | ok a S => exact h
  | err c fs S => exact (show False from h).elim
  | bad => exact h
def ITs (T : Tb) (E : XK) (X : Cx) (ifs : List Expr) (fb : BX) : Prop := PTs X ifs (tIb T E fb)
theorem PTs.mono {X : Cx} {e : List Expr} {t t' : TT} (h : PTs X e t) (k : ∀ σ H Q, t' σ H Q → t σ H Q) : PTs X e t' := ⟨fun pins s σ H Q I q => h.run pins s σ H Q I (k _ _ _ q)⟩
theorem its_nil : ITs T E X [] bYes := PTs.mono pts_nil fun σ H Q ⟨w, env, S, r, e, q⟩ => q w H (Wd.le.refl _) r
abbrev E00 : XK := fun _ _ _ => False
/-- a list that is being made -/
theorem WR.hide {w : Wd} {S : Store} {H : Hp} {p : Addr} (r : WR T w S H) (hp : H p = none) : WR T ⟨w.G, w.am, (p, []) :: w.hid⟩ S (upd H p (.lst [])) := by
  have k : ∀ a u, H a = some u → upd H p (.lst []) a = some u := fun a u e => by rw [upd_ne (ne_of_none e hp)]; exact e
  have sb : Wd.sb w ⟨w.G, w.am, (p, []) :: w.hid⟩ := ⟨fun _ _ h => h, [], by simp⟩
  refine ⟨fun a u e => k _ _ (r.sub _ _ e), r.len, r.nd, fun a ha => (r.has a ha).elim fun u e => ⟨u, k _ _ e.1, e.2⟩, r.out, fun n c a h1 h2 => (r.cell n c a h1 h2).keep sb fun u e => k _ _ e, tabs_new r.tabs hp, ?_, fun q hq => ?_, r.nt⟩
  · show (p :: w.hid.map (·.1)).Nodup
    refine List.nodup_cons.mpr ⟨fun z => ?_, r.hn⟩
    obtain ⟨q, hq, e⟩ := List.mem_map.mp z
    obtain ⟨_, _, vs, z3, _⟩ := r.hd q hq
    rw [e, hp] at z3
    cases z3
  · rcases List.mem_cons.mp hq with e | hq
    · subst e
      refine ⟨r.free hp, fun z => ?_, [], upd_same, .nil⟩
      obtain ⟨u, e, _⟩ := r.has p z
      rw [hp] at e
      cases e
    · obtain ⟨z1, z2, vs, z3, z4⟩ := r.hd q hq
      exact ⟨z1, z2, vs, k _ _ z3, z4.monoS sb⟩
theorem WR.hidPut {w : Wd} {S : Store} {H : Hp} {p : Addr} {l : List D} {hs : List (Addr × List D)} {d : D} {v : V} (r : WR T w S H) (hh : w.hid = (p, l) :: hs) (q : Rep T w d v) : ∃ vs, H p = some (.lst vs) ∧ vs.length = l.length ∧ WR T ⟨w.G, w.am, (p, l ++ [d]) :: hs⟩ S (upd H p (.lst (vs ++ [v]))) := by
  obtain ⟨z1, z2, vs, z3, z4⟩ := r.hd (p, l) (by rw [hh]; exact List.mem_cons_self ..)
  have hn := r.hn
  rw [hh] at hn
  have hn' : p ∉ hs.map (·.1) := (List.nodup_cons.mp (show (p :: hs.map (·.1)).Nodup from hn)).1
  have sb : Wd.sb w ⟨w.G, w.am, (p, l ++ [d]) :: hs⟩ := ⟨fun _ _ h => h, [], by simp⟩
  have k : ∀ a u, a ≠ p → H a = some u → upd H p (.lst (vs ++ [v])) a = some u := fun a u hne e => by rw [upd_ne hne]; exact e
  refine ⟨vs, z3, z4.length.symm, fun a u e => k _ _ (fun z => by rw [z] at e; rw [show w.G p = none from z1] at e; cases e) (r.sub _ _ e), r.len, r.nd, fun a ha => ?_, r.out, fun n c a h1 h2 => (r.cell n c a h1 h2).keep sb fun u e => k _ _ (fun z => z2 (by show p ∈ w.am; rw [← z]; exact List.mem_of_getElem? h2)) e, tabs_upd r.tabs z3 noTab_lst, hn, fun q2 hq => ?_, r.nt⟩
  · obtain ⟨u, e, nt⟩ := r.has a ha
    exact ⟨u, k _ _ (fun z => z2 (by show p ∈ w.am; rw [← z]; exact ha)) e, nt⟩
  · rcases List.mem_cons.mp hq with e | hq
    · subst e
      exact ⟨z1, z2, _, upd_same, (z4.append (.cons q .nil)).monoS sb⟩
    · obtain ⟨y1, y2, us, y3, y4⟩ := r.hd q2 (by rw [hh]; exact List.mem_cons_of_mem _ hq)
      exact ⟨y1, y2, us, k _ _ (fun z => hn' (by rw [← z]; exact List.mem_map_of_mem hq)) y3, y4.monoS sb⟩
theorem WR.shown {w : Wd} {S : Store} {H : Hp} {p : Addr} {l : List D} {hs : List (Addr × List D)} (r : WR T w S H) (hh : w.hid = (p, l) :: hs) : ∃ vs, Wd.sb w ⟨upd w.G p (.lst vs), w.am, hs⟩ ∧ WR T ⟨upd w.G p (.lst vs), w.am, hs⟩ S H ∧ Rep T ⟨upd w.G p (.lst vs), w.am, hs⟩ (.lst l) (.ref p) := by
  obtain ⟨z1, z2, vs, z3, z4⟩ := r.hd (p, l) (by rw [hh]; exact List.mem_cons_self ..)
  have z1 : w.G p = none := z1
  have hn := r.hn
  rw [hh] at hn
  have hn2 := List.nodup_cons.mp (show (p :: hs.map (·.1)).Nodup from hn)
  have sb : Wd.sb w ⟨upd w.G p (.lst vs), w.am, hs⟩ := ⟨fun a u e => by show upd w.G p (.lst vs) a = some u; rw [upd_ne (ne_of_none e z1)]; exact e, [], by simp⟩
  refine ⟨vs, sb, ⟨fun a u e => ?_, r.len, r.nd, r.has, fun n c a h1 h2 h3 => ?_, fun n c a h1 h2 => (r.cell n c a h1 h2).keep sb fun _ e => e, r.tabs, hn2.2, fun q hq => ?_, fun a ps e => ?_⟩, .lst upd_same (z4.monoS sb)⟩
  · have e : upd w.G p (.lst vs) a = some u := e
    by_cases h : a = p
    · subst h
      rw [upd_same] at e
      rw [← e]
      exact z3
    · rw [upd_ne h] at e
      exact r.sub _ _ e
  · show upd w.G p (.lst vs) a = none
    rw [upd_ne (fun z => z2 (by show p ∈ w.am; rw [← z]; exact List.mem_of_getElem? h2))]
    exact r.out n c a h1 h2 h3
  · obtain ⟨y1, y2, us, y3, y4⟩ := r.hd q (by rw [hh]; exact List.mem_cons_of_mem _ hq)
    refine ⟨?_, y2, us, y3, y4.monoS sb⟩
    show upd w.G p (.lst vs) q.1 = none
    rw [upd_ne (fun z => hn2.1 (by rw [← z]; exact List.mem_map_of_mem hq))]
    exact y1
  · have e : upd w.G p (.lst vs) a = some (.tbl ps) := e
    by_cases h : a = p
    · rw [h, upd_same] at e
      cases e
    · rw [upd_ne h] at e
      exact r.nt a ps e
theorem lc_noerr {p : Pat} {fb : BX} {el : EX} {env : Env} : ∀ {ds acc : List D} {S : Store} {c : String} {fs : List D} {S' : Store}, lcLoop p fb el env ds acc S = .err c fs S' → False
  | [], _, _, _, _, _, h => by cases h
  | d :: ds, acc, S, c, fs, S', h => by
    unfold lcLoop at h
    cases z : p d env with
    | none => rw [z] at h; cases h
    | some e1 =>
      rw [z] at h
      have h : ((fb e1 S).nox.bnd fun k S1 => if k then (el e1 S1).nox.bnd fun y S2 => if acc.length < LINE then lcLoop p fb el env ds (acc ++ [y]) S2 else .bad else lcLoop p fb el env ds acc S1) = .err c fs S' := h
      cases z1 : fb e1 S with
      | ok k S1 =>
        rw [z1, nox_ok, bnd_ok] at h
        cases k with
        | true =>
          rw [if_pos rfl] at h
          cases z2 : el e1 S1 with
          | ok y S2 =>
            rw [z2, nox_ok, bnd_ok] at h
            split at h
            · exact lc_noerr h
            · cases h
          | err _ _ _ => rw [z2] at h; cases h
          | bad => rw [z2] at h; cases h
        | false =>
          rw [if_neg Bool.false_ne_true] at h
          exact lc_noerr h
      | err _ _ _ => rw [z1] at h; cases h
      | bad => rw [z1] at h; cases h
theorem lc_read {p : Pat} {vs : List Nat} {fb : BX} {el : EX} {it : AX} {σ : St} {H : Hp} {Q : VK} (q : tI T E (eLC vs it p fb el) σ H Q) : tLc (tII T E it) (gI T vs p) (tIb T E00 fb) (tI T E00 el) vs σ H Q := by
  obtain ⟨w, env, S, r, e, q⟩ := q
  refine ⟨w, env, S, r, e, (RP.bnd q).mono (fun ds S1 h1 w1 H1 J l1 r1 it => ?_) fun _ _ _ x => x⟩
  intro Dp hD
  have h1 := RP.bnd h1
  have r0 := r1.hide hD
  have e1 := er_wipe (e.mono l1) vs
  refine ⟨fun i m H => m = ds.length - i ∧ i ≤ ds.length ∧ ∃ w2 acc S2, w1.sb w2 ∧ w2.hid = (Dp, acc) :: w1.hid ∧ WR T w2 S2 H ∧ RP (lcLoop p fb el (wipeE env vs) (ds.drop i) acc S2) (fun ys S' => ∀ w' H' v, w1.le w' → WR T w' S' H' → Rep T w' (.lst ys) v → Q v H') (fun _ _ _ => False), ⟨ds.length, by simp, Nat.zero_le _, ⟨w1.G, w1.am, (Dp, []) :: w1.hid⟩, [], S1, ⟨fun _ _ h => h, [], by simp⟩, rfl, r0, ?_⟩, ?_⟩
  · have h2 : RP (lcLoop p fb el (wipeE env vs) ds [] S1) (fun ys S' => ∀ w' H' v, w.le w' → WR T w' S' H' → Rep T w' (.lst ys) v → Q v H') (XW T w E) := h1
    cases z : lcLoop p fb el (wipeE env vs) ds [] S1 with
    | ok ys S2 =>
      rw [z] at h2
      show RP (lcLoop p fb el (wipeE env vs) (ds.drop 0) [] S1) _ _
      rw [List.drop_zero, z]
      exact fun w' H' v l => h2 w' H' v (l1.trans l)
    | err c fs S2 => exact (lc_noerr z).elim
    | bad => rw [z] at h2; exact h2.elim
  · rintro i m H ⟨rfl, hi, w2, acc, S2, sb, hh, r2, h2⟩
    by_cases hlt : i < ds.length
    · rw [List.drop_eq_getElem_cons hlt] at h2
      have it' : ∀ (i : Nat), True := fun _ => trivial
      refine .inr ⟨it.goS i H w2 S2 sb r2 hlt, fun H' => i + 1 ≤ ds.length ∧ ∃ w2 acc S2, w1.sb w2 ∧ w2.hid = (Dp, acc) :: w1.hid ∧ WR T w2 S2 H' ∧ RP (lcLoop p fb el (wipeE env vs) (ds.drop (i + 1)) acc S2) (fun ys S' => ∀ w' H' v, w1.le w' → WR T w' S' H' → Rep T w' (.lst ys) v → Q v H') (fun _ _ _ => False), fun H' h => ⟨ds.length - (i + 1), by omega, rfl, h⟩, fun x H' y => ?_⟩
      obtain ⟨w3, l3, r3, p3⟩ := it.yldS i H x H' w2 S2 ds[i] sb r2 (List.getElem?_eq_getElem hlt) y
      unfold lcLoop at h2
      cases z : p ds[i] (wipeE env vs) with
      | none => rw [z] at h2; exact (show False from h2).elim
      | some env1 =>
        rw [z] at h2
        have h2 := RP.nox (RP.bnd h2) (XW T w3 E00)
        refine ⟨w3, wipeE env vs, S2, ds[i], env1, r3, e1.monoS (sb.trans l3.tosb), p3, z, fun σ2 q2 z2 => ⟨z2.trans (wipe_wipe σ vs), w3, env1, S2, r3, q2, h2.mono (fun k S3 h3 w4 H4 l4 r4 => ?_) fun _ _ _ x => x⟩⟩
        have hh4 : w4.hid = (Dp, acc) :: w1.hid := by rw [l4.hid, l3.hid, hh]
        cases k with
        | false =>
          rw [if_neg Bool.false_ne_true] at h3
          dsimp only
          rw [if_neg Bool.false_ne_true]
          exact ⟨hlt, w4, acc, S3, (sb.trans l3.tosb).trans l4.tosb, hh4, r4, h3⟩
        | true =>
          rw [if_pos rfl] at h3
          dsimp only
          rw [if_pos rfl]
          have h3 := RP.nox (RP.bnd h3) (XW T w4 E00)
          refine ⟨w4, env1, S3, r4, q2.mono l4, h3.mono (fun y S5 h5 w5 H5 v l5 r5 p5 => ?_) fun _ _ _ x => x⟩
          by_cases hl : acc.length < LINE
          · rw [if_pos hl] at h5
            have hh5 : w5.hid = (Dp, acc) :: w1.hid := by rw [l5.hid, hh4]
            obtain ⟨us, k1, k2, k3⟩ := r5.hidPut hh5 p5
            have sb5 : w1.sb w5 := ((sb.trans l3.tosb).trans l4.tosb).trans l5.tosb
            exact ⟨us, k1, by rw [k2, sizeLine_eq]; exact hl, hlt, ⟨w5.G, w5.am, (Dp, acc ++ [y]) :: w1.hid⟩, acc ++ [y], S5, ⟨sb5.G, sb5.am⟩, rfl, k3, h5⟩
          · rw [if_neg hl] at h5
            exact (show False from h5).elim
    · have e0 : ds.drop i = [] := List.drop_of_length_le (by omega)
      rw [e0] at h2
      obtain ⟨us, k1, k2, k3⟩ := r2.shown hh
      exact .inl ⟨it.stopS i H w2 S2 sb r2 (by omega), h2 _ H _ ⟨sb.trans k1, rfl⟩ k2 k3⟩
theorem ie_lc {tg iter elt : Expr} {ifs : List Expr} {scope : Scope} {own : List (Str × Nat)} {p : Pat} {el : EX} {it : AX} (hc : X.calm = true) (hN : X.N.Nodup) (hi : II T E X tg iter it) (ok : BlkOk X.N X.env.scope scope own)
    (hg : ∀ (s : Shared) (H : Hp) (C : Addr) (cl : List (Str × Addr)) (fp : List Addr), IG T (X.blk s H scope (compEnvC scope cl C X.env) fp) (own.map (·.2)) tg p) (ht : ∀ (s : Shared) (H : Hp) (C : Addr) (cl : List (Str × Addr)) (fp : List Addr), ITs T E00 (X.blk s H scope (compEnvC scope cl C X.env) fp) ifs fb)
    (he : ∀ (s : Shared) (H : Hp) (C : Addr) (cl : List (Str × Addr)) (fp : List Addr), IE T E00 (X.blk s H scope (compEnvC scope cl C X.env) fp) elt el) (hs : ∀ x, foldedSetIterable iter X.env x = pure x := by intro _; rfl) :
    IE T E X (.ListComp elt [⟨tg, iter, ifs, 0⟩] scope pos) (eLC (own.map (·.2)) it p fb el) :=
  PE.mono (pe_lc hc hN hi ok hg ht he hs) fun σ H Q q => lc_read q
end Ro
end
section
set_option Elab.async false
set_option linter.all false
set_option maxRecDepth 100000
set_option maxHeartbeats 4000000
namespace Ro
open PySem PySem.Spec PyProof.Rows L2
variable {T : Tb} {E : XK} {X : Cx} {a b c e : Expr} {es : List Expr} {f g h : EX} {fa ga fk : AX} {fb gb : BX} {pos : Pos} {st : Stmt} {sts rest : List Stmt} {s t : ES}
/-- a built-in by values: what HandS tells (r) follows from the mirror (m) -/
def BOk (T : Tb) (r : List V → Hp → VK → Prop) (m : List D → Option D) : Prop :=
  ∀ w S xs vs H d Q, WR T w S H → Reps T w xs vs → m xs = some d → (∀ w' H' v, w.le w' → WR T w' S H' → Rep T w' d v → Q v H') → r vs H Q
theorem tI_b {r : List V → Hp → VK → Prop} {m : List D → Option D} (h : BOk T r m) {σ : St} {H : Hp} {Q : VK} (q : tI T E (eB m fa) σ H Q) : tCB r (tIa T E fa) σ H Q := by
  obtain ⟨w, env, S, r0, e, q⟩ := q
  refine ⟨w, env, S, r0, e, (RP.bnd q).mono (fun xs S1 h1 w1 H1 vs l1 r1 p1 => ?_) fun _ _ _ x => x⟩
  cases z : m xs with
  | none => rw [z] at h1; exact (show False from h1).elim
  | some d =>
    rw [z] at h1
    exact h w1 S1 xs vs H1 d Q r1 p1 z fun w' H' v l => h1 w' H' v (l1.trans l)
theorem ie_b {x : Str} {p : Pos} {id : String} {r : List V → Hp → VK → Prop} {m : List D → Option D} (hc : CallR X (.builtin id) r) (hm : BOk T r m) (hg : Gl X x) (hn : X.mg x = none) (hv : bootBuiltins x = some (.builtin id)) (ha : IA T E X (a :: es) fa) (hx : x ≠ "__name__" := by decide +kernel) (hdb : (x == ("__debug__" : Str)) = false := by decide +kernel)
    (he : starEach (a :: es) X.env = (false, eval a X.env) :: starEach es X.env := by rfl) (hpl : (backTo pos (starEach es X.env)).any (·.1) = false := by rfl) : IE T E X (.Call (.Name x p) (a :: es) [] pos) (eB m fa) :=
  PE.mono (pe_callB hc hg hn hv ha hx hdb he hpl) fun σ H Q q => tI_b hm q
theorem ie_bt {x : Str} {p : Pos} {id : String} {r : List V → Hp → VK → Prop} {m : List D → Option D} (hc : CallR X (.type id) r) (hm : BOk T r m) (hg : Gl X x) (hn : X.mg x = none) (hv : bootBuiltins x = some (.type id)) (ha : IA T E X (a :: es) fa) (hx : x ≠ "__name__" := by decide +kernel) (hdb : (x == ("__debug__" : Str)) = false := by decide +kernel)
    (he : starEach (a :: es) X.env = (false, eval a X.env) :: starEach es X.env := by rfl) (hpl : (backTo pos (starEach es X.env)).any (·.1) = false := by rfl) : IE T E X (.Call (.Name x p) (a :: es) [] pos) (eB m fa) :=
  PE.mono (pe_callTy hc hg hn hv ha hx hdb he hpl) fun σ H Q q => tI_b hm q
theorem reps_one {w : Wd} {x : D} {vs : List V} (r : Reps T w [x] vs) : ∃ v, vs = [v] ∧ Rep T w x v := by
  cases r with
  | cons r1 r2 => cases r2; exact ⟨_, rfl, r1⟩
theorem reps_two {w : Wd} {x y : D} {vs : List V} (r : Reps T w [x, y] vs) : ∃ v u, vs = [v, u] ∧ Rep T w x v ∧ Rep T w y u := by
  cases r with
  | cons r1 r2 => cases r2 with
    | cons r3 r4 => cases r4; exact ⟨_, _, rfl, r1, r3⟩
theorem bo_abs : BOk T (fun xs H Q => ∃ i, xs = [.int i] ∧ Q (.int (if i < 0 then -i else i)) H) bAbs := fun w S xs vs H d Q r p h k => by
  unfold bAbs at h
  split at h
  · cases h
    obtain ⟨v, rfl, p2⟩ := reps_one p
    cases p2
    exact ⟨_, rfl, k w H _ (Wd.le.refl _) r (.int _)⟩
  · cases h
theorem bo_max2 : BOk T (fun xs H Q => ∃ i j, xs = [.int i, .int j] ∧ Q (.int (if j > i then j else i)) H) bMax2 := fun w S xs vs H d Q r p h k => by
  unfold bMax2 at h
  split at h
  · cases h
    obtain ⟨v, u, rfl, p2, q2⟩ := reps_two p
    cases p2; cases q2
    exact ⟨_, _, rfl, k w H _ (Wd.le.refl _) r (.int _)⟩
  · cases h
theorem bo_min2 : BOk T (fun xs H Q => ∃ i j, xs = [.int i, .int j] ∧ Q (.int (if j < i then j else i)) H) bMin2 := fun w S xs vs H d Q r p h k => by
  unfold bMin2 at h
  split at h
  · cases h
    obtain ⟨v, u, rfl, p2, q2⟩ := reps_two p
    cases p2; cases q2
    exact ⟨_, _, rfl, k w H _ (Wd.le.refl _) r (.int _)⟩
  · cases h
theorem bo_divmod : BOk T (fun xs H Q => ∃ i j, xs = [.int i, .int j] ∧ CDivP i j ∧ ∀ p, H p = none → Q (.ref p) (upd H p (.tup [.int (i / j), .int (i % j)]))) bDivmod := fun w S xs vs H d Q r p h k => by
  unfold bDivmod at h
  split at h
  · split at h
    · rename_i hj
      cases h
      obtain ⟨v, u, rfl, p2, q2⟩ := reps_two p
      cases p2; cases q2
      refine ⟨_, _, rfl, (by
        unfold divOk at hj
        have hj := of_decide_eq_true hj
        refine ⟨hj.1, PyProof.noPylong_of_log2 ?_⟩
        rename_i jj _
        have h2 : jj.natAbs < 2 ^ 60 := by omega
        have := (Nat.log2_lt (n := jj.natAbs) (k := 60) (by omega)).mpr h2
        omega), fun p hp => ?_⟩
      obtain ⟨l1, r1⟩ := r.new hp (.tup _)
      exact k _ _ _ l1 r1 (.tup (.inl (.inl upd_same)) (.cons (.int _) (.cons (.int _) .nil)))
    · cases h
  · cases h
def rLenH (K : PySem.W.Frag) : List V → Hp → VK → Prop := fun xs H Q => ∃ x n, xs = [x] ∧ LenV K x H n ∧ Q (.int n) H
theorem reps_len_eq {w : Wd} {l : List D} {vs : List V} (r : Reps T w l vs) : (vs.length : Int) = l.length := by rw [r.length]
theorem bo_len : BOk T (rLenH T.K) (fun xs => match xs with | [.dct _] => none | _ => bLen xs) := fun w S xs vs H d Q r p h k => by
  dsimp only at h
  split at h
  · cases h
  rename_i hnd
  unfold bLen at h
  split at h
  · obtain ⟨v, rfl, p2⟩ := reps_one p
    unfold lenD at h
    split at h
    · cases h
      cases p2 with
      | tup q1 q2 => exact ⟨_, _, rfl, .inr ⟨_, sqt_sub r q1, rfl⟩, by rw [reps_len_eq q2]; exact k w H _ (Wd.le.refl _) r (.int _)⟩
    · cases h
      cases p2 with
      | lst q1 q2 => exact ⟨_, _, rfl, .inl ⟨_, .inl (.inl (r.sub _ _ q1)), rfl⟩, by rw [reps_len_eq q2]; exact k w H _ (Wd.le.refl _) r (.int _)⟩
    · cases h
      cases p2 with
      | scr q1 => exact ⟨_, _, rfl, .inl ⟨_, sql_sub r q1, rfl⟩, by rw [List.length_map]; exact k w H _ (Wd.le.refl _) r (.int _)⟩
    · split at h
      · rename_i hl
        cases h
        cases p2
        exact ⟨_, _, rfl, ⟨by rw [sizeLine_eq]; exact hl, rfl⟩, k w H _ (Wd.le.refl _) r (.int _)⟩
      · cases h
    · exact (hnd _ rfl).elim
    · cases h
  · cases h
def rListOf (K : PySem.W.Frag) : List V → Hp → VK → Prop := fun xs H Q => ∃ p ys, xs = [.ref p] ∧ (SqL K H p ys ∨ SqT K H p ys) ∧ ∀ l, H l = none → Q (.ref l) (upd H l (.lst ys))
theorem bo_list : BOk T (rListOf T.K) bList := fun w S xs vs H d Q r p h k => by
  unfold bList at h
  split at h
  · cases h
    obtain ⟨v, rfl, p2⟩ := reps_one p
    cases p2 with
    | tup q1 q2 =>
      refine ⟨_, _, rfl, .inr (sqt_sub r q1), fun p hp => ?_⟩
      obtain ⟨l1, r1⟩ := r.new hp (.lst _)
      exact k _ _ _ l1 r1 (.lst upd_same (q2.mono l1))
  · cases h
    obtain ⟨v, rfl, p2⟩ := reps_one p
    cases p2 with
    | lst q1 q2 =>
      refine ⟨_, _, rfl, .inl (.inl (.inl (r.sub _ _ q1))), fun p hp => ?_⟩
      obtain ⟨l1, r1⟩ := r.new hp (.lst _)
      exact k _ _ _ l1 r1 (.lst upd_same (q2.mono l1))
  · cases h
def rTupleOf (K : PySem.W.Frag) : List V → Hp → VK → Prop := fun xs H Q => ∃ p ys, xs = [.ref p] ∧ ((SqL K H p ys ∧ ∀ l, H l = none → Q (.ref l) (upd H l (.tup ys))) ∨ (SqT K H p ys ∧ Q (.ref p) H))
theorem bo_tuple : BOk T (rTupleOf T.K) bTuple := fun w S xs vs H d Q r p h k => by
  unfold bTuple at h
  split at h
  · cases h
    obtain ⟨v, rfl, p2⟩ := reps_one p
    cases p2 with
    | tup q1 q2 => exact ⟨_, _, rfl, .inr ⟨sqt_sub r q1, k w H _ (Wd.le.refl _) r (.tup q1 q2)⟩⟩
  · cases h
    obtain ⟨v, rfl, p2⟩ := reps_one p
    cases p2 with
    | lst q1 q2 =>
      refine ⟨_, _, rfl, .inl ⟨.inl (.inl (r.sub _ _ q1)), fun p hp => ?_⟩⟩
      obtain ⟨l1, r1⟩ := r.new hp (.tup _)
      exact k _ _ _ l1 r1 (.tup (.inl (.inl upd_same)) (q2.mono l1))
  · cases h
/-- list(..) of what will be changed -/
theorem ie_listM {x : Str} {p : Pos} (hK : X.K = T.K) (hg : Gl X x) (hn : X.mg x = none) (hv : bootBuiltins x = some (.type "list")) (ha : IA T E X [a] fa) (hx : x ≠ "__name__" := by decide +kernel) (hdb : (x == ("__debug__" : Str)) = false := by decide +kernel)
    (he : starEach [a] X.env = (false, eval a X.env) :: starEach [] X.env := by rfl) (hpl : (backTo pos (starEach [] X.env)).any (·.1) = false := by rfl) : IE T E X (.Call (.Name x p) [a] [] pos) (eListM fa) :=
  PE.mono (pe_callTy call_list_of hg hn hv ha hx hdb he hpl) fun σ H Q ⟨w, env, S, r0, e, q⟩ => ⟨w, env, S, r0, e, (RP.bnd q).mono (fun xs S1 h1 w1 H1 vs l1 r1 p1 => by
    split at h1
    · obtain ⟨v, rfl, p2⟩ := reps_one p1
      cases p2 with
      | tup q1 q2 =>
        refine ⟨_, _, rfl, .inr (by rw [hK]; exact sqt_sub r1 q1), fun p hp => ?_⟩
        obtain ⟨l2, r2, at_⟩ := r1.alloc (o := .lst _) (c := .lst _) hp ⟨_, upd_same, q2.mono (Wd.le.app _ _)⟩
        exact h1 _ _ _ (l1.trans l2) r2 (.ref at_)
    · obtain ⟨v, rfl, p2⟩ := reps_one p1
      cases p2 with
      | lst q1 q2 =>
        refine ⟨_, _, rfl, .inl (.inl (.inl (r1.sub _ _ q1))), fun p hp => ?_⟩
        obtain ⟨l2, r2, at_⟩ := r1.alloc (o := .lst _) (c := .lst _) hp ⟨_, upd_same, q2.mono (Wd.le.app _ _)⟩
        exact h1 _ _ _ (l1.trans l2) r2 (.ref at_)
    · split at h1
      · rename_i hS
        obtain ⟨v, rfl, p2⟩ := reps_one p1
        cases p2 with
        | ref hn =>
          obtain ⟨us, c1, c2⟩ := r1.cell _ _ _ hS hn
          refine ⟨_, _, rfl, .inl (.inl (.inl c1)), fun p hp => ?_⟩
          obtain ⟨l2, r2, at_⟩ := r1.alloc (o := .lst _) (c := .lst _) hp ⟨_, upd_same, c2.mono (Wd.le.app _ _)⟩
          exact h1 _ _ _ (l1.trans l2) r2 (.ref at_)
      · exact (show False from h1).elim
    · exact (show False from h1).elim) fun _ _ _ x => x⟩
def tyV' (K : PySem.W.Frag) : Ty → Value
  | .b n => .type n
  | .o c => .ref (He.ga K (c : Str))
def tyVV (K : PySem.W.Frag) : Ty → V
  | .b n => .ty n
  | .o c => .ref (He.ga K (c : Str))
/-- what is told of a class for isinstance -/
structure IsiC (K : PySem.W.Frag) (C : Addr) : Prop where
  cl : Cls K C
  ha : PySem.W.findIn K (.ref C) "__class__" = some (some (.builtin "object.__class__"))
  hn : PySem.W.specialIn K (.builtin "object.__class__") "__get__" = some (some (.builtin "getset_descriptor.__get__"))
  htk : PySem.W.takesIn K (.builtin "object.__class__") = some true
  hm : PySem.W.mroIn K C (.type "object") = some true
theorem tyX_of {w : Wd} {S : Store} {H : Hp} {d : D} {x : V} {t : Ty} (r : WR T w S H) (p : Rep T w d x) (h : tyD d S = some t) (hc : ∀ c, t = .o c → IsiC T.K (He.ga T.K (c : Str))) : TyX T.K H x (tyV' T.K t) := by
  cases p with
  | non => cases h; exact .base .non
  | bl b => cases h; exact .base (.bl b)
  | int i => cases h; exact .base (.int i)
  | str s => cases h; exact .base (.str s)
  | tup q1 q2 =>
    cases h
    rcases sqt_sub r q1 with (q | ⟨o, q⟩) | ⟨o, its, n, q, hcl, _⟩
    · exact .base (.tup q)
    · exact .fTuple q
    · exact .kTuple q hcl
  | scr q1 =>
    cases h
    rcases sql_sub r q1 with (q | ⟨o, q⟩) | ⟨o, its, n, q, hcl, _⟩
    · exact .base (.lst q)
    · exact .base (.frz q)
    · exact .kList q hcl
  | lst q1 q2 => cases h; exact .base (.lst (r.sub _ _ q1))
  | dct q1 q2 => cases h; exact .base (.dK (r.sub _ _ q1))
  | obj q1 q2 q3 =>
    cases h
    have z := hc _ rfl
    exact .base (.ins (r.sub _ _ q1) z.cl z.ha z.hn z.htk z.hm)
  | ref hn =>
    unfold tyD at h
    dsimp only at h
    split at h
    · rename_i l hS
      cases h
      obtain ⟨us, c1, c2⟩ := r.cell _ _ _ hS hn
      exact .base (.lst c1)
    · rename_i l hS
      cases h
      obtain ⟨us, c1, c2⟩ := r.cell _ _ _ hS hn
      exact .base (.dK c1)
    · rename_i c fs hS
      cases h
      obtain ⟨dx, gs, c1, c2, c3⟩ := r.cell _ _ _ hS hn
      have z := hc _ rfl
      exact .base (.ins c1 z.cl z.ha z.hn z.htk z.hm)
    · cases h
  | fn x => cases h
  | xc0 q1 q2 => cases h
  | xc1 q1 q2 q3 q4 q5 => cases h
/-- the class, as written -/
def IsTyE (T : Tb) (X : Cx) (e : Expr) (t : Ty) : Prop := PE X e (tC (tyVV T.K t))
theorem isTy_b {n : String} {x : Str} (hg : Gl X x) (hm : X.mg x = none) (hv : bootBuiltins x = some (.type n)) (hn : x ≠ "__name__" := by decide +kernel) (hd : (x == ("__debug__" : Str)) = false := by decide +kernel) : IsTyE T X (.Name x pos) (.b n) := pe_bltn (v := .ty n) hg hm hv rfl hn hd
theorem isTy_o {c : String} (hg : Gl X (c : Str)) (hm : X.mg (c : Str) = some (.ref (He.ga T.K (c : Str)))) (hd : ((c : Str) == ("__debug__" : Str)) = false := by decide +kernel) : IsTyE T X (.Name (c : Str) pos) (.o c) := pe_glob (v := .ref _) hg hm rfl hd
theorem ie_isi {p : Pos} {tys : List Ty} {Tt : Ty} (hK : X.K = T.K) (hg : Gl X "isinstance") (hn : X.mg "isinstance" = none) (ha : IE T E X a f) (hb : IsTyE T X b Tt) (hc : ∀ t ∈ tys, ∀ c, t = .o c → IsiC T.K (He.ga T.K (c : Str))) (hk : ∀ t ∈ tys, PySem.W.kitOne T.K (tyV' T.K t) (tyV' T.K Tt) = some (subTy t Tt))
    (he : starEach (a :: [b]) X.env = (false, eval a X.env) :: starEach [b] X.env := by rfl) (hpl : (backTo pos (starEach [b] X.env)).any (·.1) = false := by rfl) (he2 : starEach [b] X.env = (false, eval b X.env) :: starEach [] X.env := by rfl) : IE T E X (.Call (.Name "isinstance" p) [a, b] [] pos) (eIsI tys Tt f) :=
  PE.mono (pe_callB call_isi hg hn (by decide +kernel) (pa_cons ha (pa_cons hb pa_nil he2) he) (by decide +kernel) (by decide +kernel) he hpl) fun σ H Q ⟨w, env, S, r, e, q⟩ => ⟨w, env, S, r, e, (RP.bnd q).mono (fun d S1 h1 w1 H1 x l1 r1 p1 => by
    split at h1
    · rename_i t ht
      split at h1
      · rename_i hmem
        have hm : t ∈ tys := by simpa using hmem
        refine ⟨x, _, tyV' T.K t, tyV' T.K Tt, subTy t Tt, rfl, ?_, ?_, ?_, h1 w1 H1 _ l1 r1 (.bl _)⟩
        · cases Tt with
          | b n => exact .ty n
          | o c => exact .own _
        · rw [hK]; exact tyX_of r1 p1 ht (hc t hm)
        · rw [hK]; exact hk t hm
      · exact (show False from h1).elim
    · exact (show False from h1).elim) fun _ _ _ x => x⟩
end Ro
end
section
set_option Elab.async false
set_option linter.all false
set_option maxRecDepth 100000
set_option maxHeartbeats 4000000
namespace Ro
open PySem PySem.Spec PyProof.Rows L2
variable {T : Tb} {E : XK} {X : Cx} {a b c e : Expr} {es : List Expr} {f g h : EX} {fa ga fk : AX} {fb gb : BX} {pos : Pos} {st : Stmt} {sts rest : List Stmt} {s t : ES}
def tIo (T : Tb) (E : XK) (f : OX) : L2.TO := fun σ H Q => ∃ w env S, WR T w S H ∧ ER T w env σ ∧ RP (f env S) (fun o S' => ∀ w' H', w.le w' → WR T w' S' H' → Q o H') (XW T w E)
def IO' (T : Tb) (E : XK) (X : Cx) (e : Option Expr) (f : OX) : Prop := PO X e (tIo T E f)
theorem PO.mono {X : Cx} {e : Option Expr} {t t' : L2.TO} (h : PO X e t) (k : ∀ σ H Q, t' σ H Q → t σ H Q) : PO X e t' := ⟨fun pins s σ H Q I q => h.run pins s σ H Q I (k _ _ _ q)⟩
theorem io_none : IO' T E X none oNone := PO.mono po_none fun σ H Q ⟨w, env, S, r, e, q⟩ => q w H (Wd.le.refl _) r
theorem io_some (h : IE T E X a f) : IO' T E X (some a) (oSome f) := PO.mono (po_some h) fun σ H Q ⟨w, env, S, r, e, q⟩ => ⟨w, env, S, r, e, (RP.bnd q).mono (fun d S1 h1 w1 H1 x l1 r1 p1 => by
  cases p1 with
  | int i => exact ⟨i, rfl, h1 w1 H1 l1 r1⟩
  | _ => exact (show False from h1).elim) fun _ _ _ x => x⟩
theorem cutI_sIx (n d : Nat) (o : Option Int) : HT.sIx n d o = cutI n d o := by
  cases o <;> rfl
theorem reps_cut {w : Wd} {l : List D} {vs : List V} (lo hi : Option Int) (r : Reps T w l vs) : Reps T w (cutL l lo hi) (cutV vs lo hi) := by
  unfold cutL cutV
  rw [cutI_sIx, cutI_sIx, r.length]
  exact (r.drop _).take _
theorem ie_cut {lo hi : Option Expr} {ol oh : OX} {p2 : Pos} (hK : X.K = T.K) (ha : IE T E X a f) (hl : IO' T E X lo ol) (hh : IO' T E X hi oh) : IE T E X (.Subscript a (.Slice lo hi none p2) pos) (eCut f ol oh) :=
  PE.mono (pe_slice (sl_tupA.or (sl_list.or sl_str)) ha hl hh) fun σ H Q ⟨w, env, S, r, e, q⟩ => ⟨w, env, S, r, e, (RP.bnd q).mono (fun d S1 h1 w1 H1 x l1 r1 p1 => ⟨w1, env, S1, r1, e.mono l1, (RP.bnd h1).mono (fun o1 S2 h2 w2 H2 l2 r2 => ⟨w2, env, S2, r2, (e.mono l1).mono l2, (RP.bnd h2).mono (fun o2 S3 h3 w3 H3 l3 r3 => by
    have lt := (l1.trans l2).trans l3
    have p3 := p1.mono (l2.trans l3)
    cases z : cutD d o1 o2 with
    | none => rw [z] at h3; exact (show False from h3).elim
    | some y =>
      rw [z] at h3
      unfold cutD at z
      rw [hK]
      split at z
      · cases z
        cases p3 with
        | tup q1 q2 =>
          rename_i aa vs
          refine .inl ⟨aa, vs, rfl, sqt_sub r3 q1, fun hw => ?_, fun hw p hp => ?_⟩
          · refine h3 w3 H3 _ lt r3 (.tup q1 ?_)
            have e2 : cutV vs o1 o2 = vs := by
              unfold cutV
              rw [hw.1, hw.2, List.drop_zero, Nat.sub_zero, List.take_length]
            have z2 := reps_cut o1 o2 q2
            rw [e2] at z2
            exact z2
          · obtain ⟨l4, r4⟩ := r3.new hp (.tup _)
            exact h3 _ _ _ (lt.trans l4) r4 (.tup (.inl (.inl upd_same)) ((reps_cut o1 o2 q2).mono l4))
      · cases z
        cases p3 with
        | lst q1 q2 =>
          refine .inr (.inl ⟨_, _, rfl, .inl (.inl (r3.sub _ _ q1)), fun p hp => ?_⟩)
          obtain ⟨l4, r4⟩ := r3.new hp (.lst _)
          exact h3 _ _ _ (lt.trans l4) r4 (.lst upd_same ((reps_cut o1 o2 q2).mono l4))
      · split at z
        · rename_i hl
          cases z
          cases p3
          refine .inr (.inr ⟨_, rfl, by rw [sizeLine_eq]; exact hl, ?_⟩)
          have z2 := h3 w3 H3 _ lt r3 (.str _)
          unfold cutS
          unfold cutL at z2
          rw [cutI_sIx, cutI_sIx]
          rw [Array.length_toList] at z2
          exact z2
        · cases z
      · cases z) fun _ _ _ x => x.le (l1.trans l2)⟩) fun _ _ _ x => x.le l1⟩) fun _ _ _ x => x⟩
theorem tyV_list {w : Wd} {S : Store} {H : Hp} {d : D} {x : V} (r : WR T w S H) (p : Rep T w d x) (h : tyD d S = some (.b "list")) : tyV T.K "list" x H := by
  cases p with
  | ref hn =>
    unfold tyD at h
    dsimp only at h
    split at h
    · rename_i l hS
      obtain ⟨us, c1, c2⟩ := r.cell _ _ _ hS hn
      exact .inl ⟨rfl, us, .inl (.inl c1)⟩
    all_goals exact absurd h (by simp)
  | lst q1 q2 => exact .inl ⟨rfl, _, .inl (.inl (r.sub _ _ q1))⟩
  | scr q1 => exact .inl ⟨rfl, _, sql_sub r q1⟩
  | _ => exact absurd h (by unfold tyD; simp)
theorem mt_R {id : String} {r : V → List V → Hp → VK → Prop} (h : MtM X id r) : MtR X id r := fun pins s σ H x xs v us Q I rx rv q => h pins s σ H x xs v us Q I rx rv q
theorem ie_app {apos : Pos} (hK : X.K = T.K) (ho : IE T E X a f) (hb : IE T E X b g) (hbase : attributeBase a "append" X.env (eval a X.env) = eval a X.env := by rfl)
    (hfew : ((backTo pos (starEach [b] X.env)).all (fun x => !x.1) && (backToKw pos (keywordEach [] X.env)).all (fun x => x.1.isSome)
      && decide (([b]).length + ([] : List Keyword).length + (if ([] : List Keyword).isEmpty then 0 else 1) < 30)) = true := by rfl)
    (hline : (apos.endLine == pos.line) = true := by rfl) (hs : starEach [b] X.env = (false, eval b X.env) :: starEach [] X.env := by rfl) (hpl : (backTo pos (starEach [] X.env)).any (·.1) = false := by rfl) :
    IE T E X (.Call (.Attribute a "append" apos) [b] [] pos) (eApp f g) :=
  PE.mono (pe_bm PySem.F.plainAttrs_list PySem.F.slot_list_append PySem.F.type_list_append (mt_R mt_append) ho (pa_cons hb pa_nil hs) hbase hfew hline hs hpl) fun σ H Q ⟨w, env, S, r, e, q⟩ => ⟨w, env, S, r, e, (RP.bnd q).mono (fun d S1 h1 w1 H1 x l1 r1 p1 => by
    by_cases ht : tyD d S1 = some (.b "list")
    · rw [if_pos ht] at h1
      refine ⟨by rw [hK]; exact tyV_list r1 p1 ht, w1, env, S1, r1, e.mono l1, (RP.bnd h1).mono (fun y S2 h2 w2 H2 yv l2 r2 p2 => ?_) fun _ _ _ x => x.le l1⟩
      cases z : appM d y S2 with
      | none => rw [z] at h2; exact (show False from h2).elim
      | some S3 =>
        rw [z] at h2
        unfold appM at z
        split at z
        · split at z
          · rename_i n _ xs hS
            split at z
            · rename_i hl
              cases z
              cases p1.mono l2 with
              | ref hn =>
                obtain ⟨us, c1, c2⟩ := r2.cell _ _ _ hS hn
                refine ⟨_, us, yv, rfl, rfl, c1, by rw [sizeLine_eq, ← c2.length]; exact hl, ?_⟩
                exact h2 w2 _ _ (l1.trans l2) (r2.write hS hn (by intro z; cases z) ⟨_, upd_same, c2.append (.cons p2 .nil)⟩) .non
            · cases z
          · cases z
        · cases z
    · rw [if_neg ht] at h1
      exact (show False from h1).elim) fun _ _ _ x => x⟩
end Ro
end
section
set_option Elab.async false
set_option linter.all false
set_option maxRecDepth 100000
set_option maxHeartbeats 4000000
namespace Ro
open PySem PySem.Spec PyProof.Rows L2
variable {T : Tb} {E : XK} {X : Cx} {a b c e : Expr} {es : List Expr} {f g h : EX} {fa ga fk : AX} {fb gb : BX} {pos : Pos} {st : Stmt} {sts rest : List Stmt} {s t : ES}
mutual
def toPy : D → PyData
  | .bl b => .bool b
  | .int i => .int i
  | .str s => .str s
  | .tup l => .tuple (toPys l)
  | .lst l => .list (toPys l)
  | _ => .none
def toPys : List D → List PyData
  | [] => []
  | x :: l => toPy x :: toPys l
end
/-- plain, at most n deep -/
def plN : Nat → D → Bool
  | _, .non => true
  | _, .bl _ => true
  | _, .int _ => true
  | _, .str _ => true
  | n + 1, .tup l => l.all (plN n)
  | n + 1, .lst l => l.all (plN n)
  | _, _ => false
def plD : D → Bool := plN 8
theorem toPy_ok : ∀ (n : Nat) (d : D), plN n d = true → (toPy d).plain = true ∧ (toPy d).depth ≤ n
  | _, .non, _ => ⟨rfl, Nat.zero_le _⟩
  | _, .bl _, _ => ⟨rfl, Nat.zero_le _⟩
  | _, .int _, _ => ⟨rfl, Nat.zero_le _⟩
  | _, .str _, _ => ⟨rfl, Nat.zero_le _⟩
  | 0, .tup l, h => by simp [plN] at h
  | 0, .lst l, h => by simp [plN] at h
  | n + 1, .tup l, h => by
    have h' : ∀ x ∈ l, plN n x = true := by simpa [plN] using h
    have key : ∀ m : List D, (∀ x ∈ m, plN n x = true) → PyData.plainAll (toPys m) = true ∧ PyData.depthAll (toPys m) ≤ n := by
      intro m
      induction m with
      | nil => intro _; exact ⟨rfl, Nat.zero_le _⟩
      | cons x m ih =>
        intro hm
        obtain ⟨a1, a2⟩ := toPy_ok n x (hm x (by simp))
        obtain ⟨b1, b2⟩ := ih fun y hy => hm y (by simp [hy])
        exact ⟨by simp [toPys, PyData.plainAll, a1, b1], by simp only [toPys, PyData.depthAll]; omega⟩
    obtain ⟨k1, k2⟩ := key l h'
    exact ⟨by simpa [toPy, PyData.plain] using k1, by simp only [toPy, PyData.depth]; omega⟩
  | n + 1, .lst l, h => by
    have h' : ∀ x ∈ l, plN n x = true := by simpa [plN] using h
    have key : ∀ m : List D, (∀ x ∈ m, plN n x = true) → PyData.plainAll (toPys m) = true ∧ PyData.depthAll (toPys m) ≤ n := by
      intro m
      induction m with
      | nil => intro _; exact ⟨rfl, Nat.zero_le _⟩
      | cons x m ih =>
        intro hm
        obtain ⟨a1, a2⟩ := toPy_ok n x (hm x (by simp))
        obtain ⟨b1, b2⟩ := ih fun y hy => hm y (by simp [hy])
        exact ⟨by simp [toPys, PyData.plainAll, a1, b1], by simp only [toPys, PyData.depthAll]; omega⟩
    obtain ⟨k1, k2⟩ := key l h'
    exact ⟨by simpa [toPy, PyData.plain] using k1, by simp only [toPy, PyData.depth]; omega⟩
  | n, .dct l, h => by simp [plN] at h
  | n, .obj c l, h => by simp [plN] at h
  | n, .scr l, h => by simp [plN] at h
  | n, .ref c, h => by simp [plN] at h
  | n, .fn c, h => by simp [plN] at h
  | n, .thk c l, h => by simp [plN] at h
theorem dp_of {w : Wd} {S : Store} {H : Hp} (r : WR T w S H) : ∀ (n : Nat) (d : D) (x : V), plN n d = true → Rep T w d x → Dp T.K H x (toPy d)
  | _, .non, _, _, .non => .non
  | _, .bl _, _, _, .bl b => .bl b
  | _, .int _, _, _, .int i => .int i
  | _, .str _, _, _, .str s => .str s
  | 0, .tup _, _, h, _ => by simp [plN] at h
  | 0, .lst _, _, h, _ => by simp [plN] at h
  | n + 1, .tup l, _, h, .tup q q2 => by
    have h' : ∀ x ∈ l, plN n x = true := by simpa [plN] using h
    have key : ∀ (m : List D) (vs : List V), (∀ x ∈ m, plN n x = true) → Reps T w m vs → DpAll T.K H vs (toPys m) := by
      intro m
      induction m with
      | nil => intro vs _ z; cases z; exact .nil
      | cons x m ih =>
        intro vs hm z
        cases z with
        | cons z1 z2 => exact .cons (dp_of r n x _ (hm x (by simp)) z1) (ih _ (fun y hy => hm y (by simp [hy])) z2)
    exact .tup (sqt_sub r q) (key l _ h' q2)
  | n + 1, .lst l, _, h, .lst q q2 => by
    have h' : ∀ x ∈ l, plN n x = true := by simpa [plN] using h
    have key : ∀ (m : List D) (vs : List V), (∀ x ∈ m, plN n x = true) → Reps T w m vs → DpAll T.K H vs (toPys m) := by
      intro m
      induction m with
      | nil => intro vs _ z; cases z; exact .nil
      | cons x m ih =>
        intro vs hm z
        cases z with
        | cons z1 z2 => exact .cons (dp_of r n x _ (hm x (by simp)) z1) (ih _ (fun y hy => hm y (by simp [hy])) z2)
    exact .lst (.inl (.inl (r.sub _ _ q))) (key l _ h' q2)
  | n, .scr _, _, h, _ => by simp [plN] at h
  | n, .dct _, _, h, _ => by simp [plN] at h
  | n, .obj _ _, _, h, _ => by simp [plN] at h
  | n, .ref _, _, h, _ => by simp [plN] at h
  | n, .fn _, _, h, _ => by simp [plN] at h
  | n, .thk _ _, _, h, _ => by simp [plN] at h
theorem dpAll_of {w : Wd} {S : Store} {H : Hp} (r : WR T w S H) (n : Nat) : ∀ (m : List D) (vs : List V), m.all (plN n) = true → Reps T w m vs → DpAll T.K H vs (toPys m)
  | [], _, _, z => by cases z; exact .nil
  | x :: m, _, hm, z => by
    obtain ⟨h1, h2⟩ := Bool.and_eq_true_iff.mp (show (plN n x && m.all (plN n)) = true from hm)
    cases z with
    | cons z1 z2 => exact .cons (dp_of r n x _ h1 z1) (dpAll_of r n m _ h2 z2)
theorem toPys_ok {n : Nat} {l : List D} (h : l.all (plN n) = true) : PyData.plainAll (toPys l) = true ∧ PyData.depthAll (toPys l) ≤ n := by
  have z := toPy_ok (n + 1) (.tup l) h
  refine ⟨by simpa [toPy, PyData.plain] using z.1, ?_⟩
  have := z.2
  simp only [toPy, PyData.depth] at this
  omega
mutual
theorem eqv_py : ∀ (n : Nat) (d e : D), plN n d = true → plN n e = true → PyData.eqv (toPy d) (toPy e) = pyEq d e
  | n, .non, e, _, he => by cases e <;> simp_all [plN, toPy, PyData.eqv, pyEq]
  | n, .bl b, e, _, he => by
    cases e <;> simp_all [plN, toPy, PyData.eqv, pyEq]
    all_goals (try (cases b <;> simp <;> rfl))
  | n, .int i, e, _, he => by
    cases e <;> simp_all [plN, toPy, PyData.eqv, pyEq]
    all_goals (first | rfl | (rename_i b; cases b <;> simp <;> rfl))
  | n, .str s, e, _, he => by
    cases e <;> simp_all [plN, toPy, PyData.eqv, pyEq]
    all_goals rfl
  | 0, .tup l, e, h, he => by simp [plN] at h
  | 0, .lst l, e, h, he => by simp [plN] at h
  | n + 1, .tup l, e, h, he => by
    cases e with
    | tup m =>
      simp only [toPy, PyData.eqv, pyEq]
      exact eqvs_py n l m h he
    | _ => simp_all [plN, toPy, PyData.eqv, pyEq]
  | n + 1, .lst l, e, h, he => by
    cases e with
    | lst m =>
      simp only [toPy, PyData.eqv, pyEq]
      exact eqvs_py n l m h he
    | _ => simp_all [plN, toPy, PyData.eqv, pyEq]
  | n, .dct l, _, h, _ => by simp [plN] at h
  | n, .obj c l, _, h, _ => by simp [plN] at h
  | n, .scr l, _, h, _ => by simp [plN] at h
  | n, .ref c, _, h, _ => by simp [plN] at h
  | n, .fn c, _, h, _ => by simp [plN] at h
  | n, .thk c l, _, h, _ => by simp [plN] at h
theorem eqvs_py : ∀ (n : Nat) (l m : List D), l.all (plN n) = true → m.all (plN n) = true → PyData.eqvAll (toPys l) (toPys m) = pyEqs l m
  | _, [], [], _, _ => rfl
  | _, [], _ :: _, _, _ => rfl
  | _, _ :: _, [], _, _ => rfl
  | n, x :: l, y :: m, h1, h2 => by
    obtain ⟨a1, a2⟩ := Bool.and_eq_true_iff.mp (show (plN n x && l.all (plN n)) = true from h1)
    obtain ⟨b1, b2⟩ := Bool.and_eq_true_iff.mp (show (plN n y && m.all (plN n)) = true from h2)
    simp only [toPys, PyData.eqvAll, pyEqs]
    rw [eqv_py n x y a1 b1, eqvs_py n l m a2 b2]
end
def eqD (x y : D) : Option D := if plD x && plD y then some (.bl (pyEq x y)) else none
def neD (x y : D) : Option D := if plD x && plD y then some (.bl (!pyEq x y)) else none
theorem oi_eqP (hK : X.K = T.K) (hu : X.A.units + 64 < cLine) : OpR X (compareOp .Eq) (rOp T eqD) := fun pins s σ H x y v u Q I rx ry q => by
  obtain ⟨w, d, e, r, S, h1, h2, h3, h4, h5⟩ := q
  unfold eqD at h4
  split at h4
  · rename_i hp
    cases h4
    obtain ⟨p1, p2⟩ := Bool.and_eq_true_iff.mp hp
    obtain ⟨as, r1⟩ := Dp.reads I _ x v (by rw [hK]; exact dp_of h1 8 d x p1 h2) rx
    obtain ⟨bs, r2⟩ := Dp.reads I _ y u (by rw [hK]; exact dp_of h1 8 e y p2 h3) ry
    obtain ⟨k1, k2⟩ := toPy_ok 8 d p1
    obtain ⟨k3, k4⟩ := toPy_ok 8 e p2
    refine SeqAt.eq_plain r1 r2 k1 k3 (by omega) ⟨.bl _, H, I, rfl, ?_⟩
    rw [eqv_py 8 d e p1 p2]
    exact h5 w H _ (Wd.le.refl _) h1 (.bl _)
  · cases h4
theorem oi_neP (hK : X.K = T.K) (hu : X.A.units + 64 < cLine) : OpR X (compareOp .NotEq) (rOp T neD) := fun pins s σ H x y v u Q I rx ry q => by
  obtain ⟨w, d, e, r, S, h1, h2, h3, h4, h5⟩ := q
  unfold neD at h4
  split at h4
  · rename_i hp
    cases h4
    obtain ⟨p1, p2⟩ := Bool.and_eq_true_iff.mp hp
    obtain ⟨as, r1⟩ := Dp.reads I _ x v (by rw [hK]; exact dp_of h1 8 d x p1 h2) rx
    obtain ⟨bs, r2⟩ := Dp.reads I _ y u (by rw [hK]; exact dp_of h1 8 e y p2 h3) ry
    obtain ⟨k1, k2⟩ := toPy_ok 8 d p1
    obtain ⟨k3, k4⟩ := toPy_ok 8 e p2
    refine SeqAt.ne_plain r1 r2 k1 k3 (by omega) ⟨.bl _, H, I, rfl, ?_⟩
    rw [eqv_py 8 d e p1 p2]
    exact h5 w H _ (Wd.le.refl _) h1 (.bl _)
  · cases h4
def inL (x : D) (l : List D) : Bool := l.any fun y => pyEq y x
theorem any_py {n : Nat} {x : D} (hx : plN n x = true) : ∀ {l : List D}, l.all (plN n) = true → ((toPys l).any fun y => PyData.eqv y (toPy x)) = inL x l
  | [], _ => rfl
  | y :: l, h => by
    obtain ⟨h1, h2⟩ := Bool.and_eq_true_iff.mp (show (plN n y && l.all (plN n)) = true from h)
    show (PyData.eqv (toPy y) (toPy x) || (toPys l).any fun y => PyData.eqv y (toPy x)) = (pyEq y x || inL x l)
    rw [eqv_py n y x h1 hx, any_py hx h2]
def inD (x y : D) : Option D := match y with
  | .lst l => if plD x && l.all (plN 8) then some (.bl (inL x l)) else none
  | .tup l => if plD x && l.all (plN 8) then some (.bl (inL x l)) else none
  | _ => none
theorem oi_in (hK : X.K = T.K) (hu : X.A.units + 64 < cLine) : OpR X (compareOp .In) (rOp T inD) := fun pins s σ H x y v u Q I rx ry q => by
  obtain ⟨w, d, e, r, S, h1, h2, h3, h4, h5⟩ := q
  unfold inD at h4
  split at h4
  · split at h4
    · rename_i l hp
      cases h4
      obtain ⟨p1, p2⟩ := Bool.and_eq_true_iff.mp hp
      obtain ⟨as, r1⟩ := Dp.reads I _ x v (by rw [hK]; exact dp_of h1 8 d x p1 h2) rx
      obtain ⟨bs, r2⟩ := Dp.reads I _ y u (by rw [hK]; exact dp_of h1 9 (.lst l) y p2 h3) ry
      obtain ⟨k1, k2⟩ := toPy_ok 8 d p1
      obtain ⟨k3, k4⟩ := toPys_ok p2
      refine SeqAt.in_list_data (xs := toPys l) (by simpa only [toPy] using r2) r1 k3 k1 (by omega) ⟨.bl _, H, I, rfl, ?_⟩
      rw [any_py p1 p2]
      exact h5 w H _ (Wd.le.refl _) h1 (.bl _)
    · cases h4
  · split at h4
    · rename_i l hp
      cases h4
      obtain ⟨p1, p2⟩ := Bool.and_eq_true_iff.mp hp
      obtain ⟨as, r1⟩ := Dp.reads I _ x v (by rw [hK]; exact dp_of h1 8 d x p1 h2) rx
      obtain ⟨bs, r2⟩ := Dp.reads I _ y u (by rw [hK]; exact dp_of h1 9 (.tup l) y p2 h3) ry
      obtain ⟨k1, k2⟩ := toPy_ok 8 d p1
      obtain ⟨k3, k4⟩ := toPys_ok p2
      refine SeqAt.in_tuple_data (xs := toPys l) (by simpa only [toPy] using r2) r1 k3 k1 (by omega) ⟨.bl _, H, I, rfl, ?_⟩
      rw [any_py p1 p2]
      exact h5 w H _ (Wd.le.refl _) h1 (.bl _)
    · cases h4
  · cases h4
end Ro
end
section
set_option Elab.async false
set_option linter.all false
set_option maxRecDepth 100000
set_option maxHeartbeats 4000000
namespace Ro
open PySem PySem.Spec PyProof.Rows L2
variable {T : Tb} {E : XK} {X : Cx} {a b c e : Expr} {es : List Expr} {f g h : EX} {fa ga fk : AX} {fb gb : BX} {pos : Pos} {st : Stmt} {sts rest : List Stmt} {s t : ES}
def reprOk (d : D) : Bool := plD d && (toPy d).showable && decide ((toPy d).shown.length ≤ LINE)
def bRepr : List D → Option D
  | [x] => if reprOk x then some (.str (toPy x).shown) else none
  | _ => none
theorem noDict_plain : (∀ d : PyData, d.plain = true → d.hasDict = false) ∧ (∀ l : List PyData, PyData.plainAll l = true → PyData.hasDictAll l = false) := by
  have key : ∀ n : Nat, (∀ d : PyData, d.depth ≤ n → d.plain = true → d.hasDict = false) ∧ (∀ l : List PyData, PyData.depthAll l ≤ n → PyData.plainAll l = true → PyData.hasDictAll l = false) := by
    intro n
    induction n with
    | zero =>
      have h1 : ∀ d : PyData, d.depth ≤ 0 → d.plain = true → d.hasDict = false := by
        intro d hd hp
        cases d with
        | list xs => simp [PyData.depth] at hd
        | tuple xs => simp [PyData.depth] at hd
        | dict kvs => simp [PyData.plain] at hp
        | _ => rfl
      refine ⟨h1, fun l => ?_⟩
      induction l with
      | nil => intro _ _; rfl
      | cons x l ih =>
        intro hd hp
        simp only [PyData.depthAll] at hd
        simp only [PyData.plainAll, Bool.and_eq_true] at hp
        simp only [PyData.hasDictAll, h1 x (by omega) hp.1, ih (by omega) hp.2, Bool.or_self]
    | succ n ih =>
      obtain ⟨_, ih2⟩ := ih
      have h1 : ∀ d : PyData, d.depth ≤ n + 1 → d.plain = true → d.hasDict = false := by
        intro d hd hp
        cases d with
        | list xs =>
          simp only [PyData.depth] at hd
          simp only [PyData.plain] at hp
          simp only [PyData.hasDict, ih2 xs (by omega) hp]
        | tuple xs =>
          simp only [PyData.depth] at hd
          simp only [PyData.plain] at hp
          simp only [PyData.hasDict, ih2 xs (by omega) hp]
        | dict kvs => simp [PyData.plain] at hp
        | _ => rfl
      refine ⟨h1, fun l => ?_⟩
      induction l with
      | nil => intro _ _; rfl
      | cons x l ih =>
        intro hd hp
        simp only [PyData.depthAll] at hd
        simp only [PyData.plainAll, Bool.and_eq_true] at hp
        simp only [PyData.hasDictAll, h1 x (by omega) hp.1, ih (by omega) hp.2, Bool.or_self]
  exact ⟨fun d => (key d.depth).1 d (Nat.le_refl _), fun l => (key (PyData.depthAll l)).2 l (Nat.le_refl _)⟩
/-- repr by data -/
def rRepr (K : PySem.W.Frag) : List V → Hp → VK → Prop := fun vs H Q => ∃ x d, vs = [x] ∧ Dp K H x d ∧ d.plain = true ∧ d.depth ≤ 20 ∧ d.showable = true ∧ d.shown.length ≤ sizeLine ∧ Q (.str d.shown) H
theorem call_reprD (gd : X.A.guards = some []) (hu : X.A.units + 64 < cLine) : CallR X (.builtin "repr") (rRepr X.K) := by
  intro pins s σ H xs us Q I r h
  obtain ⟨x, d, rfl, hd, hp, hk, hs, hz, q⟩ := h
  obtain ⟨u, rfl, ru⟩ := Vals.one r
  cases hd with
  | non =>
    cases ru
    exact PySem.P.repr_of_none ⟨.str _, H, I.tok _, ⟨_, rfl⟩, q⟩
  | bl b =>
    cases ru
    exact PySem.P.repr_of_bool ⟨.str _, H, I.tok _, ⟨_, rfl⟩, q⟩
  | int i =>
    obtain ⟨t, rfl⟩ := ru
    exact PySem.P.repr_of_int (of_decide_eq_true hs) ⟨.str _, H, I.tok _, ⟨_, rfl⟩, q⟩
  | str z =>
    obtain ⟨t, rfl⟩ := ru
    exact PySem.P.repr_of_str ⟨.str _, H, I.tok _, ⟨_, rfl⟩, q⟩ hz
  | lst h1 h2 =>
    cases ru
    obtain ⟨as, rd⟩ := Dp.reads I _ _ (.ref _) (.lst h1 h2) rfl
    exact repr_of_reads' rd hs (PyData.noDict_hsm (noDict_plain.1 _ hp)) gd (by omega) (fun _ _ e => e) (fun h' u tk hk => ⟨.str _, H, I.kept hk, ⟨_, rfl⟩, q⟩) hz
  | tup h1 h2 =>
    cases ru
    obtain ⟨as, rd⟩ := Dp.reads I _ _ (.ref _) (.tup h1 h2) rfl
    exact repr_of_reads' rd hs (PyData.noDict_hsm (noDict_plain.1 _ hp)) gd (by omega) (fun _ _ e => e) (fun h' u tk hk => ⟨.str _, H, I.kept hk, ⟨_, rfl⟩, q⟩) hz
theorem bo_repr : BOk T (rRepr T.K) bRepr := fun w S xs vs H d Q r p h k => by
  unfold bRepr at h
  split at h
  · split at h
    · rename_i x hx
      cases h
      obtain ⟨v, rfl, p2⟩ := reps_one p
      unfold reprOk at hx
      simp only [Bool.and_eq_true, decide_eq_true_eq] at hx
      obtain ⟨k1, k2⟩ := toPy_ok 8 x hx.1.1
      exact ⟨v, _, rfl, dp_of r 8 x v hx.1.1 p2, k1, by omega, hx.1.2, by rw [sizeLine_eq]; exact hx.2, k w H _ (Wd.le.refl _) r (.str _)⟩
    · cases h
  · cases h
end Ro
end
section
set_option Elab.async false
set_option linter.all false
set_option maxRecDepth 100000
set_option maxHeartbeats 4000000
namespace Ro
open PySem PySem.Spec PyProof.Rows L2
structure Lw where
  glo : List String := []
  free : List String := []
  gins : List (String × Int) := []
  cls : List String := []
  noat : List (String × String) := []
  meth : List (String × String) := []
  mkr : List String := []
  isi : List String := []
  kit : List (Ty × Ty) := []
  tups : List (String × List He.Dv) := []
  defs : List He.DefD := []
  fas : List He.Fa := []
  exk : List String := []
  kix : List (String × Ty × Bool) := []
  tf : List (He.Defn × String) := []
  bs : List (PySem.W.Frag → Bool) := []
  gstrs : List (String × String) := []
/-- what isinstance asks of an exception's class -/
structure ExC (K : PySem.W.Frag) (C : Addr) : Prop where
  cl : (PySem.W.clsIn K C).isSome = true
  ga : PySem.W.findIn K (.ref C) "__getattribute__" = some (some (.builtin "BaseException.__getattribute__"))
  gt : ∃ g, PySem.W.findIn K (.ref C) "__getattr__" = some g
  sb : PySem.W.subIn K (.ref C) (.type "BaseException") = some true
  ca : PySem.W.findIn K (.ref C) "__class__" = some (some (.builtin "object.__class__"))
  sp : PySem.W.specialIn K (.builtin "object.__class__") "__get__" = some (some (.builtin "getset_descriptor.__get__"))
  tk : PySem.W.takesIn K (.builtin "object.__class__") = some true
  mr : PySem.W.mroIn K C (.type "object") = some true
def exCB (K : PySem.W.Frag) (C : Addr) : Bool :=
  (PySem.W.clsIn K C).isSome && (decide (PySem.W.findIn K (.ref C) "__getattribute__" = some (some (.builtin "BaseException.__getattribute__"))) && ((PySem.W.findIn K (.ref C) "__getattr__").isSome && (decide (PySem.W.subIn K (.ref C) (.type "BaseException") = some true) &&
  (decide (PySem.W.findIn K (.ref C) "__class__" = some (some (.builtin "object.__class__"))) && (decide (PySem.W.specialIn K (.builtin "object.__class__") "__get__" = some (some (.builtin "getset_descriptor.__get__"))) && (decide (PySem.W.takesIn K (.builtin "object.__class__") = some true) && decide (PySem.W.mroIn K C (.type "object") = some true)))))))
theorem exC_of {K : PySem.W.Frag} {C : Addr} (h : exCB K C = true) : ExC K C := by
  unfold exCB at h
  simp only [Bool.and_eq_true, decide_eq_true_eq] at h
  obtain ⟨h1, h2, h3, h4, h5, h6, h7, h8⟩ := h
  exact ⟨h1, h2, Option.isSome_iff_exists.mp h3, h4, h5, h6, h7, h8⟩
def isiB (K : PySem.W.Frag) (x : String) : Bool := (He.Fa.cls (x : Str)).ok K && (He.eqO (PySem.W.findIn K (.ref (He.ga K (x : Str))) "__class__") (some (some (.builtin "object.__class__"))) && (He.eqO (PySem.W.specialIn K (.builtin "object.__class__") "__get__") (some (some (.builtin "getset_descriptor.__get__"))) &&
  (decide (PySem.W.takesIn K (.builtin "object.__class__") = some true) && decide (PySem.W.mroIn K (He.ga K (x : Str)) (.type "object") = some true))))
def Lw.ok (L : Lw) (K : PySem.W.Frag) : Bool :=
  L.glo.all (fun x => (He.Fa.glo (x : Str)).ok K) && (L.free.all (fun x => (He.Fa.free (x : Str)).ok K) && (L.gins.all (fun p => (He.Fa.int (p.1 : Str) p.2).ok K) && (L.cls.all (fun x => (He.Fa.cls (x : Str)).ok K) &&
  (L.noat.all (fun p => (He.Fa.noat (p.1 : Str) (p.2 : Str)).ok K) && (L.meth.all (fun p => (He.Fa.meth (p.1 : Str) (p.2 : Str)).ok K) && (L.mkr.all (fun x => (He.Fa.mkr (x : Str)).ok K) &&
  (L.isi.all (fun x => isiB K x) && (L.kit.all (fun p => decide (PySem.W.kitOne K (tyV' K p.1) (tyV' K p.2) = some (subTy p.1 p.2))) && (L.tups.all (fun p => He.tupB K (p.1 : Str) p.2) && (L.defs.all (fun d => d.ok K) &&
  (L.fas.all (fun f => f.ok K) && (L.exk.all (fun x => exCB K (He.ga K (x : Str))) && (L.kix.all (fun p => decide (PySem.W.kitOne K (.ref (He.ga K (p.1 : Str))) (tyV' K p.2.1) = some p.2.2)) && (decide ((L.tf.map fun p => (He.cT K p.1).2).Nodup) && (L.bs.all (fun b => b K) && L.gstrs.all (fun p => (He.Fa.str (p.1 : Str) (p.2 : Str)).ok K))))))))))))))))
/-- the head's facts -/
structure Fx (T : Tb) (mg : Str → Option Value) (L : Lw) : Prop where
  glo : ∀ x ∈ L.glo, mg (x : Str) = some (.ref (He.ga T.K (x : Str)))
  free : ∀ x ∈ L.free, mg (x : Str) = none
  gins : ∀ p ∈ L.gins, ∃ t, mg (p.1 : Str) = some (.int p.2 t)
  cls : ∀ x ∈ L.cls, Cls T.K (He.ga T.K (x : Str))
  noat : ∀ p ∈ L.noat, NoAttr T.K (He.ga T.K (p.1 : Str)) (p.2 : Str)
  meth : ∀ p ∈ L.meth, Meth T.K (He.ga T.K (p.1 : Str)) (p.2 : Str) (He.ma T.K (He.ga T.K (p.1 : Str)) (p.2 : Str))
  mkr : ∀ x ∈ L.mkr, Mk T.K (He.ga T.K (x : Str)) (He.ma T.K (He.ga T.K (x : Str)) "__init__")
  isi : ∀ x ∈ L.isi, IsiC T.K (He.ga T.K (x : Str))
  kit : ∀ p ∈ L.kit, PySem.W.kitOne T.K (tyV' T.K p.1) (tyV' T.K p.2) = some (subTy p.1 p.2)
  tups : ∀ p ∈ L.tups, He.tupB T.K (p.1 : Str) p.2 = true
  defs : ∀ (i : Nat) d, L.defs[i]? = some d → ∃ fd, FunD T.K d.name d.qual d.params d.body d.scope (d.dvs T.K) (d.kws T.K) (He.fAd T.K d.at_) fd
  fas : ∀ f ∈ L.fas, f.ok T.K = true
  exk : ∀ x ∈ L.exk, ExC T.K (He.ga T.K (x : Str))
  kix : ∀ p ∈ L.kix, PySem.W.kitOne T.K (.ref (He.ga T.K (p.1 : Str))) (tyV' T.K p.2.1) = some p.2.2
  tfn : (L.tf.map fun p => (He.cT T.K p.1).2).Nodup
  bs : ∀ b ∈ L.bs, b T.K = true
  gstrs : ∀ p ∈ L.gstrs, ∃ t, mg (p.1 : Str) = some (.str (p.2 : Str) t)
theorem isi_of {K : PySem.W.Frag} {x : String} (h : isiB K x = true) : IsiC K (He.ga K (x : Str)) := by
  obtain ⟨h1, h⟩ := He.ba h
  obtain ⟨h2, h⟩ := He.ba h
  obtain ⟨h3, h⟩ := He.ba h
  obtain ⟨h4, h5⟩ := He.ba h
  exact ⟨He.cls_ok h1, He.eqO_ok h2, He.eqO_ok h3, of_decide_eq_true h4, of_decide_eq_true h5⟩
/-- the head's watch -/
def obL (L : Lw) (K : PySem.W.Frag) : He.AlD := (L.ok K, L.defs.map fun d => He.fnW K d.at_)
theorem fx_of {T : Tb} {L : Lw} {h : Heap} {mg : Str → Option Value} (X : T.K.In h) (G : h.Ns mainGlobals mg) (c : obL L T.K = (true, L.defs.map He.DefD.val)) : Fx T mg L := by
  have c1 : L.ok T.K = true := congrArg (fun z : He.AlD => z.1) c
  have c2 : (L.defs.map fun d => He.fnW T.K d.at_) = L.defs.map He.DefD.val := congrArg (fun z : He.AlD => z.2) c
  obtain ⟨h1, c1⟩ := He.ba c1
  obtain ⟨h2, c1⟩ := He.ba c1
  obtain ⟨h3, c1⟩ := He.ba c1
  obtain ⟨h4, c1⟩ := He.ba c1
  obtain ⟨h5, c1⟩ := He.ba c1
  obtain ⟨h6, c1⟩ := He.ba c1
  obtain ⟨h7, c1⟩ := He.ba c1
  obtain ⟨h8, c1⟩ := He.ba c1
  obtain ⟨h9, c1⟩ := He.ba c1
  obtain ⟨h10, c1⟩ := He.ba c1
  obtain ⟨h11, c1⟩ := He.ba c1
  obtain ⟨h12, c1⟩ := He.ba c1
  obtain ⟨h13, c1⟩ := He.ba c1
  obtain ⟨h14, c1⟩ := He.ba c1
  obtain ⟨h15, c1⟩ := He.ba c1
  obtain ⟨h16, h17⟩ := He.ba c1
  rw [List.all_eq_true] at h1 h2 h3 h4 h5 h6 h7 h8 h9 h10 h11 h12 h13 h14 h16 h17
  refine ⟨fun x hx => He.glo_ok X G (h1 x hx), fun x hx => He.free_ok X G (h2 x hx), fun p hp => He.int_ok X G (h3 p hp), fun x hx => He.cls_ok (h4 x hx), fun p hp => He.noat_ok (h5 p hp), fun p hp => He.meth_ok (h6 p hp), fun x hx => He.mkr_ok (h7 x hx), fun x hx => isi_of (h8 x hx), fun p hp => of_decide_eq_true (h9 p hp), h10, fun i d hd => ?_, h12, fun x hx => exC_of (h13 x hx), fun p hp => of_decide_eq_true (h14 p hp), of_decide_eq_true h15, h16, fun p hp => He.str_ok X G (h17 p hp)⟩
  have e : (L.defs.map fun d => He.fnW T.K d.at_)[i]? = (L.defs.map He.DefD.val)[i]? := by rw [c2]
  rw [List.getElem?_map, List.getElem?_map, hd] at e
  exact He.DefD.funD (Option.some.inj e) (h11 d (List.mem_of_getElem? hd))
section
variable {T : Tb} {mg : Str → Option Value} {L : Lw}
theorem Fx.g (F : Fx T mg L) (x : String) (h : x ∈ L.glo := by decide +kernel) : mg (x : Str) = some (.ref (He.ga T.K (x : Str))) := F.glo x h
theorem Fx.f (F : Fx T mg L) (x : String) (h : x ∈ L.free := by decide +kernel) : mg (x : Str) = none := F.free x h
theorem Fx.i (F : Fx T mg L) (x : String) (i : Int) (h : (x, i) ∈ L.gins := by decide +kernel) : ∃ t, mg (x : Str) = some (.int i t) := F.gins (x, i) h
theorem Fx.m (F : Fx T mg L) (c x : String) (h : (c, x) ∈ L.meth := by decide +kernel) : Meth T.K (He.ga T.K (c : Str)) (x : Str) (He.ma T.K (He.ga T.K (c : Str)) (x : Str)) := F.meth (c, x) h
theorem Fx.c (F : Fx T mg L) (x : String) (h : x ∈ L.cls := by decide +kernel) : Cls T.K (He.ga T.K (x : Str)) := F.cls x h
theorem Fx.mk' (F : Fx T mg L) (x : String) (h : x ∈ L.mkr := by decide +kernel) : Mk T.K (He.ga T.K (x : Str)) (He.ma T.K (He.ga T.K (x : Str)) "__init__") := F.mkr x h
theorem Fx.at' (F : Fx T mg L) (cs : List String) (f : String) (h : cs.all (fun c => L.cls.contains c && L.noat.contains (c, f)) = true := by decide +kernel) : ∀ c ∈ cs, Cls T.K (He.ga T.K (c : Str)) ∧ NoAttr T.K (He.ga T.K (c : Str)) (f : Str) := fun c hc => by
  have z := List.all_eq_true.mp h c hc
  obtain ⟨h1, h2⟩ := Bool.and_eq_true_iff.mp z
  exact ⟨F.cls c (by simpa using h1), F.noat (c, f) (by simpa using h2)⟩
theorem Fx.is' (F : Fx T mg L) (tys : List Ty) (h : tys.all (fun t => match t with | .o c => L.isi.contains c | _ => true) = true := by decide +kernel) : ∀ t ∈ tys, ∀ c, t = .o c → IsiC T.K (He.ga T.K (c : Str)) := fun t ht c e => by
  subst e
  have z := List.all_eq_true.mp h _ ht
  exact F.isi c (by simpa using z)
theorem Fx.fa (F : Fx T mg L) (i : Nat) {f : He.Fa} (h : L.fas[i]? = some f := by rfl) : f.ok T.K = true := F.fas f (List.mem_of_getElem? h)
theorem Fx.b (F : Fx T mg L) (i : Nat) {b : PySem.W.Frag → Bool} (h : L.bs[i]? = some b := by rfl) : b T.K = true := F.bs b (List.mem_of_getElem? h)
theorem Fx.ki (F : Fx T mg L) (tys : List Ty) (t : Ty) (h : tys.all (fun x => decide ((x, t) ∈ L.kit)) = true := by decide +kernel) : ∀ x ∈ tys, PySem.W.kitOne T.K (tyV' T.K x) (tyV' T.K t) = some (subTy x t) := fun x hx => F.kit (x, t) (of_decide_eq_true (List.all_eq_true.mp h x hx))
end
variable {T : Tb} {E : XK} {X : Cx} {pos : Pos}
theorem ie_gint {x : Str} {i : Int} (hg : Gl X x) (hm : ∃ t, X.mg x = some (.int i t)) (hd : (x == ("__debug__" : Str)) = false := by decide +kernel) : IE T E X (.Name x pos) (eC (.int i)) := by
  obtain ⟨t, e⟩ := hm
  exact ie_glob (v := .int i) hg e ⟨t, rfl⟩ (fun _ => .int i) hd
theorem hu1 {k : Nat} {A : Around} (hr : RG k A) : A.units + 1 < cLine := by
  have := hr.rm.units
  omega
/-- what is never reached -/
def eBad : EX := fun _ _ => .bad
theorem ie_bad {e : Expr} : IE T E X e eBad := ⟨fun pins s σ H Q I q => by obtain ⟨w, env, S, r, e, q⟩ := q; exact (show False from q).elim⟩
/-- whose exceptions leave -/
theorem tk_cx {P : Program} {w : World} {K : PySem.W.Frag} {mg : Str → Option Value} {base : Heap} {N : List Str} {qual : Str} {scope : Scope} {fp : Addr} {cd : Value} {A : Around} {outer : List PySem.Env} {s : Shared} {H : Hp} {E : XK} :
    L2N.Takes (cxOf (L2N.CX P w) P w K mg base N qual scope fp cd A outer s H E) (fun c d _ H => E c d H) := L2N.takes_of rfl rfl rfl rfl
theorem tk_no {X : Cx} : L2N.Takes X (fun c d _ H => E00 c d H) := fun _ _ ⟨_, _, _, _, _, _, _, _, _, _, _, _, _, _, _, _, w⟩ => w.elim
end Ro
end
section
set_option Elab.async false
set_option linter.all false
set_option maxRecDepth 100000
set_option maxHeartbeats 4000000
namespace Ro
open PySem PySem.Spec PyProof.Rows L2
variable {T : Tb} {E : XK} {X : Cx} {a b c e : Expr} {es : List Expr} {f g h : EX} {fa ga fk : AX} {fb gb : BX} {pos : Pos} {st : Stmt} {sts rest : List Stmt} {s t : ES}
theorem ie_v (i : Nat) {x : Str} (hN : X.N[i]? = some x := by rfl) (hv : Vis X.env.scope x := by first | exact .inl rfl | exact .inr (.inl rfl) | exact .inr (.inr rfl)) (hd : (x == ("__debug__" : Str)) = false := by decide +kernel) (hcd : (x == ("__classdict__" : Str)) = false := by decide +kernel) : IE T E X (.Name x pos) (eVar i) := ie_var hN hv hd hcd
theorem ig_n {vs : List Nat} (i : Nat) {x : Str} (hN : X.N.Nodup) (hi : X.N[i]? = some x := by rfl) (hx : Loc X.env.scope x := by first | exact .inl rfl | exact .inr rfl) (hv : i ∈ vs := by decide) (hf : X.fn x = true ∨ X.env.scope.names.lookup x = some .local := by first | exact .inl rfl | exact .inr rfl) : IG T X vs (.Name x pos) (pName i) := ig_name hN hi hx hv hf
theorem is_st (i : Nat) {x : Str} {p' : Pos} (hN : X.N.Nodup) (he : IE T E X a f) (hi : X.N[i]? = some x := by rfl) (hx : Loc X.env.scope x := by first | exact .inl rfl | exact .inr rfl) (hs : swapsWith a (some (.Name x p')) pos.line X.env = pure false := by rfl) (hf : X.fn x = true ∨ X.env.scope.names.lookup x = some .local := by first | exact .inl rfl | exact .inr rfl) :
    IS T E X (.Assign [.Name x p'] a pos) (sSet i f) := is_set hN hi hx he hs hf
def allN (n : Nat) : List Nat := List.range n
theorem len_nil : ∀ ds env e, pNil ds env = some e → ds.length = 0 := fun ds env e h => by
  cases ds with
  | nil => rfl
  | cons _ _ => cases h
theorem len_cons {p : Pat} {r : List D → Env → Option Env} {n : Nat} (k : ∀ ds env e, r ds env = some e → ds.length = n) : ∀ ds env e, pCons p r ds env = some e → ds.length = n + 1 := fun ds env e h => by
  cases ds with
  | nil => cases h
  | cons d ds =>
    have h : (p d env).bind (fun e => r ds e) = some e := h
    cases z : p d env with
    | none => rw [z] at h; cases h
    | some e1 =>
      rw [z] at h
      rw [List.length_cons, k ds e1 e h]
def blkB (N : List Str) (sc scope : Scope) (own : List (Str × Nat)) : Bool :=
  decide (scope.kind = .function) && (scope.names.all (fun y => decide (scope.names.lookup y.1 = some y.2)) && (own.all (fun p => decide (N[p.2]? = some p.1)) &&
  (scope.names.all (fun y => !decide (y.2 = .free) || (decide (sc.names.lookup y.1 = some .cell) || decide (sc.names.lookup y.1 = some .free))) &&
  scope.names.all (fun y => !(decide (y.2 = .local) || decide (y.2 = .cell)) || ((own.map (·.1)).contains y.1 || !N.contains y.1)))))
theorem blk_by {N : List Str} {sc scope : Scope} {own : List (Str × Nat)} (h : blkB N sc scope own = true) : BlkOk N sc scope own := by
  unfold blkB at h
  simp only [Bool.and_eq_true, List.all_eq_true, decide_eq_true_eq, Bool.or_eq_true, Bool.not_eq_true', decide_eq_false_iff_not, Bool.or_eq_false_iff] at h
  obtain ⟨h1, h2, h3, h4, h5⟩ := h
  refine ⟨h1, h2, h3, fun y hy e => ?_, fun y hy e => ?_⟩
  · rcases h4 y hy with z | z
    · exact absurd e z
    · exact z
  · rcases h5 y hy with z | z | z
    · rcases e with e | e
      · exact absurd e z.1
      · exact absurd e z.2
    · exact .inl (by simpa using z)
    · exact .inr (by simpa using z)
def idxA (x y : D) (S : Store) : Option D := match x with
  | .ref _ => idxM x y S
  | _ => idxD x y
def eIdxA (a b : EX) : EX := fun env S => (a env S).bnd fun x S1 => (b env S1).bnd fun y S2 => lift (idxA x y S2) S2
theorem PE.byOk {X : Cx} {e : Expr} {f g h : EX} (hg : IE T E X e g) (hh : IE T E X e h) (k : ∀ env S, f env S = g env S ∨ f env S = h env S) : IE T E X e f := ⟨fun pins s σ H Q I q => by
  obtain ⟨w, env, S, r, e, q⟩ := q
  rcases k env S with z | z
  · exact hg.run pins s σ H Q I ⟨w, env, S, r, e, by rw [← z]; exact q⟩
  · exact hh.run pins s σ H Q I ⟨w, env, S, r, e, by rw [← z]; exact q⟩⟩
/-- by the value's kind -/
theorem ie_idxA (hK : X.K = T.K) (ha : IE T E X a f) (hb : IE T E X b g) (hs : PlainIx b := by exact fun _ _ => rfl) : IE T E X (.Subscript a b pos) (eIdxA f g) :=
  PE.byOk (ie_idx hK ha hb hs) (ie_idxM hK ha hb hs) fun env S => by
    unfold eIdxA eIdx eIdxM eOp
    cases z : f env S with
    | ok x S1 =>
      cases x with
      | ref n => exact .inr rfl
      | _ => exact .inl rfl
    | err c fs S1 => exact .inl rfl
    | bad => exact .inl rfl
def itAny (f : EX) : AX := fun env S => (f env S).bnd fun d S1 => match d with
  | .lst l => .ok l S1
  | .tup l => .ok l S1
  | .str s => .ok (s.cps.toList.map fun c => .str ⟨#[c]⟩) S1
  | _ => .bad
/-- a text's signs -/
def itTxt (f : EX) : AX := fun env S => (f env S).bnd fun d S1 => match d with
  | .str s => .ok (s.cps.toList.map fun c => .str ⟨#[c]⟩) S1
  | _ => .bad
theorem itR_str {w : Wd} {z : Str} : ItR T w (z.cps.toList.map fun c => .str ⟨#[c]⟩) (Its z) where
  goS := fun i H w' S l1 r1 hi => by
    rw [List.length_map] at hi
    exact hi
  stopS := fun i H w' S l1 r1 hi => by
    rw [List.length_map] at hi
    exact hi
  yldS := fun i H x H' w' S d l1 r1 hd y => by
    obtain ⟨rfl, c, e, rfl⟩ := y
    rw [List.getElem?_map, Array.getElem?_toList, e] at hd
    cases hd
    exact ⟨w', Wd.le.refl _, r1, .str _⟩
theorem ii_txt {tg : Expr} (h : IE T E X a f) : II T E X tg a (itTxt f) :=
  PI.mono (pi_str h) fun σ H Rr ⟨w, env, S, r, e, q⟩ => ⟨w, env, S, r, e, (RP.bnd q).mono (fun d S1 h1 w1 H1 v l1 r1 p1 => by
    cases p1 with
    | str s => exact ⟨s, rfl, h1 w1 H1 _ l1 r1 itR_str⟩
    | _ => exact (show False from h1).elim) fun _ _ _ x => x⟩
theorem ii_any {tg : Expr} (hK : X.K = T.K) (h : IE T E X a f) : II T E X tg a (itAny f) := ⟨fun pins s σ H R I q => by
  obtain ⟨w, env, S, r, e, q⟩ := q
  by_cases z : ∃ l S1, f env S = .ok (.tup l) S1
  · obtain ⟨l, S1, z⟩ := z
    refine (ii_tup (tg := tg) hK h).run pins s σ H R I ⟨w, env, S, r, e, ?_⟩
    unfold itTup
    unfold itAny at q
    rw [z] at q ⊢
    exact q
  by_cases z2 : ∃ l S1, f env S = .ok (.str l) S1
  · obtain ⟨l, S1, z2⟩ := z2
    refine (ii_txt (tg := tg) h).run pins s σ H R I ⟨w, env, S, r, e, ?_⟩
    unfold itTxt
    unfold itAny at q
    rw [z2] at q ⊢
    exact q
  · refine (ii_lst (tg := tg) hK h).run pins s σ H R I ⟨w, env, S, r, e, ?_⟩
    unfold itSeq
    unfold itAny at q
    cases y : f env S with
    | ok d S1 =>
      rw [y] at q
      cases d with
      | tup l => exact absurd ⟨l, S1, y⟩ z
      | str l => exact absurd ⟨l, S1, y⟩ z2
      | _ => exact q
    | err c fs S1 => rw [y] at q; exact q
    | bad => rw [y] at q; exact q⟩
def zipL : List D → List D → List D
  | x :: l, y :: m => .tup [x, y] :: zipL l m
  | _, _ => []
def itZip (fa : AX) : AX := fun env S => (fa env S).bnd fun ds S1 => match ds with
  | [.lst l, .lst m] => .ok (zipL l m) S1
  | [.tup l, .tup m] => .ok (zipL l m) S1
  | _ => .bad
def enumL : Nat → List D → List D
  | _, [] => []
  | i, x :: l => .tup [.int i, x] :: enumL (i + 1) l
theorem enumL_get : ∀ (l : List D) (k i : Nat), (enumL k l)[i]? = (l[i]?).map fun x => .tup [.int ((k + i : Nat) : Int), x]
  | [], _, _ => by simp [enumL]
  | x :: l, k, 0 => by simp [enumL]
  | x :: l, k, i + 1 => by
    have z := enumL_get l (k + 1) i
    simp only [enumL, List.getElem?_cons_succ]
    rw [z, show k + 1 + i = k + (i + 1) by omega]
theorem enumL_len : ∀ (l : List D) (k : Nat), (enumL k l).length = l.length
  | [], _ => rfl
  | x :: l, k => by simp [enumL, enumL_len l]
theorem itR_enum {w : Wd} {l : List D} {p : Addr} {vs : List V} (h1 : SqL T.K w.G p vs) (r1 : Reps T w l vs) : ItR T w (enumL 0 l) (Ite T.K p) where
  goS := fun i H w' S l1 r hi => by
    rw [enumL_len] at hi
    obtain ⟨x, e1, _⟩ := r1.get (List.getElem?_eq_getElem hi)
    exact ⟨vs, x, sql_sub r (sql_le l1 h1), e1⟩
  stopS := fun i H w' S l1 r hi => by
    rw [enumL_len, r1.length] at hi
    exact ⟨vs, sql_sub r (sql_le l1 h1), hi⟩
  yldS := fun i H v H' w' S d l1 r hd y => by
    obtain ⟨A, x, rfl, hA, rfl, k1⟩ := y
    rw [enumL_get] at hd
    have e1 := k1 vs (sql_sub r (sql_le l1 h1))
    cases y1 : l[i]? with
    | none => rw [y1] at hd; cases hd
    | some d1 =>
      rw [y1] at hd
      cases hd
      obtain ⟨x', g1, g2⟩ := r1.get y1
      rw [e1] at g1; cases g1
      obtain ⟨l2, r2'⟩ := r.new hA (.tup [.int (i : Nat), x])
      refine ⟨_, l2, r2', .tup (.inl (.inl upd_same)) (.cons ?_ (.cons ((g2.monoS l1).mono l2) .nil))⟩
      rw [Nat.zero_add]
      exact .int _
def itEnum (fa : AX) : AX := fun env S => (fa env S).bnd fun ds S1 => match ds with
  | [.lst l] => .ok (enumL 0 l) S1
  | _ => .bad
theorem ii_enum {p tpos : Pos} {elts : List Expr} {kk : Nat} (hK : X.K = T.K) (hg : Gl X "enumerate") (hm : X.mg "enumerate" = none) (ha : IA T E X [a] fa)
    (hs : starEach [a] X.env = [(false, eval a X.env)] := by rfl) : II T E X (.Tuple elts kk tpos) (.Call (.Name "enumerate" p) [a] [] pos) (itEnum fa) :=
  PI.mono (pi_enum hg hm ha hs) fun σ H R ⟨w, env, S, r, e, q⟩ => ⟨w, env, S, r, e, (RP.bnd q).mono (fun ds S1 h1 w1 H1 vs l1 r1 p1 => by
    split at h1
    · obtain ⟨u, rfl, p2⟩ := reps_one p1
      cases p2 with
      | lst a1 a2 =>
        refine ⟨_, _, rfl, .inl (.inl (r1.sub _ _ a1)), ?_⟩
        rw [hK]
        exact h1 w1 H1 _ l1 r1 (itR_enum (.inl (.inl a1)) a2)
    · exact (show False from h1).elim) fun _ _ _ x => x⟩
def bLenA : List D → Option D := fun xs => match xs with
  | [.dct _] => none
  | _ => bLen xs
theorem bo_lenA : BOk T (rLenH T.K) bLenA := bo_len
def dBls : List D → Option (List Bool)
  | [] => some []
  | .bl b :: l => (dBls l).map (b :: ·)
  | _ :: _ => none
theorem reps_bls {w : Wd} : ∀ {l : List D} {vs : List V} {ys : List Bool}, Reps T w l vs → dBls l = some ys → vs = ys.map V.bl
  | [], _, _, .nil, h => by cases h; rfl
  | d :: l, _, _, .cons q r, h => by
    cases q with
    | bl b =>
      cases z : dBls l with
      | none => rw [dBls, z] at h; cases h
      | some ys =>
        rw [dBls, z] at h
        cases h
        rw [reps_bls r z]
        rfl
    | _ => cases h
def dInts : List D → Option (List Int)
  | [] => some []
  | .int b :: l => (dInts l).map (b :: ·)
  | _ :: _ => none
theorem reps_ints {w : Wd} : ∀ {l : List D} {vs : List V} {ys : List Int}, Reps T w l vs → dInts l = some ys → vs = ys.map V.int
  | [], _, _, .nil, h => by cases h; rfl
  | d :: l, _, _, .cons q r, h => by
    cases q with
    | int b =>
      cases z : dInts l with
      | none => rw [dInts, z] at h; cases h
      | some ys =>
        rw [dInts, z] at h
        cases h
        rw [reps_ints r z]
        rfl
    | _ => cases h
def bAll : List D → Option D
  | [.lst l] => (dBls l).map fun bs => .bl (bs.all id)
  | _ => none
def bAny : List D → Option D
  | [.lst l] => (dBls l).map fun bs => .bl (bs.any id)
  | _ => none
theorem bo_all : BOk T (rAll T.K) bAll := fun w S xs vs H d Q r p h k => by
  unfold bAll at h
  split at h
  · rename_i l
    cases z : dBls l with
    | none => rw [z] at h; cases h
    | some bs =>
      rw [z] at h
      cases h
      obtain ⟨v, rfl, p2⟩ := reps_one p
      cases p2 with
      | lst q1 q2 =>
        have e := reps_bls q2 z
        subst e
        exact ⟨_, bs, rfl, .inl (.inl (r.sub _ _ q1)), k w H _ (Wd.le.refl _) r (.bl _)⟩
  · cases h
theorem bo_any : BOk T (rAny T.K) bAny := fun w S xs vs H d Q r p h k => by
  unfold bAny at h
  split at h
  · rename_i l
    cases z : dBls l with
    | none => rw [z] at h; cases h
    | some bs =>
      rw [z] at h
      cases h
      obtain ⟨v, rfl, p2⟩ := reps_one p
      cases p2 with
      | lst q1 q2 =>
        have e := reps_bls q2 z
        subst e
        exact ⟨_, bs, rfl, .inl (.inl (r.sub _ _ q1)), k w H _ (Wd.le.refl _) r (.bl _)⟩
  · cases h
def sPar2 (i j : Nat) (fa : AX) : ES := fun env S => (fa env S).bnd fun xs S1 => match xs with
  | [x, y] => .ok (.nx ((env.set i (some x)).set j (some y))) S1
  | _ => .bad
def sPar3 (i j l : Nat) (fa : AX) : ES := fun env S => (fa env S).bnd fun xs S1 => match xs with
  | [x, y, z] => .ok (.nx (((env.set i (some x)).set j (some y)).set l (some z))) S1
  | _ => .bad
theorem is_par2 {x y : Str} {px py pt : Pos} {kt k2 : Nat} {pt2 : Pos} (i j : Nat) (hN : X.N.Nodup) (ha : IA T E X [a, b] fa) (hc : X.calm = true := by rfl) (hi : X.N[i]? = some x := by rfl) (hj : X.N[j]? = some y := by rfl) (hij : i ≠ j := by decide)
    (hx : X.env.scope.names.lookup x = some .local := by rfl) (hy : X.env.scope.names.lookup y = some .local := by rfl)
    (hw : swappedStores [.Tuple [.Name x px, .Name y py] kt pt] (.Tuple [a, b] k2 pt2) X.env = pure (some [x, y]) := by rfl)
    (hs : swapsWithSole [.Tuple [.Name x px, .Name y py] kt pt] (.Tuple [a, b] k2 pt2) pos.line X.env = pure false := by rfl) :
    IS T E X (.Assign [.Tuple [.Name x px, .Name y py] kt pt] (.Tuple [a, b] k2 pt2) pos) (sPar2 i j fa) :=
  PS.mono (ps_par hc hN hi hj hij hx hy ha hw hs) fun D σ H ⟨w, env, S, r, e, q⟩ => ⟨w, env, S, r, e, (RP.bnd q).mono (fun ds S1 h1 w1 H1 vs l1 r1 p1 => by
    split at h1
    · obtain ⟨v, u, rfl, p2, q2⟩ := reps_two p1
      exact ⟨v, u, rfl, h1 w1 H1 _ l1 r1 (((e.mono l1).set p2 i).set q2 j)⟩
    · exact (show False from h1).elim) fun _ _ _ x => x⟩
/-- r asks no more than r' -/
def RPle {α : Type} (r r' : R α) : Prop := ∀ (Pk : α → Store → Prop) (Pe : String → List D → Store → Prop), RP r Pk Pe → RP r' Pk Pe
theorem IS.eqv {s s' : ES} (h : IS T E X st s) (k : ∀ env S, RPle (s' env S) (s env S)) : IS T E X st s' := PS.mono h fun D σ H ⟨w, env, S, r, e, q⟩ => ⟨w, env, S, r, e, (k env S) _ _ q⟩
theorem is_par2u {i j : Nat} (h : IS T E X st (sUnp (pTup (pCons (pName i) (pCons (pName j) pNil))) (eTup fa))) : IS T E X st (sPar2 i j fa) := h.eqv fun env S Pk Pe q => by
  unfold sPar2 at q
  unfold sUnp eTup
  cases z : fa env S with
  | ok xs S1 =>
    rw [z] at q
    rw [bnd_ok] at q ⊢
    split at q
    · exact q
    · exact (show False from q).elim
  | err c fs S1 => rw [z] at q; exact q
  | bad => rw [z] at q; exact q
def ltA : D → D → Option D
  | .int i, .int j => some (.bl (decide (i < j)))
  | .tup l, .tup m => (dInts l).bind fun ns => (dInts m).map fun ms => .bl (HT.lexLt ns ms)
  | _, _ => none
theorem oi_ltA (hK : X.K = T.K) (hu : X.A.units < cLine) : OpR X (compareOp .Lt) (rOp T ltA) := orOp2 fun w d e r S x y H Q h1 h2 h3 h4 h5 => by
  unfold ltA at h4
  split at h4
  · cases h2; cases h3; cases h4
    exact ⟨_, op_lt, _, _, rfl, rfl, h5 w H _ (Wd.le.refl _) h1 (.bl _)⟩
  · rename_i l m
    cases z : dInts l with
    | none => rw [z] at h4; cases h4
    | some ns =>
      rw [z] at h4
      cases z2 : dInts m with
      | none => rw [z2] at h4; cases h4
      | some ms =>
        rw [z2] at h4
        cases h4
        cases h2 with
        | tup q2 r2 =>
          cases h3 with
          | tup q3 r3 =>
            have e1 := reps_ints r2 z
            have e2 := reps_ints r3 z2
            subst e1 e2
            exact ⟨_, op_ltT hu, _, _, ns, ms, rfl, rfl, by rw [hK]; exact sqt_sub h1 q2, by rw [hK]; exact sqt_sub h1 q3, h5 w H _ (Wd.le.refl _) h1 (.bl _)⟩
  · cases h4
end Ro
end
section
set_option Elab.async false
set_option linter.all false
set_option maxRecDepth 100000
set_option maxHeartbeats 4000000
namespace Ro
open PySem PySem.Spec PyProof.Rows L2
variable {T : Tb} {E : XK} {X : Cx} {a b c e : Expr} {es : List Expr} {f g h : EX} {fa ga fk : AX} {fb gb : BX} {pos : Pos} {st : Stmt} {sts rest : List Stmt} {s t : ES}
def codB : Int := 4294967296
def dTups : List D → Option (List (List Int))
  | [] => some []
  | .tup l :: r => (dInts l).bind fun ns => (dTups r).map (ns :: ·)
  | _ :: _ => none
def srtT (l : List (List Int)) : List (List Int) := l.mergeSort fun a b => decide (TS.code codB a ≤ TS.code codB b)
def tupD (ns : List Int) : D := .tup (ns.map D.int)
def tupOk (n : Nat) (m : List Int) : Bool := decide (m.length = n) && m.all fun z => decide (0 ≤ z ∧ z < codB)
def sortOk (l : List (List Int)) : Bool := decide (l.length < 64) && (match l with
  | [] => true
  | n :: r => decide (1 ≤ n.length) && (n :: r).all (tupOk n.length))
def bSortL (l : List (List Int)) : Option D := if sortOk l then some (.lst ((srtT l).map tupD)) else none
def bSorted : List D → Option D
  | [.lst l] => (dTups l).bind bSortL
  | [.tup l] => (dTups l).bind bSortL
  | _ => none
def eDctT : EX := fun _ S => .ok (.ref S.length) (S ++ [.dcT []])
def putL (l : List (List Int × D)) (k : List Int) (v : D) : List (List Int × D) :=
  if (l.any fun p => decide (p.1 = k)) = true then l.map (fun p => if p.1 = k then (p.1, v) else p) else l ++ [(k, v)]
def getL (l : List (List Int × D)) (k : List Int) : Option D := (l.find? fun p => decide (p.1 = k)).map (·.2)
theorem inl_inj {a b : List Int} : (a.map Sum.inl : List Key) = b.map Sum.inl ↔ a = b := by
  constructor
  · intro h
    induction a generalizing b with
    | nil => cases b with
      | nil => rfl
      | cons _ _ => cases h
    | cons x a ih => cases b with
      | nil => cases h
      | cons y b =>
        rw [List.map_cons, List.map_cons] at h
        injection h with h1 h2
        injection h1 with h1
        rw [h1, ih h2]
  · rintro rfl; rfl
theorem get_repT {w : Wd} {k : List Int} {d : D} : ∀ {l : List (List Int × D)} {kvs : List (List Key × V)}, kvs.map (·.1) = l.map (fun p => p.1.map Sum.inl) → Reps T w (l.map (·.2)) (kvs.map (·.2)) → getL l k = some d → ∃ v, valV kvs (k.map Sum.inl) = some v ∧ Rep T w d v := by
  intro l
  induction l with
  | nil => intro kvs h1 h2 h3; cases h3
  | cons p l ih =>
    intro kvs h1 h2 h3
    cases kvs with
    | nil => cases h1
    | cons kv kvs =>
      have h1' : kv.1 :: kvs.map (·.1) = p.1.map Sum.inl :: l.map (fun p => p.1.map Sum.inl) := h1
      injection h1' with a1 a2
      have h2' : Reps T w (p.2 :: l.map (·.2)) (kv.2 :: kvs.map (·.2)) := h2
      cases h2' with
      | cons b1 b2 =>
        unfold getL at h3
        unfold valV
        rw [List.find?_cons] at h3 ⊢
        by_cases hk : p.1 = k
        · have hk2 : kv.1 = k.map Sum.inl := by rw [a1, hk]
          rw [decide_eq_true hk] at h3
          rw [decide_eq_true hk2]
          cases h3
          exact ⟨kv.2, rfl, b1⟩
        · have hk2 : ¬ kv.1 = k.map Sum.inl := fun z => hk (inl_inj.mp (a1.symm.trans z))
          rw [decide_eq_false hk] at h3
          rw [decide_eq_false hk2]
          exact ih a2 b2 h3
theorem kV_inl (k : List Int) : (k.map Sum.inl : List Key).map kV = k.map V.int := by rw [List.map_map]; rfl
/-- d[k, ..] = v -/
def sPutT (o : EX) (ks : AX) (v : EX) : ES := fun env S => (v env S).bnd fun z S1 => (o env S1).bnd fun x S2 => (ks env S2).bnd fun ys S3 => match x, dInts ys with
  | .ref n, some k => (match S3[n]? with
    | some (.dcT l) => if l.length < LINE ∧ ys.length ≤ LINE then .ok (.nx env) (S3.set n (.dcT (putL l k z))) else .bad
    | _ => .bad)
  | _, _ => .bad
end Ro
end
section
set_option Elab.async false
set_option linter.all false
set_option maxRecDepth 100000
set_option maxHeartbeats 4000000
namespace Ro
open PySem PySem.Spec PyProof.Rows L2
variable {T : Tb} {E : XK} {X : Cx} {a b c e : Expr} {es : List Expr} {f g h : EX} {fa ga fk : AX} {fb gb : BX} {pos : Pos} {st : Stmt} {sts rest : List Stmt} {s t : ES}
def rIxT' (K : PySem.W.Frag) : R2 := fun x y H Q => ∃ (a b : Addr) (kvs : List (List Key × V)) (k : List Int) (v : V), x = .ref a ∧ y = .ref b ∧ H a = some (.dT kvs) ∧ SqT K H b (k.map V.int) ∧ valV kvs (k.map Sum.inl) = some v ∧ Q v H
theorem ix_dT (hu : X.A.units + 1 < cLine) : IxR X (rIxT' X.K) := by
  intro value slice pins s σ H x y v u Q I rx ry h hs
  obtain ⟨a, b, kvs, k, r, rfl, rfl, ha, hb, hv, q⟩ := h
  obtain rfl : v = Value.ref a := rx
  obtain rfl : u = Value.ref b := ry
  obtain ⟨its, rv, ⟨o, ho, hc, n, hd⟩, _⟩ := I.tuple hb
  rw [← kV_inl] at rv
  have key : (tupleKind (mixKind X.prog X.w)).is s.heap (k.map Sum.inl) b := ⟨o, its.toArray, n, ho, hc, hd, by simpa using items_are (P := X.prog) (w := X.w) rv⟩
  obtain ⟨z, hsy, xs, rel, dd⟩ := dt_of I.hok ha
  obtain ⟨w', hw, rw'⟩ := RelO.some_of (v := r) (o := (atKey xs (k.map Sum.inl)).map (·.2)) (by rw [← hv]; exact rel.val _)
  obtain ⟨p, hp, hp2⟩ := Option.map_eq_some_iff.mp hw
  have ty : s.TypeIs (.ref a) "dict" := by
    obtain ⟨o2, es2, ep2, h1, h2, _⟩ := dd
    exact ⟨o2, h1, h2.1⟩
  refine tail_any ty slot_dict_getitem.lookup (wpAny_getItem_heap (tupleKind_room_in1 hu) key dd hp ?_) hs
  rw [hp2]
  exact ⟨r, H, I.tok _, rw', q⟩
def idxT (x y : D) (S : Store) : Option D := match x, y with
  | .ref n, .tup m => (match S[n]? with
    | some (.dcT l) => (dInts m).bind (getL l)
    | _ => none)
  | _, _ => none
def eIdxT (a b : EX) : EX := fun env S => (a env S).bnd fun x S1 => (b env S1).bnd fun y S2 => lift (idxT x y S2) S2
theorem ie_idxT (hK : X.K = T.K) (hu : X.A.units + 1 < cLine) (ha : IE T E X a f) (hb : IE T E X b g) (hs : PlainIx b := by exact fun _ _ => rfl) : IE T E X (.Subscript a b pos) (eIdxT f g) :=
  PE.mono (pe_ix (ix_dT hu) ha hb hs) fun σ H Q q => by
    have q2 := tI_two (k := fun x y S => lift (idxT x y S) S) q
    obtain ⟨w, env, S, r, e, h⟩ := q2
    refine ⟨w, env, S, r, e, h.mono (fun d S1 h1 w1 H1 x l1 r1 p1 => ?_) fun _ _ _ x => x⟩
    obtain ⟨w2, env2, S2, r2, e2, h2⟩ := h1 w1 H1 x l1 r1 p1
    refine ⟨w2, env2, S2, r2, e2, h2.mono (fun d S1 h1 w1 H1 x l1 r1 p1 => ?_) fun _ _ _ x => x⟩
    obtain ⟨w3, d3, e3, S3, r3, p3, q3, h3⟩ := h1 w1 H1 x l1 r1 p1
    cases z : idxT d3 e3 S3 with
    | none => rw [z] at h3; exact (show False from h3).elim
    | some y =>
      rw [z] at h3
      unfold idxT at z
      split at z
      · rename_i n m
        split at z
        · rename_i l hS
          cases z2 : dInts m with
          | none => rw [z2] at z; cases z
          | some k =>
            rw [z2] at z
            cases p3 with
            | ref hn =>
              cases q3 with
              | tup q4 q5 =>
                obtain ⟨kvs, c1, c2, c3⟩ := r3.cell n _ _ hS hn
                obtain ⟨v, a1, a2⟩ := get_repT c2 c3 z
                have e5 := reps_ints q5 z2
                subst e5
                exact ⟨_, _, kvs, k, v, rfl, rfl, c1, by rw [hK]; exact sqt_sub r3 q4, a1, h3 w3 _ _ (Wd.le.refl _) r3 a2⟩
        · cases z
      · cases z
/-- any of them -/
def idxB (x y : D) (S : Store) : Option D := match x with
  | .ref n => (match y with
    | .tup m => idxT x y S
    | _ => idxM x y S)
  | _ => idxD x y
def eIdxB (a b : EX) : EX := fun env S => (a env S).bnd fun x S1 => (b env S1).bnd fun y S2 => lift (idxB x y S2) S2
theorem ie_idxB (hK : X.K = T.K) (hu : X.A.units + 1 < cLine) (ha : IE T E X a f) (hb : IE T E X b g) (hs : PlainIx b := by exact fun _ _ => rfl) : IE T E X (.Subscript a b pos) (eIdxB f g) :=
  PE.byOk (ie_idxA hK ha hb hs) (ie_idxT hK hu ha hb hs) fun env S => by
    unfold eIdxB eIdxA eIdxT
    cases z : f env S with
    | ok x S1 =>
      rw [bnd_ok, bnd_ok, bnd_ok]
      cases z2 : g env S1 with
      | ok y S2 =>
        rw [bnd_ok, bnd_ok, bnd_ok]
        cases x with
        | ref n => cases y with
          | tup m => exact .inr rfl
          | _ => exact .inl rfl
        | _ => exact .inl rfl
      | err c fs S2 => exact .inl rfl
      | bad => exact .inl rfl
    | err c fs S1 => exact .inl rfl
    | bad => exact .inl rfl
/-- sorted, also of such a dict -/
def eSorted (fa : AX) : EX := fun env S => (fa env S).bnd fun xs S1 => match xs with
  | [.ref n] => (match S1[n]? with
    | some (.dcT l) => lift (bSortL (l.map (·.1))) S1
    | _ => .bad)
  | _ => lift (bSorted xs) S1
end Ro
end
section
set_option Elab.async false
set_option linter.all false
set_option maxRecDepth 100000
set_option maxHeartbeats 4000000
namespace Ro
open PySem PySem.Spec PyProof.Rows L2
theorem callerG : RG 200 callerA := ⟨⟨rfl, by decide, by decide⟩, rfl⟩
/-- a number of at most 2 ^ 20 bits -/
def bits20 (n : Int) : Prop := Builtin.Int.intBits n ≤ 1048576
theorem funD_uniq {K : PySem.W.Frag} {x qual : Str} {params : Arguments} {body : List Stmt} {scope : Scope} {dvs : List V} {kws : List (Str × V)} {f : Addr} {fd fd' : FuncData} (h : FunD K x qual params body scope dvs kws f fd) (h' : FunD K x qual params body scope dvs kws f fd') : fd' = fd := by
  obtain ⟨_, _, _, _, _, _, _, _, _, _, _, e1, _⟩ := h.ex
  obtain ⟨_, _, _, _, _, _, _, _, _, _, _, e2, _⟩ := h'.ex
  rw [e1] at e2
  cases e2
  rfl
end Ro
end
section
set_option Elab.async false
set_option linter.all false
set_option maxRecDepth 100000
set_option maxHeartbeats 4000000
namespace Ro
open PySem
@[irreducible] def W {α : Type} (r : R α) (post : α → Store → Prop) : Prop := match r with
  | .ok a S => post a S
  | _ => False
@[simp] theorem W_ok {α : Type} (a : α) (S : Store) (post : α → Store → Prop) : W (.ok a S) post = post a S := by unfold W; rfl
@[simp] theorem W_err {α : Type} (c : String) (fs : List D) (S : Store) (post : α → Store → Prop) : W (.err c fs S : R α) post = False := by unfold W; rfl
@[simp] theorem W_bad {α : Type} (post : α → Store → Prop) : W (.bad : R α) post = False := by unfold W; rfl
theorem W.mono {α : Type} {r : R α} {p q : α → Store → Prop} (h : W r p) (k : ∀ a S, p a S → q a S) : W r q := by
  cases r with
  | ok a S => rw [W_ok] at h ⊢; exact k a S h
  | err c fs S => rw [W_err] at h; exact h.elim
  | bad => rw [W_bad] at h; exact h.elim
theorem W.bnd {α β : Type} {r : R α} {f : α → Store → R β} {q : β → Store → Prop} (h : W r fun a S => W (f a S) q) : W (r.bnd f) q := by
  cases r with
  | ok a S => rw [W_ok] at h; exact h
  | err c fs S => rw [W_err] at h; exact h.elim
  | bad => rw [W_bad] at h; exact h.elim
theorem W.eq {α : Type} {r : R α} {a : α} {S : Store} (h : r = .ok a S) {q : α → Store → Prop} (k : q a S) : W r q := by rw [h, W_ok]; exact k
theorem W.ex {r : R D} {d : D} (h : W r fun x _ => x = d) : ∃ S, r = .ok d S := by
  cases r with
  | ok a S => rw [W_ok] at h; exact ⟨S, by rw [show a = d from h]⟩
  | err c fs S => rw [W_err] at h; exact h.elim
  | bad => rw [W_bad] at h; exact h.elim
/-- a loop by an invariant -/
theorem W.loop {tg : Pat} {body : ES} {I : Nat → Env → Store → Prop} {q : Ctl → Store → Prop} : ∀ {xs : List D} {k : Nat} {env : Env} {S : Store}, I k env S →
    (∀ (i : Nat) x env S, k ≤ i → xs[i - k]? = some x → I i env S → ∃ env1, tg x env = some env1 ∧ W (body env1 S) fun c S1 => match c with
      | .nx e => I (i + 1) e S1
      | .ct e => I (i + 1) e S1
      | .bk e => q (.nx e) S1
      | .rt d => q (.rt d) S1) →
    (∀ env S, I (k + xs.length) env S → q (.nx env) S) → W (loop tg body xs env S) q
  | [], k, env, S, h, _, fin => by rw [Ro.loop, W_ok]; exact fin env S h
  | x :: xs, k, env, S, h, step, fin => by
    obtain ⟨env1, e1, h1⟩ := step k x env S (Nat.le_refl _) (by simp) h
    unfold Ro.loop
    rw [e1]
    refine W.bnd (h1.mono fun c S1 hc => ?_)
    have next : ∀ e, I (k + 1) e S1 → W (Ro.loop tg body xs e S1) q := fun e he => W.loop (k := k + 1) he (fun i y env S hi hy => step i y env S (by omega) (by
      have : i - k = (i - (k + 1)) + 1 := by omega
      rw [this, List.getElem?_cons_succ]
      exact hy)) (fun env S hI => fin env S (by
      have : k + (x :: xs).length = k + 1 + xs.length := by simp; omega
      rw [this]
      exact hI))
    cases c with
    | nx e => exact next e hc
    | ct e => exact next e hc
    | bk e => rw [W_ok]; exact hc
    | rt d => rw [W_ok]; exact hc
/-- a comprehension without a test, by an invariant of what is made -/
theorem W.lc {tg : Pat} {c : BX} {el : EX} {env0 : Env} {I : Nat → List D → Store → Prop} {q : List D → Store → Prop} : ∀ {xs : List D} {k : Nat} {acc : List D} {S : Store}, I k acc S → acc.length + xs.length ≤ LINE →
    (∀ (i : Nat) x acc S, k ≤ i → xs[i - k]? = some x → I i acc S → ∃ env1, tg x env0 = some env1 ∧ W (c env1 S) fun b S1 => if b then W (el env1 S1) fun y S2 => I (i + 1) (acc ++ [y]) S2 else I (i + 1) acc S1) →
    (∀ acc S, I (k + xs.length) acc S → q acc S) → W (lcLoop tg c el env0 xs acc S) q
  | [], k, acc, S, h, _, _, fin => by rw [lcLoop, W_ok]; exact fin acc S h
  | x :: xs, k, acc, S, h, hl, step, fin => by
    obtain ⟨env1, e1, h1⟩ := step k x acc S (Nat.le_refl _) (by simp) h
    unfold lcLoop
    rw [e1]
    have next : ∀ acc' S', acc'.length ≤ acc.length + 1 → I (k + 1) acc' S' → W (lcLoop tg c el env0 xs acc' S') q := fun acc' S' hl' hI => W.lc (k := k + 1) hI (by simp at hl; omega) (fun i y a S hi hy => step i y a S (by omega) (by
      have : i - k = (i - (k + 1)) + 1 := by omega
      rw [this, List.getElem?_cons_succ]
      exact hy)) (fun a S hI => fin a S (by
      have : k + (x :: xs).length = k + 1 + xs.length := by simp; omega
      rw [this]
      exact hI))
    have nox : ∀ {α : Type} {r : R α} {p : α → Store → Prop}, W r p → W r.nox p := fun {α r p} h => by
      cases r with
      | ok a S => exact h
      | err c fs S => rw [W_err] at h; exact h.elim
      | bad => exact h
    refine W.bnd ((nox h1).mono fun b S1 hb => ?_)
    cases b with
    | false => exact next acc S1 (by omega) hb
    | true =>
      rw [if_pos rfl] at hb ⊢
      refine W.bnd ((nox hb).mono fun y S2 hy => ?_)
      rw [if_pos (by simp at hl; omega)]
      exact next (acc ++ [y]) S2 (by simp) hy
end Ro
end
section
set_option Elab.async false
set_option linter.all false
set_option maxRecDepth 100000
set_option maxHeartbeats 4000000
namespace Ro
open PySem
variable {env : Env} {S : Store}
@[simp] theorem u_eVar (i : Nat) : eVar i env S = (match env[i]? with
  | some (some d) => .ok d S
  | _ => .bad) := rfl
@[simp] theorem u_eC (d : D) : eC d env S = .ok d S := rfl
@[simp] theorem u_eOp (op : D → D → Option D) (a b : EX) : eOp op a b env S = (a env S).bnd fun x S1 => (b env S1).bnd fun y S2 => lift (op x y) S2 := rfl
@[simp] theorem u_eUn (op : D → Option D) (a : EX) : eUn op a env S = (a env S).bnd fun x S1 => lift (op x) S1 := rfl
@[simp] theorem u_aNil : aNil env S = .ok [] S := rfl
@[simp] theorem u_aCons (a : EX) (r : AX) : aCons a r env S = (a env S).bnd fun x S1 => (r env S1).bnd fun xs S2 => .ok (x :: xs) S2 := rfl
@[simp] theorem u_eFn (m : List D → List D → Store → R D) (fa fk : AX) : eFn m fa fk env S = (fa env S).bnd fun xs S1 => (fk env S1).bnd fun zs S2 => m xs zs S2 := rfl
@[simp] theorem u_callM (m : Fn) (n kn pn : Nat) (pk : List (Nat × Nat)) (dfs xs ys : List D) : callM m n kn pn pk dfs xs ys S = if xs.length = n ∧ ys.length = kn ∧ (pick pk xs dfs ys).length = pn then m (pick pk xs dfs ys) S else .bad := rfl
@[simp] theorem u_pick0 {α : Type} (us its ws : List α) : pick [] us its ws = [] := rfl
@[simp] theorem u_pick1 {α : Type} (p : Nat × Nat) (pk : List (Nat × Nat)) (us its ws : List α) : pick (p :: pk) us its ws = ((if p.1 = 0 then us else if p.1 = 1 then its else ws)[p.2]?).toList ++ pick pk us its ws := rfl
@[simp] theorem u_eTup (a : AX) : eTup a env S = (a env S).bnd fun xs S1 => if xs.length ≤ LINE then .ok (.tup xs) S1 else .bad := rfl
@[simp] theorem u_eLst (a : AX) : eLst a env S = (a env S).bnd fun xs S1 => if xs.length ≤ LINE then .ok (.lst xs) S1 else .bad := rfl
@[simp] theorem u_eLstM (a : AX) : eLstM a env S = (a env S).bnd fun xs S1 => if xs.length ≤ LINE then .ok (.ref S1.length) (S1 ++ [.lst xs]) else .bad := rfl
@[simp] theorem u_bOf (a : EX) : bOf a env S = (a env S).bnd fun x S1 => lift (truth x) S1 := rfl
@[simp] theorem u_bVal (a : EX) : bVal a env S = (a env S).bnd fun x S1 => match x with
  | .bl b => .ok b S1
  | _ => .bad := rfl
@[simp] theorem u_bAnd (a b : BX) : bAnd a b env S = (a env S).bnd fun c S1 => if c then b env S1 else .ok false S1 := rfl
@[simp] theorem u_bOr (a b : BX) : bOr a b env S = (a env S).bnd fun c S1 => if c then .ok true S1 else b env S1 := rfl
@[simp] theorem u_bNot (a : BX) : bNot a env S = (a env S).bnd fun c S1 => .ok (!c) S1 := rfl
@[simp] theorem u_eAnd (a b : EX) : eAnd a b env S = (a env S).bnd fun x S1 => match x with
  | .bl c => if c then b env S1 else .ok (.bl false) S1
  | _ => .bad := rfl
@[simp] theorem u_eOr (a b : EX) : eOr a b env S = (a env S).bnd fun x S1 => match x with
  | .bl c => if c then .ok (.bl true) S1 else b env S1
  | _ => .bad := rfl
@[simp] theorem u_eNot (a : EX) : eNot a env S = (a env S).bnd fun x S1 => match x with
  | .bl c => .ok (.bl (!c)) S1
  | _ => .bad := rfl
@[simp] theorem u_eIf (c : BX) (a b : EX) : eIf c a b env S = (c env S).bnd fun k S1 => if k then a env S1 else b env S1 := rfl
def chk {α : Type} (o : Option D) (a b : R α) : R α := match o with
  | some (.bl c) => if c then a else b
  | _ => .bad
@[simp] theorem chk_bl {α : Type} (c : Bool) (a b : R α) : chk (some (.bl c)) a b = if c then a else b := rfl
@[simp] theorem u_eChain (op op' : D → D → Option D) (a b c : EX) : eChain op op' a b c env S = (a env S).bnd fun x S1 => (b env S1).bnd fun y S2 => chk (op x y) ((c env S2).bnd fun z S3 => lift (op' y z) S3) (.ok (.bl false) S2) := by
  unfold eChain
  congr 1
  funext x S1
  congr 1
  funext y S2
  unfold chk
  split
  · rename_i h; simp [h]
  · rename_i h; simp [h]
  · rename_i h1 h2
    split
    · rename_i c h
      cases c
      · exact (h2 h).elim
      · exact (h1 h).elim
    · rfl
@[simp] theorem u_eIdxB (a b : EX) : eIdxB a b env S = (a env S).bnd fun x S1 => (b env S1).bnd fun y S2 => lift (idxB x y S2) S2 := rfl
@[simp] theorem u_oNone : oNone env S = .ok none S := rfl
@[simp] theorem u_oSome (a : EX) : oSome a env S = (a env S).bnd fun x S1 => match x with
  | .int i => .ok (some i) S1
  | _ => .bad := rfl
@[simp] theorem u_eCut (a : EX) (lo hi : OX) : eCut a lo hi env S = (a env S).bnd fun x S1 => (lo env S1).bnd fun l S2 => (hi env S2).bnd fun h S3 => lift (cutD x l h) S3 := rfl
@[simp] theorem u_eIsI (tys : List Ty) (Tt : Ty) (a : EX) : eIsI tys Tt a env S = (a env S).bnd fun x S1 => match tyD x S1 with
  | some t => if tys.contains t then .ok (.bl (subTy t Tt)) S1 else .bad
  | none => .bad := rfl
@[simp] theorem u_eAttr (cf : String → List String) (cs : List String) (f : String) (a : EX) : eAttr cf cs f a env S = (a env S).bnd fun x S1 => lift (attrD cf cs f x S1) S1 := rfl
@[simp] theorem u_eB (m : List D → Option D) (fa : AX) : eB m fa env S = (fa env S).bnd fun xs S1 => lift (m xs) S1 := rfl
@[simp] theorem u_eMeth (cf : String → List String) (c mn : String) (m : List D → List D → Store → R D) (o : EX) (fa fk : AX) : eMeth cf c mn m o fa fk env S = (o env S).bnd fun x S1 => if isInst cf c mn x S1 then (fa env S1).bnd fun xs S2 => (fk env S2).bnd fun zs S3 => m (x :: xs) zs S3 else .bad := rfl
@[simp] theorem u_eFrz (cf : String → List String) (a : EX) : eFrz cf a env S = frzM cf (a env S) := rfl
@[simp] theorem u_eLC (vs : List Nat) (it : AX) (tg : Pat) (c : BX) (el : EX) : eLC vs it tg c el env S = (it env S).bnd fun xs S1 => (lcLoop tg c el (wipeE env vs) xs [] S1).bnd fun ys S2 => .ok (.lst ys) S2 := rfl
@[simp] theorem u_bYes : bYes env S = .ok true S := rfl
@[simp] theorem u_eSorted (fa : AX) : eSorted fa env S = (fa env S).bnd fun xs S1 => match xs with
  | [.ref n] => (match S1[n]? with
    | some (.dcT l) => lift (bSortL (l.map (·.1))) S1
    | _ => .bad)
  | _ => lift (bSorted xs) S1 := rfl
@[simp] theorem u_eDctT : eDctT env S = .ok (.ref S.length) (S ++ [.dcT []]) := rfl
@[simp] theorem u_sSet (i : Nat) (e : EX) : sSet i e env S = (e env S).bnd fun d S1 => .ok (.nx (env.set i (some d))) S1 := rfl
@[simp] theorem u_sSeq (s t : ES) : sSeq s t env S = (s env S).bnd fun c S1 => match c with
  | .nx e => t e S1
  | c => .ok c S1 := rfl
@[simp] theorem u_sPass : sPass env S = .ok (.nx env) S := rfl
@[simp] theorem u_sIf (c : BX) (s t : ES) : sIf c s t env S = (c env S).bnd fun k S1 => if k then s env S1 else t env S1 := rfl
@[simp] theorem u_sRet (e : EX) : sRet e env S = (e env S).bnd fun d S1 => .ok (.rt d) S1 := rfl
@[simp] theorem u_sExpr (e : EX) : sExpr e env S = (e env S).bnd fun _ S1 => .ok (.nx env) S1 := rfl
@[simp] theorem u_sUnp (p : Pat) (e : EX) : sUnp p e env S = (e env S).bnd fun d S1 => match p d env with
  | some env' => .ok (.nx env') S1
  | none => .bad := rfl
@[simp] theorem u_sPar2 (i j : Nat) (fa : AX) : sPar2 i j fa env S = (fa env S).bnd fun xs S1 => match xs with
  | [x, y] => .ok (.nx ((env.set i (some x)).set j (some y))) S1
  | _ => .bad := rfl
@[simp] theorem u_sFor (it : AX) (tg : Pat) (body : ES) : sFor it tg body env S = (it env S).bnd fun xs S1 => loop tg body xs env S1 := rfl
@[simp] theorem u_sSetIt (o i v : EX) : sSetIt o i v env S = (v env S).bnd fun z S1 => (o env S1).bnd fun x S2 => (i env S2).bnd fun y S3 => match setM x y z S3 with
  | some S4 => .ok (.nx env) S4
  | none => .bad := rfl
@[simp] theorem u_sSetAttr (cs : List String) (f : String) (o v : EX) : sSetAttr cs f o v env S = (v env S).bnd fun y S1 => (o env S1).bnd fun x S2 => match x with
  | .ref n => match S2[n]? with
    | some (.ins c fs) => if cs.contains c && decide (fs.length < 1000) then .ok (.nx env) (S2.set n (.ins c (setF f y fs))) else .bad
    | _ => .bad
  | _ => .bad := rfl
@[simp] theorem u_sPutT (o : EX) (ks : AX) (v : EX) : sPutT o ks v env S = (v env S).bnd fun z S1 => (o env S1).bnd fun x S2 => (ks env S2).bnd fun ys S3 => match x, dInts ys with
  | .ref n, some k => (match S3[n]? with
    | some (.dcT l) => if l.length < LINE ∧ ys.length ≤ LINE then .ok (.nx env) (S3.set n (.dcT (putL l k z))) else .bad
    | _ => .bad)
  | _, _ => .bad := rfl
@[simp] theorem u_itR1 (fa : AX) : itR1 fa env S = (fa env S).bnd fun ds S1 => match ds with
  | [.int j] => if small62 j then .ok (rngL 0 j.toNat) S1 else .bad
  | _ => .bad := rfl
@[simp] theorem u_itR2 (fa : AX) : itR2 fa env S = (fa env S).bnd fun ds S1 => match ds with
  | [.int i, .int j] => if small62 i && small62 j then .ok (rngL i (j - i).toNat) S1 else .bad
  | _ => .bad := rfl
@[simp] theorem u_itAny (f : EX) : itAny f env S = (f env S).bnd fun d S1 => match d with
  | .lst l => .ok l S1
  | .tup l => .ok l S1
  | .str s => .ok (s.cps.toList.map fun c => .str ⟨#[c]⟩) S1
  | _ => .bad := rfl
@[simp] theorem u_itZip (fa : AX) : itZip fa env S = (fa env S).bnd fun ds S1 => match ds with
  | [.lst l, .lst m] => .ok (zipL l m) S1
  | [.tup l, .tup m] => .ok (zipL l m) S1
  | _ => .bad := rfl
@[simp] theorem u_fnM (n : Nat) (body : ES) (ds : List D) : fnM n body ds S = (body (ds.map some ++ List.replicate (n - ds.length) none) S).bnd fun c S1 => match c with
  | .rt d => .ok d S1
  | .nx _ => .ok .non S1
  | _ => .bad := rfl
@[simp] theorem u_pName (i : Nat) (d : D) : pName i d env = some (env.set i (some d)) := rfl
@[simp] theorem u_pTup (r : List D → Env → Option Env) (l : List D) : pTup r (.tup l) env = r l env := rfl
@[simp] theorem u_pNil : pNil [] env = some env := rfl
@[simp] theorem u_pCons (p : Pat) (r : List D → Env → Option Env) (d : D) (ds : List D) : pCons p r (d :: ds) env = (p d env).bind fun e => r ds e := rfl
@[simp] theorem o_add (i j : Int) : addD (.int i) (.int j) = some (.int (i + j)) := rfl
@[simp] theorem o_sub (i j : Int) : subD (.int i) (.int j) = some (.int (i - j)) := rfl
@[simp] theorem o_mul (i j : Int) : mulD (.int i) (.int j) = if mulOk i j then some (.int (i * j)) else none := rfl
@[simp] theorem o_fdiv (i j : Int) : fdivD (.int i) (.int j) = if 0 < j ∧ j.natAbs.log2 < 9000 then some (.int (i / j)) else none := rfl
@[simp] theorem o_mod (i j : Int) : modD (.int i) (.int j) = if 0 < j then some (.int (i % j)) else none := rfl
@[simp] theorem o_neg (i : Int) : negD (.int i) = some (.int (-i)) := rfl
@[simp] theorem o_lt (i j : Int) : ltA (.int i) (.int j) = some (.bl (decide (i < j))) := rfl
@[simp] theorem o_le (i j : Int) : leD (.int i) (.int j) = some (.bl (decide (i ≤ j))) := rfl
@[simp] theorem o_eqi (i j : Int) : eqD (.int i) (.int j) = some (.bl (decide (i = j))) := rfl
@[simp] theorem o_nei (i j : Int) : neD (.int i) (.int j) = some (.bl (!decide (i = j))) := rfl
@[simp] theorem o_powi (i j : Int) : powD (.int i) (.int j) = if 0 ≤ j ∧ j ≤ 1000000 ∧ i.natAbs < 2 ^ 64 then some (.int (i ^ j.toNat)) else none := rfl
@[simp] theorem ix_nn (n j : Nat) (h : j < n) : pyIx n (j : Int) = some j := by
  unfold pyIx
  rw [if_pos (by omega), if_pos (by omega)]
  simp
@[simp] theorem ix_0 (n : Nat) : pyIx (n + 1) 0 = some 0 := ix_nn (n + 1) 0 (by omega)
@[simp] theorem idx_ref (n : Nat) (i : Int) : idxB (.ref n) (.int i) S = (match S[n]? with
    | some (.lst l) => atP l i
    | _ => none) := rfl
@[simp] theorem idx_lst (l : List D) (i : Int) : idxB (.lst l) (.int i) S = atP l i := rfl
@[simp] theorem idx_tup (l : List D) (i : Int) : idxB (.tup l) (.int i) S = atP l i := rfl
@[simp] theorem idx_scr (l : List Int) (i : Int) : idxB (.scr l) (.int i) S = (atP l i).map D.int := rfl
@[simp] theorem set_ref (n : Nat) (i : Int) (v : D) : setM (.ref n) (.int i) v S = (match S[n]? with
    | some (.lst l) => (pyIx l.length i).map fun j => S.set n (.lst (l.set j v))
    | _ => none) := rfl
@[simp] theorem W_bnd {α β : Type} (r : R α) (f : α → Store → R β) (q : β → Store → Prop) : W (r.bnd f) q = W r fun a S => W (f a S) q := by cases r <;> simp
@[simp] theorem W_lift {α : Type} (o : Option α) (q : α → Store → Prop) : W (lift o S) q = ∃ a, o = some a ∧ q a S := by cases o <;> simp [lift]
@[simp] theorem u_small (i : Int) : small62 i = decide (-(2 ^ 62) ≤ i ∧ i < 2 ^ 62) := rfl
@[simp] theorem rng_len (lo : Int) (n : Nat) : (rngL lo n).length = n := by simp [rngL]
theorem rng_get {lo : Int} {n i : Nat} {d : D} (h : (rngL lo n)[i]? = some d) : i < n ∧ d = .int (lo + (i : Int)) := by
  unfold rngL at h
  rw [List.getElem?_map] at h
  cases z : (List.range n)[i]? with
  | none => rw [z] at h; cases h
  | some k =>
    rw [z] at h
    obtain ⟨hl, e⟩ := List.getElem?_eq_some_iff.mp z
    rw [List.getElem_range] at e
    subst e
    cases h
    exact ⟨by simpa using hl, rfl⟩
@[simp] theorem at_0 (d : D) (l : List D) : atP (d :: l) 0 = some d := by simp [atP]
@[simp] theorem at_1 (d e : D) (l : List D) : atP (d :: e :: l) 1 = some e := by
  have : pyIx (d :: e :: l).length 1 = some 1 := ix_nn _ 1 (by simp)
  unfold atP
  rw [this]
  rfl
@[simp] theorem ix_1 (n : Nat) : pyIx (n + 1 + 1) 1 = some 1 := ix_nn (n + 2) 1 (by omega)
@[simp high] theorem W_liftIf {α : Type} (c : Prop) [Decidable c] (a : α) (q : α → Store → Prop) : W (lift (if c then some a else none) S) q = (c ∧ q a S) := by
  by_cases h : c <;> simp [h, lift]
@[simp] theorem log_7 : Nat.log2 7 < 9000 := by decide
@[simp] theorem log_2 : Nat.log2 2 < 9000 := by decide
@[simp] theorem LINE_eq : LINE = 16777216 := rfl
@[simp] theorem pyEq_str (a b : Str) : pyEq (.str a) (.str b) = decide (a = b) := by rw [pyEq]
@[simp] theorem pyEq_int (a b : Int) : pyEq (.int a) (.int b) = decide (a = b) := by rw [pyEq]
@[simp] theorem pyEq_tup (a b : List D) : pyEq (.tup a) (.tup b) = pyEqs a b := by rw [pyEq]
@[simp] theorem pyEq_lst (a b : List D) : pyEq (.lst a) (.lst b) = pyEqs a b := by rw [pyEq]
@[simp] theorem pyEqs_nil : pyEqs [] [] = true := by rw [pyEqs]
@[simp] theorem pyEqs_cons (x y : D) (l m : List D) : pyEqs (x :: l) (y :: m) = (pyEq x y && pyEqs l m) := by rw [pyEqs]
@[simp] theorem pyEqs_nc (y : D) (m : List D) : pyEqs [] (y :: m) = false := by rw [pyEqs] <;> simp
@[simp] theorem pyEqs_cn (x : D) (l : List D) : pyEqs (x :: l) [] = false := by rw [pyEqs] <;> simp
@[simp] theorem inL_nil (x : D) : inL x [] = false := rfl
@[simp] theorem inL_cons (x y : D) (l : List D) : inL x (y :: l) = (pyEq y x || inL x l) := rfl
@[simp] theorem pl_str (n : Nat) (a : Str) : plN n (.str a) = true := by cases n <;> rfl
@[simp] theorem pl_int (n : Nat) (a : Int) : plN n (.int a) = true := by cases n <;> rfl
@[simp] theorem pl_bl (n : Nat) (a : Bool) : plN n (.bl a) = true := by cases n <;> rfl
@[simp] theorem pl_non (n : Nat) : plN n .non = true := by cases n <;> rfl
@[simp] theorem pl_tup (n : Nat) (l : List D) : plN (n + 1) (.tup l) = l.all (plN n) := rfl
@[simp] theorem pl_lst (n : Nat) (l : List D) : plN (n + 1) (.lst l) = l.all (plN n) := rfl
@[simp] theorem pl_D (d : D) : plD d = plN 8 d := rfl
end Ro
end
section
set_option Elab.async false
set_option linter.all false
set_option maxRecDepth 100000
set_option maxHeartbeats 4000000
namespace Ro
open PySem
def b__law_cell : ES :=
  (sSeq (sIf (bVal (eOp ltA (eVar 1) (eB bLenA (aCons (eVar 0) aNil)))) (sRet (eIdxB (eVar 0) (eVar 1))) sPass)
  (sRet (eC (.int 0))))
def m__law_cell : Fn := fnM 2 b__law_cell
def b__law_mix : ES :=
  (sSeq (sSet 2 (eLst (aCons (eC (.int 48271)) (aCons (eC (.int 69621)) (aCons (eC (.int 16807)) (aCons (eC (.int 39373)) (aCons (eC (.int 30269)) (aCons (eC (.int 40014)) (aCons (eC (.int 40692)) (aCons (eC (.int 50021)) (aCons (eC (.int 61687)) (aCons (eC (.int 71993)) (aCons (eC (.int 83869)) (aCons (eC (.int 95561)) (aCons (eC (.int 30307)) aNil)))))))))))))))
  (sSeq (sSet 3 (eOp mulD (eOp addD (eOp modD (eVar 0) (eC (.int 2147483647))) (eC (.int 12345))) (eIdxB (eVar 2) (eOp modD (eVar 1) (eC (.int 13))))))
  (sSeq (sSet 3 (eOp addD (eOp addD (eVar 3) (eOp mulD (eC (.int 977)) (eVar 1))) (eOp mulD (eC (.int 7919)) (eOp fdivD (eVar 1) (eC (.int 13))))))
  (sSeq (sSet 3 (eOp modD (eVar 3) (eC (.int 1000000007))))
  (sRet (eOp fdivD (eOp modD (eOp addD (eOp mulD (eVar 3) (eVar 3)) (eOp mulD (eC (.int 48271)) (eVar 1))) (eC (.int 1000000007))) (eC (.int 7))))))))
def m__law_mix : Fn := fnM 4 b__law_mix
def b__law_box : ES :=
  (sSeq (sSet 3 (eFn (callM m__law_cell 2 0 2 [(0, 0), (0, 1)] []) (aCons (eVar 0) (aCons (eVar 1) aNil)) aNil))
  (sSeq (sIf (bAnd (bVal (eOp eqD (eOp modD (eVar 3) (eC (.int 2))) (eC (.int 0)))) (bVal (eOp eqD (eVar 2) (eC (.int 0))))) (sRet (eLstM (aCons (eOp fdivD (eB bAbs (aCons (eVar 3) aNil)) (eC (.int 2))) aNil))) sPass)
  (sSeq (sSet 4 (eC (.int 0)))
  (sSeq (sFor (itR1 (aCons (eC (.int 90)) aNil)) (pName 5) (sSet 4 (eOp addD (eOp mulD (eVar 4) (eC (.int 142857143))) (eFn (callM m__law_mix 2 0 2 [(0, 0), (0, 1)] []) (aCons (eVar 3) (aCons (eOp addD (eOp mulD (eC (.int 90)) (eVar 2)) (eVar 5)) aNil)) aNil))))
  (sRet (eLstM (aCons (eVar 4) aNil)))))))
def m__law_box : Fn := fnM 6 b__law_box
def b__law_take : ES :=
  (sSeq (sUnp (pTup (pCons (pName 2) (pCons (pName 3) pNil))) (eB bDivmod (aCons (eIdxB (eVar 0) (eC (.int 0))) (aCons (eVar 1) aNil))))
  (sSeq (sSetIt (eVar 0) (eC (.int 0)) (eVar 2))
  (sRet (eVar 3))))
def m__law_take : Fn := fnM 4 b__law_take
theorem mulOk_lt {i j : Int} {n m : Nat} (h1 : i.natAbs < 2 ^ n) (h2 : j.natAbs < 2 ^ m) (h : n + m < 1000000) (hn : 0 < n := by decide) (hm : 0 < m := by decide) : mulOk i j = true := by
  have key : ∀ {a k : Nat}, 0 < k → a < 2 ^ k → a.log2 < k := fun {a k} hk ha => by
    by_cases z : a = 0
    · subst z; simpa using hk
    · exact (Nat.log2_lt z).mpr ha
  unfold mulOk
  exact decide_eq_true (by have := key hn h1; have := key hm h2; omega)
/-- a box of digits stands at b -/
def Bx (S : Store) (b : Nat) : Prop := ∃ x y : Int, S[b]? = some (.lst [.int x]) ∧ 0 ≤ x ∧ 0 ≤ y
/-- .. and was drawn from, nothing else was turned -/
def Bs (S : Store) (b : Nat) (S' : Store) : Prop := ∃ x y : Int, 0 ≤ x ∧ 0 ≤ y ∧ S' = S.set b (.lst [.int x])
theorem Bx.lt {S : Store} {b : Nat} (h : Bx S b) : b < S.length := by
  obtain ⟨x, y, h, _⟩ := h
  exact (List.getElem?_eq_some_iff.mp h).1
theorem Bs.bx {S S' : Store} {b : Nat} (h : Bs S b S') (hb : b < S.length) : Bx S' b := by
  obtain ⟨x, y, h1, h2, rfl⟩ := h
  exact ⟨x, y, by rw [List.getElem?_set]; simp [hb], h1, h2⟩
theorem Bs.trans {S S' S'' : Store} {b : Nat} (h : Bs S b S') (h' : Bs S' b S'') : Bs S b S'' := by
  obtain ⟨x, y, h1, h2, rfl⟩ := h
  obtain ⟨x', y', h3, h4, rfl⟩ := h'
  exact ⟨x', y', h3, h4, by rw [List.set_set]⟩
theorem Bs.len {S S' : Store} {b : Nat} (h : Bs S b S') : S'.length = S.length := by
  obtain ⟨x, y, h1, h2, rfl⟩ := h
  rw [List.length_set]
theorem Bs.other {S S' : Store} {b c : Nat} (h : Bs S b S') (hc : c ≠ b) : S'[c]? = S[c]? := by
  obtain ⟨x, y, h1, h2, rfl⟩ := h
  rw [List.getElem?_set_ne (Ne.symm hc)]
theorem take_ok {S : Store} {b : Nat} {n : Int} (hB : Bx S b) (hn : 0 < n ∧ n < 1152921504606846976) : W (m__law_take [.ref b, .int n] S) fun d S' => (∃ i : Int, d = .int i ∧ 0 ≤ i ∧ i < n) ∧ Bs S b S' := by
  obtain ⟨x, y, hS, hx, hy⟩ := hB
  have hb : b < S.length := (List.getElem?_eq_some_iff.mp hS).1
  have hd : divOk n = true := decide_eq_true hn
  unfold m__law_take b__law_take
  simp [hS, bDivmod, hd]
  exact ⟨⟨Int.emod_nonneg _ (by omega), Int.emod_lt_of_pos _ hn.1⟩, _, 0, Int.ediv_nonneg hx (by omega), by omega, rfl⟩
theorem cell_ok {S : Store} {ns : List Int} {k : Nat} : ∃ c : Int, m__law_cell [.scr ns, .int k] S = .ok (.int c) S := by
  unfold m__law_cell b__law_cell
  by_cases c : k < ns.length
  · have hix : atP ns (k : Int) = some ns[k] := by
      unfold atP
      rw [ix_nn _ _ c]
      simp [c]
    refine ⟨ns[k], ?_⟩
    simp [bLenA, bLen, lenD, c, hix]
  · refine ⟨0, ?_⟩
    simp [bLenA, bLen, lenD, c]
def mixs : List Int := [48271, 69621, 16807, 39373, 30269, 40014, 40692, 50021, 61687, 71993, 83869, 95561, 30307]
theorem mix_ok {S : Store} {c : Int} {k : Nat} (hk : k < 2000) : ∃ r : Int, m__law_mix [.int c, .int k] S = .ok (.int r) S ∧ 0 ≤ r ∧ r < 1000000007 := by
  have hm : (k : Int) % 13 = ((k % 13 : Nat) : Int) := by omega
  have hl : k % 13 < 13 := Nat.mod_lt _ (by decide)
  obtain ⟨z, hz, z1, z2⟩ : ∃ z : Int, atP (mixs.map D.int) ((k : Int) % 13) = some (.int z) ∧ 0 ≤ z ∧ z < 100000 := by
    rw [hm]
    generalize k % 13 = j at hl
    unfold atP
    rw [ix_nn _ _ (by simpa [mixs] using hl)]
    match j, hl with
    | 0, _ => exact ⟨_, rfl, by decide, by decide⟩
    | 1, _ => exact ⟨_, rfl, by decide, by decide⟩
    | 2, _ => exact ⟨_, rfl, by decide, by decide⟩
    | 3, _ => exact ⟨_, rfl, by decide, by decide⟩
    | 4, _ => exact ⟨_, rfl, by decide, by decide⟩
    | 5, _ => exact ⟨_, rfl, by decide, by decide⟩
    | 6, _ => exact ⟨_, rfl, by decide, by decide⟩
    | 7, _ => exact ⟨_, rfl, by decide, by decide⟩
    | 8, _ => exact ⟨_, rfl, by decide, by decide⟩
    | 9, _ => exact ⟨_, rfl, by decide, by decide⟩
    | 10, _ => exact ⟨_, rfl, by decide, by decide⟩
    | 11, _ => exact ⟨_, rfl, by decide, by decide⟩
    | 12, _ => exact ⟨_, rfl, by decide, by decide⟩
  have hz' : atP [D.int 48271, D.int 69621, D.int 16807, D.int 39373, D.int 30269, D.int 40014, D.int 40692, D.int 50021, D.int 61687, D.int 71993, D.int 83869, D.int 95561, D.int 30307] ((k : Int) % 13) = some (.int z) := hz
  have b1 : ∀ x : Int, mulOk (x % 2147483647 + 12345) z = true := fun x => mulOk_lt (n := 32) (m := 17) (by omega) (by omega) (by decide)
  have b2 : mulOk 977 k = true := mulOk_lt (n := 10) (m := 11) (by decide) (by omega) (by decide)
  have b3 : mulOk 7919 (k / 13) = true := mulOk_lt (n := 13) (m := 11) (by decide) (by omega) (by decide)
  have b4 : ∀ x : Int, mulOk (x % 1000000007) (x % 1000000007) = true := fun x => mulOk_lt (n := 30) (m := 30) (by omega) (by omega) (by decide)
  have b5 : mulOk 48271 k = true := mulOk_lt (n := 16) (m := 11) (by decide) (by omega) (by decide)
  have l13 : Nat.log2 13 < 9000 := by decide
  unfold m__law_mix b__law_mix
  simp [-List.getElem?_eq_getElem, hz', b1, b2, b3, b4, b5, l13]
  omega
/-- a fresh box of the script -/
theorem box_ok {S : Store} {ns : List Int} {k lap : Nat} (hl : lap < 20) : W (m__law_box [.scr ns, .int k, .int lap] S) fun d S' => ∃ x : Int, d = .ref S.length ∧ S' = S ++ [.lst [.int x]] ∧ 0 ≤ x := by
  obtain ⟨c, hc⟩ := cell_ok (S := S) (ns := ns) (k := k)
  have l2 : Nat.log2 2 < 9000 := by decide
  unfold m__law_box b__law_box
  have key : W (loop (pName 5) (sSet 4 (eOp addD (eOp mulD (eVar 4) (eC (.int 142857143))) (eFn (callM m__law_mix 2 0 2 [(0, 0), (0, 1)] []) (aCons (eVar 3) (aCons (eOp addD (eOp mulD (eC (.int 90)) (eVar 2)) (eVar 5)) aNil)) aNil))) (rngL 0 90)
      [some (.scr ns), some (.int k), some (.int lap), some (.int c), some (.int 0), none] S) fun q S' => ∃ (x : Int) (z : Option D), q = .nx [some (.scr ns), some (.int k), some (.int lap), some (.int c), some (.int x), z] ∧ 0 ≤ x ∧ S' = S := by
    refine W.loop (I := fun i env S' => ∃ (x : Int) (z : Option D), env = [some (.scr ns), some (.int k), some (.int lap), some (.int c), some (.int x), z] ∧ 0 ≤ x ∧ x < 2 ^ (31 * i) ∧ S' = S) (k := 0)
      ⟨0, none, rfl, by omega, by decide, rfl⟩ (fun i d env S' hi hd hI => ?_) (fun env S' hI => ?_)
    · obtain ⟨x, z, rfl, x1, x2, rfl⟩ := hI
      obtain ⟨hi, rfl⟩ := rng_get hd
      simp at hi
      refine ⟨_, rfl, ?_⟩
      obtain ⟨r, hr, r1, r2⟩ := mix_ok (S := S') (c := c) (k := 90 * lap + i) (by omega)
      have e : ((90 * lap + i : Nat) : Int) = 90 * (lap : Int) + (0 + (i : Int)) := by omega
      rw [e] at hr
      have hpow : (2 : Int) ^ (31 * i) ≤ 2 ^ 2790 := by
        have : (2 : Nat) ^ (31 * i) ≤ 2 ^ 2790 := Nat.pow_le_pow_right (by decide) (by omega)
        exact_mod_cast this
      have b1 : mulOk x 142857143 = true := mulOk_lt (n := 2791) (m := 28) (by
        have h : x < 2 ^ 2790 := Int.lt_of_lt_of_le x2 hpow
        have : x.natAbs < 2 ^ 2790 := by omega
        omega) (by decide) (by decide)
      have b2 : mulOk 90 lap = true := mulOk_lt (n := 7) (m := 5) (by decide) (by omega) (by decide)
      have e7 : (2 : Int) ^ (31 * (i + 1)) = 2 ^ (31 * i) * 2147483648 := by rw [Nat.mul_add, Int.pow_add]; rfl
      simp only [Int.zero_add] at hr
      simp [b1, b2, hr]
      rw [e7]
      generalize (2 : Int) ^ (31 * i) = P at x2
      exact ⟨by omega, by omega⟩
    · obtain ⟨x, z, rfl, x1, x2, rfl⟩ := hI
      exact ⟨x, z, rfl, x1, rfl⟩
  by_cases e1 : c % 2 = 0
  · by_cases e2 : (lap : Int) = 0
    · simp [hc, e1, e2, bAbs]
      omega
    · simp [hc, e1, e2]
      have e2' : ¬ lap = 0 := by omega
      simp [e2']
      refine key.mono ?_
      rintro _ _ ⟨x, z, rfl, x1, rfl⟩
      simp
      exact x1
  · simp [hc, e1]
    refine key.mono ?_
    rintro _ _ ⟨x, z, rfl, x1, rfl⟩
    simp
    exact x1
end Ro
end
section
set_option Elab.async false
set_option linter.all false
set_option maxRecDepth 100000
set_option maxHeartbeats 4000000
namespace Ro
open PySem PySem.Spec PyProof.Rows L2
variable {T : Tb} {E : XK} {X : Cx} {a b c e : Expr} {es : List Expr} {f g h : EX} {fa ga fk : AX} {fb gb : BX} {pos : Pos} {st : Stmt} {sts rest : List Stmt} {s t : ES}
theorem ie_fnF {k n kn pn : Nat} {d : He.DefD} {x : Str} {p : Pos} {kws : List Keyword} {ps ks : List Str} {m : Fn} {pk : List (Nat × Nat)} {dfs : List D} (F : OkF T X.prog X.w X.mg X.base k d ps m) (hK : X.K = T.K) (hr : RG k X.A) (hg : Gl X x) (hm : X.mg x = some (.ref (He.fAd T.K d.at_)))
    (hb : ∀ fd, FunD T.K d.name d.qual d.params d.body d.scope (d.dvs T.K) [] (He.fAd T.K d.at_) fd → KBD T fd ps n ks pk dfs) (tk : L2N.Takes X fun c d _ H => E c d H) (ha : AK T E X es kws pos ks fa fk) (hdb : (x == ("__debug__" : Str)) = false := by decide +kernel) (h2 : ks.length = kn := by rfl) (h3 : ps.length = pn := by rfl) :
    IE T E X (.Call (.Name x p) es kws pos) (eFn (callM m n kn pn pk dfs) fa fk) := by
  subst h2 h3
  exact ie_fn F hK hr hg hm hb tk ha hdb
theorem ie_newF {k n n' kn pn : Nat} {cn : String} {d : He.DefD} {p : Pos} {kws : List Keyword} {ps ks : List Str} {m : Fn} {pk : List (Nat × Nat)} {dfs : List D} (F : OkF T X.prog X.w X.mg X.base k d ps m) (M : Mk T.K (He.ga T.K (cn : Str)) (He.fAd T.K d.at_)) (hK : X.K = T.K) (hr : RG (k + 1) X.A) (hg : Gl X (cn : Str)) (hm : X.mg (cn : Str) = some (.ref (He.ga T.K (cn : Str))))
    (hb : ∀ fd, FunD T.K d.name d.qual d.params d.body d.scope (d.dvs T.K) [] (He.fAd T.K d.at_) fd → KBD T fd ps n' ks pk dfs) (tk : L2N.Takes X fun c d _ H => E c d H) (ha : AK T E X es kws pos ks fa fk) (h1 : n' = n + 1) (hdb : ((cn : Str) == ("__debug__" : Str)) = false := by decide +kernel) (h2 : ks.length = kn := by rfl) (h3 : ps.length = pn := by rfl) :
    IE T E X (.Call (.Name (cn : Str) p) es kws pos) (eFn (newM cn (callM m n' kn pn pk dfs)) fa fk) := by
  subst h1 h2 h3
  exact ie_new F M hK hr hg hm hb tk ha hdb
theorem ie_methF {cf : String → List String} {cn mn : String} {k n n' kn pn : Nat} {d : He.DefD} {apos : Pos} {pl : Sem Bool} {kws : List Keyword} {ps ks : List Str} {m : Fn} {pk : List (Nat × Nat)} {dfs : List D} (hcf : T.cf = cf) (F : OkF T X.prog X.w X.mg X.base k d ps m) (hK : X.K = T.K) (hr : RG k X.A)
    (hc : Cls T.K (He.ga T.K (cn : Str))) (hm : Meth T.K (He.ga T.K (cn : Str)) (mn : Str) (He.fAd T.K d.at_))
    (hb : ∀ fd, FunD T.K d.name d.qual d.params d.body d.scope (d.dvs T.K) [] (He.fAd T.K d.at_) fd → KBD T fd ps n' ks pk dfs) (tk : L2N.Takes X fun c d _ H => E c d H) (ho : IE T E X a f) (ha : AK T E X es kws pos ks fa fk) (h1 : n' = n + 1)
    (ht : eval (.Call (.Attribute a (mn : Str) apos) es kws pos) X.env = (do
      let ov ← eval a X.env
      standAt apos.atName
      let (f, first) ← holding [ov] (getMethod ov (mn : Str) pl)
      callWith pos f first (backTo pos (starEach es X.env)) (backToKw pos (keywordEach kws X.env))) := by rfl) (h2 : ks.length = kn := by rfl) (h3 : ps.length = pn := by rfl) :
    IE T E X (.Call (.Attribute a (mn : Str) apos) es kws pos) (eMeth cf cn mn (callM m n' kn pn pk dfs) f fa fk) := by
  subst h1 h2 h3
  exact ie_meth hcf F hK hr hc hm hb tk ho ha ht
end Ro
end
section
set_option Elab.async false
set_option linter.all false
set_option maxRecDepth 100000
set_option maxHeartbeats 4000000
namespace Ro
open PySem PySem.Spec PyProof.Rows L2
mutual
def noThk : D → Bool
  | .non => true
  | .bl _ => true
  | .int _ => true
  | .str _ => true
  | .tup l => noThks l
  | .lst l => noThks l
  | .dct l => noThkK l
  | .obj _ l => noThks l
  | .scr _ => true
  | .ref _ => true
  | .fn _ => true
  | .thk _ _ => false
def noThks : List D → Bool
  | [] => true
  | d :: l => noThk d && noThks l
def noThkK : List (D × D) → Bool
  | [] => true
  | (_, d) :: l => noThk d && noThkK l
end
def Tb.at (T : Tb) (x : Option XC) : Tb := { T with xc := x }
mutual
theorem Rep.noThk {T : Tb} {w : Wd} (hx : T.xc = none) : ∀ {d : D} {v : V}, Rep T w d v → noThk d = true
  | _, _, .non => rfl
  | _, _, .bl _ => rfl
  | _, _, .int _ => rfl
  | _, _, .str _ => rfl
  | _, _, .tup _ r => by rw [Ro.noThk]; exact r.noThk hx
  | _, _, .scr _ => rfl
  | _, _, .lst _ r => by rw [Ro.noThk]; exact r.noThk hx
  | _, _, .dct _ r => by rw [Ro.noThk]; exact r.noThk hx
  | _, _, .obj _ _ r => by rw [Ro.noThk]; exact r.noThk hx
  | _, _, .ref _ => rfl
  | _, _, .fn _ => rfl
  | _, _, .xc0 h _ => by rw [hx] at h; cases h
  | _, _, .xc1 h _ _ _ _ => by rw [hx] at h; cases h
theorem Reps.noThk {T : Tb} {w : Wd} (hx : T.xc = none) : ∀ {l : List D} {vs : List V}, Reps T w l vs → noThks l = true
  | _, _, .nil => rfl
  | _, _, .cons q r => by rw [noThks, q.noThk hx, r.noThk hx]; rfl
theorem RepK.noThk {T : Tb} {w : Wd} (hx : T.xc = none) : ∀ {l : List (D × D)} {vs : List (Key × V)}, RepK T w l vs → noThkK l = true
  | _, _, .nil => rfl
  | _, _, .int q r => by rw [noThkK, q.noThk hx, r.noThk hx]; rfl
  | _, _, .str q r => by rw [noThkK, q.noThk hx, r.noThk hx]; rfl
end
mutual
theorem Rep.at {T : Tb} {w : Wd} {x y : Option XC} : ∀ {d : D} {v : V}, Ro.noThk d = true → Rep (T.at x) w d v → Rep (T.at y) w d v
  | _, _, _, .non => .non
  | _, _, _, .bl b => .bl b
  | _, _, _, .int i => .int i
  | _, _, _, .str s => .str s
  | _, _, h, .tup q r => .tup q (Reps.at (by rw [Ro.noThk] at h; exact h) r)
  | _, _, _, .scr q => .scr q
  | _, _, h, .lst q r => .lst q (Reps.at (by rw [Ro.noThk] at h; exact h) r)
  | _, _, h, .dct q r => .dct q (RepK.at (by rw [Ro.noThk] at h; exact h) r)
  | _, _, h, .obj q n r => .obj q n (Reps.at (by rw [Ro.noThk] at h; exact h) r)
  | _, _, _, .ref q => .ref q
  | _, _, _, .fn z => .fn z
  | _, _, h, .xc0 _ _ => by rw [Ro.noThk] at h; cases h
  | _, _, h, .xc1 _ _ _ _ _ => by rw [Ro.noThk] at h; cases h
theorem Reps.at {T : Tb} {w : Wd} {x y : Option XC} : ∀ {l : List D} {vs : List V}, noThks l = true → Reps (T.at x) w l vs → Reps (T.at y) w l vs
  | _, _, _, .nil => .nil
  | _, _, h, .cons q r => by
    rw [noThks, Bool.and_eq_true] at h
    exact .cons (Rep.at h.1 q) (Reps.at h.2 r)
theorem RepK.at {T : Tb} {w : Wd} {x y : Option XC} : ∀ {l : List (D × D)} {vs : List (Key × V)}, noThkK l = true → RepK (T.at x) w l vs → RepK (T.at y) w l vs
  | _, _, _, .nil => .nil
  | _, _, h, .int q r => by
    rw [noThkK, Bool.and_eq_true] at h
    exact .int (Rep.at h.1 q) (RepK.at h.2 r)
  | _, _, h, .str q r => by
    rw [noThkK, Bool.and_eq_true] at h
    exact .str (Rep.at h.1 q) (RepK.at h.2 r)
end
def noThkC : Cell → Bool
  | .dead => true
  | .lst l => noThks l
  | .dct l => noThkK l
  | .ins _ fs => noThks (fs.map (·.2))
  | .dcT l => noThks (l.map (·.2))
theorem CellR.noThk {T : Tb} {w : Wd} {H : Hp} {a : Addr} (hx : T.xc = none) : ∀ {c : Cell}, CellR T w H a c → noThkC c = true
  | .dead, _ => rfl
  | .lst _, ⟨_, _, r⟩ => r.noThk hx
  | .dct _, ⟨_, _, r⟩ => r.noThk hx
  | .ins _ _, ⟨_, _, _, _, r⟩ => r.noThk hx
  | .dcT _, ⟨_, _, _, r⟩ => r.noThk hx
theorem CellR.at {T : Tb} {w : Wd} {H : Hp} {a : Addr} {x y : Option XC} : ∀ {c : Cell}, noThkC c = true → CellR (T.at x) w H a c → CellR (T.at y) w H a c
  | .dead, _, _ => trivial
  | .lst _, h, ⟨vs, e, r⟩ => ⟨vs, e, r.at h⟩
  | .dct _, h, ⟨vs, e, r⟩ => ⟨vs, e, r.at h⟩
  | .ins _ _, h, ⟨dx, gs, e, n, r⟩ => ⟨dx, gs, e, n, r.at h⟩
  | .dcT _, h, ⟨vs, e, n, r⟩ => ⟨vs, e, n, r.at h⟩
/-- a store and hidden lists that hold no exception in hand -/
def Clean (S : Store) (hid : List (Addr × List D)) : Prop := (∀ c ∈ S, noThkC c = true) ∧ ∀ p ∈ hid, noThks p.2 = true
theorem WR.clean {T : Tb} {w : Wd} {S : Store} {H : Hp} (hx : T.xc = none) (r : WR T w S H) : Clean S w.hid := by
  refine ⟨fun c hc => ?_, fun p hp => ?_⟩
  · obtain ⟨n, hn, e⟩ := List.mem_iff_getElem.mp hc
    have h1 : S[n]? = some c := by rw [List.getElem?_eq_getElem hn, e]
    have hl : n < w.am.length := by rw [r.len]; exact hn
    exact (r.cell n c w.am[n] h1 (List.getElem?_eq_getElem hl)).noThk hx
  · obtain ⟨_, _, vs, _, z⟩ := r.hd p hp
    exact z.noThk hx
theorem WR.at {T : Tb} {w : Wd} {S : Store} {H : Hp} {x y : Option XC} (k : Clean S w.hid) (r : WR (T.at x) w S H) : WR (T.at y) w S H :=
  ⟨r.sub, r.len, r.nd, r.has, r.out, fun n c a h1 h2 => (r.cell n c a h1 h2).at (k.1 c (List.mem_of_getElem? h1)), r.tabs, r.hn, fun p hp => (r.hd p hp).imp id fun z => ⟨z.1, z.2.elim fun vs z => ⟨vs, z.1, z.2.at (k.2 p hp)⟩⟩, r.nt⟩
theorem ER.at {T : Tb} {w : Wd} {env : Env} {σ : St} {x y : Option XC} (k : ∀ d, some d ∈ env → Ro.noThk d = true) (r : ER (T.at x) w env σ) : ER (T.at y) w env σ := ⟨r.1, fun i d e => by
  obtain ⟨v, h1, h2⟩ := r.2 i d e
  exact ⟨v, h1, h2.at (k d (List.mem_of_getElem? e))⟩⟩
/-- all but the tables of code objects stay -/
theorem WR.growN {T : Tb} {w : Wd} {S : Store} {H H' : Hp} (r : WR T w S H) (k : LamX.ExtN H H') (t : LamX.Tabs T.tabs H') : WR T w S H' := by
  have kt : ∀ {a : Addr} {u : HO}, NoTab u → H a = some u → H' a = some u := fun {a u} n e => k a u e n.1
  refine ⟨fun a u e => k a u (r.sub a u e) fun ps z => r.nt a ps (by rw [e, z]), r.len, r.nd, fun a ha => ?_, r.out, fun n c a h1 h2 => ?_, t, r.hn, fun p hp => ?_, r.nt⟩
  · obtain ⟨u, e, nt⟩ := r.has a ha
    exact ⟨u, k a u e nt, nt⟩
  · have h := r.cell n c a h1 h2
    cases c with
    | dead => trivial
    | lst l => obtain ⟨vs, e, q⟩ := h; exact ⟨vs, kt noTab_lst e, q⟩
    | dct l => obtain ⟨vs, e, q⟩ := h; exact ⟨vs, kt noTab_dK e, q⟩
    | dcT l => obtain ⟨vs, e, q⟩ := h; exact ⟨vs, kt noTab_dT e, q⟩
    | ins c fs => obtain ⟨dx, gs, e, q⟩ := h; exact ⟨dx, gs, kt noTab_ins e, q⟩
  · obtain ⟨z1, z2, vs, z3, z4⟩ := r.hd p hp
    exact ⟨z1, z2, vs, kt noTab_lst z3, z4⟩
end Ro
end
section
set_option Elab.async false
set_option linter.all false
set_option maxRecDepth 100000
set_option maxHeartbeats 4000000
namespace Ro
open PySem PySem.Spec PyProof.Rows L2 L2H
variable {T : Tb} {E : XK} {X : Cx} {a b c e : Expr} {es : List Expr} {f g h : EX} {fa ga fk : AX} {pos : Pos}
structure RGH (k : Nat) (A : Around) : Prop where
  rm : RoomH k A
  gd : A.guards = some []
theorem RGH.mono {j k : Nat} {A : Around} (r : RGH k A) (h : j ≤ k) : RGH j A := ⟨r.rm.mono h, r.gd⟩
theorem RGH.deeper {k : Nat} {A : Around} (r : RGH (k + 1) A) (env : PySem.Env) : RGH k (A.deeper env) := ⟨r.rm.deeper env, r.gd⟩
theorem roomH_units {k : Nat} {A : Around} (r : RoomH k A) : A.units + 64 < cLine := by have := r.un; omega
theorem RGH.hu {k : Nat} {A : Around} (r : RGH k A) : A.units + 64 < cLine := roomH_units r.rm
/-- what is known of the exception in hand: its object -/
structure XHand (T : Tb) (z : XC) (p : Addr × Obj) : Prop where
  at_ : p.1 = z.a
  zc : Zc (.ref (He.ga T.K (z.c : Str))) z.dx p.2
  fl : ∃ vs, p.2.data = .fields vs
  cx : PXN.CtxN p.2
structure FnP (P : Program) (w : World) (T : Tb) (mg : Str → Option Value) (base : Heap) (k : Nat) (fp : Addr) (fd : FuncData) (ps : List Str) (cn : String) (m : Fn) : Prop where
  run : ∀ (A : Around) (below : List PySem.Env) (s : Shared) (H : Hp) (ar : Args) (Q : VK) (p : Addr × Obj) (z : XC) (fs : List D) (w0 : Wd) (S : Store), RGH k A → PinOk below H s p → XHand T z p → A.handled = some (.ref z.a) → z.c = cn → Env0 P w T.K mg base A below s H → BindsTo s fd ar (ps.zip [.ref p.1]) →
    WR (T.at (some z)) w0 S H → Rep (T.at (some z)) w0 (.thk 0 fs) (.ref z.a) → RP (m [.thk 0 fs] S) (Pk (T.at (some z)) w0 Q) (XW (T.at (some z)) w0 E00) → codeAny (model P w) A (.call (.ref fp) ar) (CR (L2N.CX P w) below P w H s Q E00) s
/-- the context of such a def's body -/
abbrev cxP (P : Program) (w : World) (K : PySem.W.Frag) (mg : Str → Option Value) (base : Heap) (N : List Str) (qual : Str) (scope : Scope) (f : Addr) (cd : Value) (A : Around) (outer : List PySem.Env) (s : Shared) (H : Hp) (p : Addr × Obj) : Cx :=
  cxH (L2N.CX P w) P w K mg base N qual scope f cd A outer s H E00 p
structure OkP (T : Tb) (P : Program) (w : World) (mg : Str → Option Value) (base : Heap) (k : Nat) (d : He.DefD) (ps : List Str) (cn : String) (m : Fn) : Prop where
  ex : ∃ fd, FunD T.K d.name d.qual d.params d.body d.scope (d.dvs T.K) [] (He.fAd T.K d.at_) fd ∧ FnP P w T mg base k (He.fAd T.K d.at_) fd ps cn m
theorem OkP.mk' {P : Program} {w : World} {mg : Str → Option Value} {base : Heap} {k : Nat} {d : He.DefD} {x : Str} {N : List Str} {body : ES} {fd : FuncData} {cn : String}
    (F : FunD T.K d.name d.qual d.params d.body d.scope (d.dvs T.K) [] (He.fAd T.K d.at_) fd) (Sc : FnScope N [x] d.scope)
    (h : ∀ (cdv : Value) (A : Around) (outer : List PySem.Env) (s : Shared) (H : Hp) (p : Addr × Obj) (z : XC), XHand T z p → (A.deeper (envOfC d.qual d.scope s.heap.objs.size (He.fAd T.K d.at_) cdv)).handled = some (.ref z.a) → z.c = cn → RGH k (A.deeper (envOfC d.qual d.scope s.heap.objs.size (He.fAd T.K d.at_) cdv)) →
      ISs (T.at (some z)) E00 (cxP P w T.K mg base N d.qual d.scope (He.fAd T.K d.at_) cdv A outer s H p) d.body body) : OkP T P w mg base (k + 1) d [x] cn (fnM N.length body) := by
  refine ⟨fd, F, ?_⟩
  obtain ⟨oc, od, dV, kV, doc, pm, an, cdv, ct, osl, rfl, lk, hcd, _, _⟩ := F.ex
  constructor
  intro A below s H ar Q p z fs w0 S hr hp hx hA hcn env0 hbd wr hz hm
  have inK : T.K.In s.heap := env0.mod.kin.keeps fun b o q => (env0.bs b o q).1
  have noLim : s.heap.NoLimit := env0.mod.nolimit.keeps fun b o q => (env0.bs b o q).1
  have kinds : ∀ z ∈ [x].zip [Value.ref p.1], d.scope.names.lookup z.1 = some .local ∨ (d.scope.names.lookup z.1 = some .cell ∧ ((cellsFrom (s.heap.objs.size + 1) d.scope.names []).lookup z.1).isSome = true) := by
    rintro ⟨n, v⟩ hz
    rcases Sc.par n (List.of_mem_zip hz).1 with k1 | k1
    · exact Or.inl k1
    · exact Or.inr ⟨k1, PySem.W.cellsFrom_some _ _ _ (Or.inl k1)⟩
  refine codeAny_call_function hr.rm.depth (inK _ _ lk) rfl Sc.co Sc.gen rfl (PySem.W.codeRec_of inK hcd) (hbd _ _ _ _ ?_)
  refine wpAny_newFunctionEnv_cells Sc.kind kinds fun en hen st hx2 => ?_
  subst hen
  have rv : Vals [V.ref p.1] [Value.ref p.1] := .cons rfl .nil
  have J0 : Inv (cxP P w T.K mg base N d.qual d.scope (He.fAd T.K d.at_) cdv A below s H p) [] (L2.start N [V.ref p.1]) H st := inv_startH Sc hp env0 rfl rv hx2
  have ends : tIs (T.at (some z)) E00 body { nx := fun _ H' => Q .non H', rt := Q } (L2.start N [V.ref p.1]) H := by
    have px : Reps (T.at (some z)) w0 [.thk 0 fs] [V.ref p.1] := by
      rw [hx.at_]
      exact .cons hz .nil
    refine ⟨w0, _, S, wr, er_start px, (RP.bnd hm).mono (fun c S1 h1 => ?_) fun _ _ _ z => z⟩
    cases c with
    | rt d => exact h1
    | nx e => exact fun w' H' σ' l r' q' => h1 w' H' .non l r' .non
    | bk e => exact (show False from h1).elim
    | ct e => exact (show False from h1).elim
  refine ⟨noLim.keeps hx2.toInCall.keep, codeAny_func (wpAny_mono ((h cdv A below s H p z hx hA hcn (hr.deeper _)).run [] st (L2.start N [V.ref p.1]) H _ J0 ends) (fun fl st' hs => ?_) fun e st' hs => hs)⟩
  cases fl with
  | ret u =>
    obtain ⟨v, _, H', J, r1, q⟩ := hs
    exact ⟨v, H', J.os, J.bare, J.base, J.hok, r1, q⟩
  | next =>
    obtain ⟨_, H', J, q⟩ := hs
    exact ⟨V.non, H', J.os, J.bare, J.base, J.hok, rfl, q⟩
  | brk => exact hs.elim fun _ z => z.elim fun _ z => z.2.elim
  | cont => exact hs.elim fun _ z => z.elim fun _ z => z.2.elim
/-- the value is the exception in hand -/
def isHand : D → Bool
  | .thk 0 _ => true
  | _ => false
theorem hand_rep {w : Wd} {z : XC} {d : D} {x : V} (h : isHand d = true) (r : Rep (T.at (some z)) w d x) : ∃ fs, d = .thk 0 fs ∧ x = .ref z.a := by
  unfold isHand at h
  split at h
  · cases r with
    | xc0 q1 q2 => cases q1; exact ⟨_, rfl, rfl⟩
    | xc1 q1 q2 q3 q4 q5 => cases q1; exact ⟨_, rfl, rfl⟩
  · cases h
theorem hand_inv {w : Wd} {z : XC} {fs : List D} {v : V} (r : Rep (T.at (some z)) w (.thk 0 fs) v) : v = .ref z.a ∧ ((z.dx = none ∧ fs = []) ∨ ∃ dd gs, z.dx = some dd ∧ w.G dd = some (.xd gs) ∧ (∀ f ∈ T.cf z.c, ∃ v, gs.lookup (Str.ofString f) = some v) ∧ Reps (T.at (some z)) w fs ((T.cf z.c).map fun f : String => (gs.lookup (Str.ofString f)).getD .non)) := by
  cases r with
  | xc0 q1 q2 => cases q1; exact ⟨rfl, .inl ⟨q2, rfl⟩⟩
  | xc1 q1 q2 q3 q4 q5 => cases q1; exact ⟨rfl, .inr ⟨_, _, q2, q3, q4, q5⟩⟩
/-- a call that hands it on -/
def eFnP (m : Fn) (f : EX) : EX := fun env S => (f env S).bnd fun x S1 => if isHand x then m [x] S1 else .bad
theorem ie_fnP {k : Nat} {d : He.DefD} {x y : Str} {q : Pos} {p : Addr × Obj} {z : XC} {cn : String} {m : Fn} (hp : p ∈ X.pn) (hx : XHand T z p) (hA : X.A.handled = some (.ref z.a)) (hcn : z.c = cn) (F : OkP T X.prog X.w X.mg X.base k d [y] cn m) (hK : X.K = T.K) (hr : RGH k X.A) (hg : Gl X x) (hm : X.mg x = some (.ref (He.fAd T.K d.at_)))
    (hb : ∀ fd, FunD T.K d.name d.qual d.params d.body d.scope (d.dvs T.K) [] (He.fAd T.K d.at_) fd → L2.Binds T.K fd [y] []) (tk : L2N.Takes X fun c d _ H => E00 c d H) (ha : IE (T.at (some z)) E00 X a f) (hdb : (x == ("__debug__" : Str)) = false := by decide +kernel)
    (he : starEach [a] X.env = (false, eval a X.env) :: starEach [] X.env := by rfl) (hpl : (backTo pos (starEach [] X.env)).any (·.1) = false := by rfl) :
    IE (T.at (some z)) E00 X (.Call (.Name x q) [a] [] pos) (eFnP m f) := by
  obtain ⟨fd, FD, FO⟩ := F.ex
  refine ⟨fun pins s σ H Q I h => ?_⟩
  obtain ⟨w, env, S, r, e, qq⟩ := h
  refine wpAny_Call_Name_kw (ld_glob I hg hm ?_ hdb)
  have hone : PA X [a] (tIa (T.at (some z)) E00 (aCons f aNil)) := ia_cons ha ia_nil he
  refine PySem.W.callWith_K (h₀ := X.base) I.ok.mod.kin (by rw [hK]; exact FD.kp) (thn (hone.run pos pins s σ H (fun vs H1 => ∃ w1 S1 fs, w.le w1 ∧ vs = [.ref z.a] ∧ WR (T.at (some z)) w1 S1 H1 ∧ Rep (T.at (some z)) w1 (.thk 0 fs) (.ref z.a) ∧ RP (m [.thk 0 fs] S1) (Pk (T.at (some z)) w1 Q) (XW (T.at (some z)) w1 E00)) I ⟨w, env, S, r, e, ?_⟩) fun us s1 ⟨vs, H1, I1, rv, w1, S1, fs, l1, ev, r1, z1, q1⟩ => ⟨I1.kIn, ?_⟩) he hpl
  · show RP ((f env S).bnd fun x S1 => (aNil env S1).bnd fun xs S2 => .ok (x :: xs) S2) _ _
    have qq : RP ((f env S).bnd fun x S1 => if isHand x then m [x] S1 else .bad) (Pk (T.at (some z)) w Q) (XW (T.at (some z)) w E00) := qq
    cases zz : f env S with
    | ok x S1 =>
      rw [zz] at qq
      rw [bnd_ok] at qq ⊢
      show ∀ w' H' vs, w.le w' → WR (T.at (some z)) w' S1 H' → Reps (T.at (some z)) w' [x] vs → _
      intro w' H' vs l r' rx
      by_cases hh : isHand x = true
      · rw [if_pos hh] at qq
        cases rx with
        | cons q1 q2 =>
          cases q2
          obtain ⟨fs, rfl, rfl⟩ := hand_rep hh q1
          exact ⟨w', S1, fs, l, rfl, r', q1, qq.mono (fun d S' q w2 H2 v l2 => q w2 H2 v (l.trans l2)) fun _ _ _ x => x.le l⟩
      · rw [if_neg hh] at qq
        exact qq.elim
    | err c fs S1 => rw [zz] at qq; exact qq
    | bad => rw [zz] at qq; exact qq.elim
  · subst ev
    have rv' := rv
    cases rv' with
    | cons ru rn =>
      cases rn
      rename_i u us'
      obtain rfl : u = Value.ref z.a := ru
      have P1 := I1.pin p (List.mem_append_left _ hp)
      have hpin : PinOk X.stack H1 s1 p := ⟨P1.1, P1.2.1, fun hm => (List.mem_cons.mp (I1.stkSub p.1 hm)).elim P1.2.2.1 P1.2.2.2.1, P1.2.2.2.2⟩
      have bt := hb fd FD s1 [.ref z.a] (by rw [← hK]; exact I1.kIn) rfl
      have env0 : Env0 X.prog X.w T.K X.mg X.base X.A X.stack s1 H1 := by rw [← hK]; exact I1.env0
      refine wpAny_call (codeAny_mono (FO.run X.A X.stack s1 H1 ⟨[.ref z.a], []⟩ Q p z fs w1 S1 hr hpin hx hA hcn env0 (by rw [hx.at_]; exact bt) r1 z1 q1) fun r s' hq => ?_)
      cases r with
      | error e => exact L2N.passes_call tk (fun _ _ _ _ h => h) pins σ H1 s1 e s' I1 hq
      | ok fl =>
        cases fl with
        | ret u => exact I1.after hq
        | next => exact False.elim hq
        | brk => exact False.elim hq
        | cont => exact False.elim hq
/-- isinstance(e, c) where the class says b -/
def eIsX (b : Bool) (f : EX) : EX := fun env S => (f env S).bnd fun x S1 => if isHand x then .ok (.bl b) S1 else .bad
def rIsX (T : Tb) (K : PySem.W.Frag) (z : XC) (cv : Value) (b : Bool) : List V → Hp → VK → Prop := fun xs H Q => ∃ (c : V) (w : Wd) (S : Store) (fs : List D), xs = [.ref z.a, c] ∧ (∀ u, RelV c u → u = cv) ∧ WR (T.at (some z)) w S H ∧ Rep (T.at (some z)) w (.thk 0 fs) (.ref z.a) ∧ Q (.bl b) H
theorem call_isX {p : Addr × Obj} {z : XC} {cv : Value} {b : Bool} (hp : p ∈ X.pn) (hx : XHand T z p) (hK : X.K = T.K) (C : ExC T.K (He.ga T.K (z.c : Str))) (hk : PySem.W.kitOne T.K (.ref (He.ga T.K (z.c : Str))) cv = some b) : CallR X (.builtin "isinstance") (rIsX T X.K z cv b) := by
  intro pins s σ H xs us Q I r h
  obtain ⟨c, w, S, fs, rfl, hcv, wr, hz, q⟩ := h
  cases r with
  | cons rx rr =>
    cases rr with
    | cons rt rr =>
      cases rr
      cases rx
      have ec := hcv _ rt
      subst ec
      obtain ⟨hget, _⟩ := I.pin p (List.mem_append_left _ hp)
      obtain ⟨vs, hv⟩ := hx.fl
      obtain ⟨hz1, hz2⟩ := hx.zc
      have J : ∃ od, PySem.W.InstAt s.heap z.a p.2 (He.ga T.K (z.c : Str)) od := by
        rw [hx.at_] at hget
        have nc : PySem.W.notCls p.2 = true := by unfold PySem.W.notCls; rw [hv] <;> rfl
        cases hd : z.dx with
        | none => exact ⟨none, hget, hz1, nc, by rw [hz2, hd]; trivial⟩
        | some dd =>
          rcases (hand_inv hz).2 with ⟨q2, _⟩ | ⟨d2, gs, q2, q3, _⟩
          · rw [hd] at q2; cases q2
          · rw [hd] at q2
            cases q2
            obtain ⟨o, ho⟩ := objOk_get (I.hok _ _ (wr.sub _ _ q3))
            exact ⟨some o, hget, hz1, nc, by rw [hz2, hd]; exact ho⟩
      obtain ⟨od, J⟩ := J
      obtain ⟨gt, hgt⟩ := C.gt
      exact PySem.W.kia_one (PySem.W.kitx_exc (od := od) C.cl C.ga hgt C.sb C.ca C.sp C.tk C.mr) (by rw [← hK]; exact I.kIn) J hk (fun y => nomatch y) fun tk => ⟨.bl b, H, I.kept (t' := tk) fun _ _ y => y, rfl, q⟩
theorem ie_isX {q : Pos} {p : Addr × Obj} {z : XC} {Tt : Ty} {k : Bool} (hp : p ∈ X.pn) (hx : XHand T z p) (hK : X.K = T.K) (C : ExC T.K (He.ga T.K (z.c : Str))) (hk : PySem.W.kitOne T.K (.ref (He.ga T.K (z.c : Str))) (tyV' T.K Tt) = some k) (hg : Gl X "isinstance") (hn : X.mg "isinstance" = none)
    (ha : IE (T.at (some z)) E00 X a f) (hb : IsTyE T X b Tt) (he : starEach (a :: [b]) X.env = (false, eval a X.env) :: starEach [b] X.env := by rfl) (hpl : (backTo pos (starEach [b] X.env)).any (·.1) = false := by rfl) (he2 : starEach [b] X.env = (false, eval b X.env) :: starEach [] X.env := by rfl) :
    IE (T.at (some z)) E00 X (.Call (.Name "isinstance" q) [a, b] [] pos) (eIsX k f) :=
  PE.mono (pe_callB (call_isX hp hx hK C hk) hg hn (by decide +kernel) (pa_cons ha (pa_cons hb pa_nil he2) he) (by decide +kernel) (by decide +kernel) he hpl) fun σ H Q ⟨w, env, S, r, e, qq⟩ => ⟨w, env, S, r, e, (RP.bnd qq).mono (fun d S1 h1 w1 H1 x l1 r1 p1 => by
    by_cases hh : isHand d = true
    · rw [if_pos hh] at h1
      obtain ⟨fs, rfl, rfl⟩ := hand_rep hh p1
      refine ⟨_, w1, S1, fs, rfl, ?_, r1, p1, h1 w1 H1 _ l1 r1 (.bl _)⟩
      cases Tt with
      | b n => exact fun u hu => hu
      | o c => exact fun u hu => hu
    · rw [if_neg hh] at h1
      exact (show False from h1).elim) fun _ _ _ x => x⟩
end Ro
end
section
set_option Elab.async false
set_option linter.all false
set_option maxRecDepth 100000
set_option maxHeartbeats 4000000
namespace Ro
open PySem PySem.Spec PyProof.Rows L2
variable {T : Tb} {E : XK} {X : Cx} {a b c e : Expr} {es : List Expr} {f g h : EX} {fa ga fk : AX} {pos : Pos}
theorem toPys_map : ∀ l : List D, toPys l = l.map toPy
  | [] => rfl
  | x :: l => by rw [List.map_cons, ← toPys_map l]; rfl
/-- data that the lists' methods look at -/
def shpL (l : List D) (y : D) : Bool := l.all (plN 8) && (plN 8 y && (SeqAt.shaped (.list (toPys l)) && SeqAt.shaped (toPy y)))
def idxOfD (x y : D) : Option D := match x with
  | .lst l => if shpL l y then (l.findIdx? fun z => pyEq z y).map fun j => .int (j : Nat) else none
  | _ => none
def cntD (x y : D) : Option D := match x with
  | .lst l => if shpL l y then some (.int (l.countP fun z => pyEq z y : Nat)) else none
  | _ => none
/-- a method's promise by what it does to values -/
def rMD (T : Tb) (op : D → D → Option D) : V → List V → Hp → VK → Prop := fun x xs H Q => ∃ w d e r S y, xs = [y] ∧ WR T w S H ∧ Rep T w d x ∧ Rep T w e y ∧ op d e = some r ∧ ∀ w' H' z, w.le w' → WR T w' S H' → Rep T w' r z → Q z H'
theorem eqv_at {l : List D} {y : D} (h1 : l.all (plN 8) = true) (h2 : plN 8 y = true) {m : Nat} {z : PyData} (h : (toPys l)[m]? = some z) : ∃ d, l[m]? = some d ∧ PyData.eqv z (toPy y) = pyEq d y := by
  rw [toPys_map, List.getElem?_map] at h
  cases e : l[m]? with
  | none => rw [e] at h; cases h
  | some d =>
    rw [e] at h
    cases h
    exact ⟨d, rfl, eqv_py 8 d y (List.all_eq_true.mp h1 d (List.mem_of_getElem? e)) h2⟩
theorem mt_idxD (hK : X.K = T.K) (hu : X.A.units + 65 < cLine) : MtR X "list.index" (rMD T idxOfD) := fun pins s σ H x xs v us Q I rx rxs h => by
  obtain ⟨w, d, e, r, S, y, rfl, wr, p1, p2, hop, q⟩ := h
  unfold idxOfD at hop
  split at hop
  · rename_i l
    split at hop
    · rename_i hs
      unfold shpL at hs
      simp only [Bool.and_eq_true] at hs
      obtain ⟨h1, h2, h3, h4⟩ := hs
      cases hj : l.findIdx? fun z => pyEq z e with
      | none => rw [hj] at hop; cases hop
      | some j =>
        rw [hj] at hop
        cases hop
        obtain ⟨hlt, e1, e2⟩ := List.findIdx?_eq_some_iff_getElem.mp hj
        have hD : Dp X.K H x (.list (toPys l)) := by rw [hK]; exact dp_of wr 9 (.lst l) x h1 p1
        have hE : Dp X.K H y (toPy e) := by rw [hK]; exact dp_of wr 8 e y h2 p2
        cases p1 with
        | lst q1 q2 =>
          have hg : (toPys l)[j]? = some (toPy l[j]) := by rw [toPys_map, List.getElem?_map, List.getElem?_eq_getElem hlt]; rfl
          refine mt_indexD hu pins s σ H _ _ v us Q I rx rxs ⟨_, y, toPy e, toPys l, j, toPy l[j], rfl, rfl, hD, hE, h3, h4, hg, ?_, fun m z' hm hz => ?_, q w H _ (Wd.le.refl _) wr (.int _)⟩
          · rw [eqv_py 8 _ e (List.all_eq_true.mp h1 _ (List.getElem_mem hlt)) h2]
            exact e1
          · obtain ⟨d', k1, k2⟩ := eqv_at h1 h2 hz
            rw [k2]
            have := e2 m hm
            obtain ⟨_, k3⟩ := List.getElem?_eq_some_iff.mp k1
            rw [← k3]
            simpa using this
    · cases hop
  · cases hop
theorem mt_cntD (hK : X.K = T.K) (hu : X.A.units + 65 < cLine) : MtR X "list.count" (rMD T cntD) := fun pins s σ H x xs v us Q I rx rxs h => by
  obtain ⟨w, d, e, r, S, y, rfl, wr, p1, p2, hop, q⟩ := h
  unfold cntD at hop
  split at hop
  · rename_i l
    split at hop
    · rename_i hs
      unfold shpL at hs
      simp only [Bool.and_eq_true] at hs
      obtain ⟨h1, h2, h3, h4⟩ := hs
      cases hop
      have hE : Dp X.K H y (toPy e) := by rw [hK]; exact dp_of wr 8 e y h2 p2
      cases p1 with
      | @lst _ a vs q1 q2 =>
        cases rx
        cases rxs with
        | cons ry rt =>
          rename_i uy ut
          cases rt
          have hA : DpAll X.K H vs (toPys l) := by rw [hK]; exact dpAll_of wr 8 l vs h1 q2
          obtain ⟨bs, r1⟩ := Dp.reads I (toPy e) y uy hE ry
          have hxs : PyData.canLayAll0 (toPys l) = true := SeqAt.canLay_of_shaped h3
          obtain ⟨its, rv, ⟨⟨cls, dd, data, sls⟩, n, ho, hc, hdn, hdt⟩, hlen⟩ := I.list (show SqL X.K H a vs from .inl (.inl (wr.sub _ _ q1)))
          simp only at hc hdt
          subst hc hdt
          obtain ⟨as, k4⟩ := Dp.readsAll I (toPys l) _ its hA rv
          have hroom : X.A.units + 1 + min (PyData.depthAll (toPys l)) (toPy e).depth < cLine := room_in_shaped h4 hu
          have hmap : its.map (SeqAt.readOf s.heap) = toPys l := SeqAt.readsAll_map (toPys l) its as hxs k4
          have hcnt : its.toArray.toList.countP (fun u => PyData.eqv (SeqAt.readOf s.heap u) (toPy e)) = l.countP fun z => pyEq z e := by
            have e1 : its.countP (fun u => PyData.eqv (SeqAt.readOf s.heap u) (toPy e)) = (its.map (SeqAt.readOf s.heap)).countP fun z => PyData.eqv z (toPy e) := by rw [List.countP_map]; rfl
            show its.countP _ = _
            rw [e1, hmap, toPys_map, List.countP_map]
            refine List.countP_congr fun d hd => ?_
            show PyData.eqv (toPy d) (toPy e) = true ↔ _
            rw [eqv_py 8 d e (List.all_eq_true.mp h1 d hd) h2]
          refine call_meets PySem.F.slot_list_count ⟨_, ho, rfl⟩ PySem.F.entry_list_count (PySem.F.args_list_count_2 _ _)
            (SeqAt.list_countAt a its.toArray n dd sls uy fun u => PyData.eqv (SeqAt.readOf s.heap u) (toPy e)) ⟨ho, SeqAt.items_eqAt (vs := its.toArray) (show ReadsAll s.heap its.toArray.toList (toPys l) as from k4) r1 hxs (SeqAt.canLay_of_shaped h4) hroom, ?_⟩
          refine ⟨.int (l.countP fun z => pyEq z e : Nat), H, I.tok _, ⟨s.toks, ?_⟩, q w H _ (Wd.le.refl _) wr (.int _)⟩
          rw [hcnt]
    · cases hop
  · cases hop
/-- o.m(x) by values -/
def eM1 (tn : String) (op : D → D → Option D) (a b : EX) : EX := fun env S => (a env S).bnd fun x S1 => if tyD x S1 = some (.b tn) then (b env S1).bnd fun y S2 => lift (op x y) S2 else .bad
theorem ie_index {apos : Pos} (hK : X.K = T.K) (hu : X.A.units + 65 < cLine) (ho : IE T E X a f) (hb : IE T E X b g) (hbase : attributeBase a "index" X.env (eval a X.env) = eval a X.env := by rfl)
    (hfew : ((backTo pos (starEach [b] X.env)).all (fun x => !x.1) && (backToKw pos (keywordEach [] X.env)).all (fun x => x.1.isSome)
      && decide (([b]).length + ([] : List Keyword).length + (if ([] : List Keyword).isEmpty then 0 else 1) < 30)) = true := by rfl)
    (hline : (apos.endLine == pos.line) = true := by rfl) (hs : starEach [b] X.env = (false, eval b X.env) :: starEach [] X.env := by rfl) (hpl : (backTo pos (starEach [] X.env)).any (·.1) = false := by rfl) :
    IE T E X (.Call (.Attribute a "index" apos) [b] [] pos) (eM1 "list" idxOfD f g) :=
  PE.mono (pe_bm PySem.F.plainAttrs_list PySem.F.slot_list_index PySem.F.type_list_index (mt_idxD hK hu) ho (pa_cons hb pa_nil hs) hbase hfew hline hs hpl) fun σ H Q ⟨w, env, S, r, e, q⟩ => ⟨w, env, S, r, e, (RP.bnd q).mono (fun d S1 h1 w1 H1 x l1 r1 p1 => by
    by_cases ht : tyD d S1 = some (.b "list")
    · rw [if_pos ht] at h1
      refine ⟨by rw [hK]; exact tyV_list r1 p1 ht, w1, env, S1, r1, e.mono l1, (RP.bnd h1).mono (fun y S2 h2 w2 H2 yv l2 r2 p2 => ?_) fun _ _ _ x => x.le l1⟩
      cases z : idxOfD d y with
      | none => rw [z] at h2; exact (show False from h2).elim
      | some v =>
        rw [z] at h2
        exact ⟨w2, d, y, v, S2, yv, rfl, r2, p1.mono l2, p2, z, fun w3 H3 u l3 => h2 w3 H3 u ((l1.trans l2).trans l3)⟩
    · rw [if_neg ht] at h1
      exact (show False from h1).elim) fun _ _ _ x => x⟩
theorem ie_count {apos : Pos} (hK : X.K = T.K) (hu : X.A.units + 65 < cLine) (ho : IE T E X a f) (hb : IE T E X b g) (hbase : attributeBase a "count" X.env (eval a X.env) = eval a X.env := by rfl)
    (hfew : ((backTo pos (starEach [b] X.env)).all (fun x => !x.1) && (backToKw pos (keywordEach [] X.env)).all (fun x => x.1.isSome)
      && decide (([b]).length + ([] : List Keyword).length + (if ([] : List Keyword).isEmpty then 0 else 1) < 30)) = true := by rfl)
    (hline : (apos.endLine == pos.line) = true := by rfl) (hs : starEach [b] X.env = (false, eval b X.env) :: starEach [] X.env := by rfl) (hpl : (backTo pos (starEach [] X.env)).any (·.1) = false := by rfl) :
    IE T E X (.Call (.Attribute a "count" apos) [b] [] pos) (eM1 "list" cntD f g) :=
  PE.mono (pe_bm PySem.F.plainAttrs_list PySem.F.slot_list_count PySem.F.type_list_count (mt_cntD hK hu) ho (pa_cons hb pa_nil hs) hbase hfew hline hs hpl) fun σ H Q ⟨w, env, S, r, e, q⟩ => ⟨w, env, S, r, e, (RP.bnd q).mono (fun d S1 h1 w1 H1 x l1 r1 p1 => by
    by_cases ht : tyD d S1 = some (.b "list")
    · rw [if_pos ht] at h1
      refine ⟨by rw [hK]; exact tyV_list r1 p1 ht, w1, env, S1, r1, e.mono l1, (RP.bnd h1).mono (fun y S2 h2 w2 H2 yv l2 r2 p2 => ?_) fun _ _ _ x => x.le l1⟩
      cases z : cntD d y with
      | none => rw [z] at h2; exact (show False from h2).elim
      | some v =>
        rw [z] at h2
        exact ⟨w2, d, y, v, S2, yv, rfl, r2, p1.mono l2, p2, z, fun w3 H3 u l3 => h2 w3 H3 u ((l1.trans l2).trans l3)⟩
    · rw [if_neg ht] at h1
      exact (show False from h1).elim) fun _ _ _ x => x⟩
end Ro
end
section
set_option Elab.async false
set_option linter.all false
set_option maxRecDepth 100000
set_option maxHeartbeats 4000000
namespace Ro
open PySem PySem.Spec PyProof.Rows L2
/-- the ends of a clause's suite: the name goes -/
def offN (i : Nat) (D : Ends) : Ends := { nx := fun σ' H' => D.nx (σ'.set i none) H', rt := D.rt, bk := fun σ' H' => D.bk (σ'.set i none) H', ct := fun σ' H' => D.ct (σ'.set i none) H' }
end Ro
end
section
set_option Elab.async false
set_option linter.all false
set_option maxRecDepth 100000
set_option maxHeartbeats 4000000
namespace Ro
open PySem PySem.Spec PyProof.Rows L2 LamX
/-- the context of a lambda's body, of exceptions whose context is None -/
abbrev lamN (X : Cx) (A : Around) (outer : List PySem.Env) (s : Shared) (H : Hp) (E : XK) (scope : Scope) (f c' : Addr) : Cx :=
  (lamCx X A outer s H E scope f c').tr [] (fun e s' => wpAny (model X.prog X.w) (A.deeper (lamEnv X scope s.heap.objs.size f c')) (leaving (lamEnv X scope s.heap.objs.size f c') e) (fun _ s'' => L2N.CX X.prog X.w outer H s E e s'') (fun e' s'' => L2N.CX X.prog X.w outer H s E e' s'') s')
section
variable {X : Cx} {pins : List (Addr × Obj)} {σ : L2.St} {H HZ : Hp} {s s1 : Shared}
/-- a() in the def that was handed the lambda -/
theorem act_of {Eg : XK} {Ng : List Str} {qg : Str} {sg : Scope} {g f c' : Addr} {cdg pm ctv : Value} {params : Arguments} {body : Expr} {scope : Scope} {k i : Nat} {a : Str} {pn : List (Addr × Obj)} {xe : Value → Shared → Prop} {W : WX} {E : XK} {tb : TE} {p1 p2 : Pos}
    (I : Inv X pins σ H s) (L : LamS X.env.scope scope) (hf : s.heap.get? f = some (PySem.W.kla_obj "<lambda>" (X.env.qual ++ "<lambda>") params body scope (cloFrom X.env.cells scope.names []) pm c' ctv)) (hfn : H f = none) (hfr : f ∉ frs X.stack)
    (hbind : bindArgs (PySem.W.kla_fn "<lambda>" (X.env.qual ++ "<lambda>") params body scope (cloFrom X.env.cells scope.names []) pm (.ref c') ctv) ⟨[], []⟩ = pure [])
    (tk : L2N.Takes ((cxOf (L2N.CX X.prog X.w) X.prog X.w X.K X.mg X.base Ng qg sg g cdg X.A X.stack s H Eg).tr pn xe) W) (hW : ∀ cls d σ' H', E cls d H' → W cls d σ' H') (hr : RG (k + 1) (X.A.deeper (envOfC qg sg s.heap.objs.size g cdg)))
    (hbody : ∀ (A : Around) (outer : List PySem.Env) (s : Shared) (H : Hp), RG k (A.deeper (lamEnv X scope s.heap.objs.size f c')) → PE (lamN X A outer s H E scope f c') body tb)
    (hN : Ng[i]? = some a) (hv : Vis sg a) (hd : (a == ("__debug__" : Str)) = false) (hcd : (a == ("__classdict__" : Str)) = false) :
    PE ((cxOf (L2N.CX X.prog X.w) X.prog X.w X.K X.mg X.base Ng qg sg g cdg X.A X.stack s H Eg).tr pn xe) (.Call (.Name a p1) [] [] p2)
      (fun σZ HZ Q => σZ[i]? = some (some (.ref f)) ∧ HZ c' = some (CodeO c' (X.env.qual ++ "<lambda>")) ∧ tb σ HZ Q) := by
  constructor
  intro pinsZ sZ σZ HZ Q IZ ⟨hs, hc, ht⟩
  refine wpAny_Call_Name_kw (thn ((pe_var (pos := p1) (i := i) hN hv hd hcd).run pinsZ sZ σZ HZ (fun v H1 => v = .ref f ∧ H1 = HZ) IZ ⟨.ref f, hs, rfl, rfl⟩) fun u s1 ⟨v, H1, I1, r1, q1⟩ => ?_)
  obtain ⟨rfl, rfl⟩ := q1
  obtain rfl : u = Value.ref f := r1
  have still : s1.heap.get? f = some (PySem.W.kla_obj "<lambda>" (X.env.qual ++ "<lambda>") params body scope (cloFrom X.env.cells scope.names []) pm c' ctv) := I1.base.keep f _ hf hfn hfr (fun y => nomatch (show f ∈ ([] : List Addr) from y))
  refine PySem.W.callWith_F0 ⟨_, _, _, _, still⟩ ?_
  have kept : Un (frs X.stack) [] H H1 s.heap s1.heap := I1.base
  obtain ⟨⟨oc, vs, t, hoc, hdc, hvc⟩, _, _⟩ := I1.hok c' _ hc
  have ran : codeAny (model X.prog X.w) (X.A.deeper (envOfC qg sg s.heap.objs.size g cdg)) (.call (.ref f) ⟨[], []⟩) (CR (L2N.CX X.prog X.w) (envOfC qg sg s.heap.objs.size g cdg :: X.stack) X.prog X.w H1 s1 Q E) s1 := by
    refine PySem.W.kla_callFunE hr.rm.depth still rfl L.co L.gen rfl ⟨c', oc, vs, t, rfl, hoc, hdc, hvc⟩ ?_
    rw [hbind]
    refine wpAny_pure (wpAny_newFunctionEnv (fun y hy => (L.own y hy).2) (fun y hy => absurd hy (by simp)) (fun h1 hns hsb => ⟨I1.nolimit.fresh _ hsb, ?_⟩) L.kind)
    show codeAny _ _ (.expr body (lamEnv X scope s1.heap.objs.size f c')) _ _
    have grow : ∀ b o, s1.heap.get? b = some o → h1.get? b = some o := fun b o e => hsb.extBut b o (Nat.ne_of_lt (Heap.lt_size e)) (Heap.get?_push_of_some _ e)
    have J : Inv (lamN X (X.A.deeper (envOfC qg sg s.heap.objs.size g cdg)) (envOfC qg sg s.heap.objs.size g cdg :: X.stack) s1 H1 E scope f c') [] σ H1 { s1 with heap := h1, toks := s1.toks + ([] : List (Str × Value)).length } :=
      (lam_start2 (E := E) I L I1.env0 hr.rm.hd kept hns grow).toTry _
    refine PySem.W.kla_codeExpr (wpAny_mono ((hbody _ _ s1 H1 (hr.deeper _)).run [] _ _ H1 Q J ht) (fun v s' hq => ?_) fun e s' hq => hq)
    obtain ⟨w', H', J', rv, q⟩ := hq
    exact ⟨w', H', J'.os, J'.bare, J'.base, J'.hok, rv, q⟩
  have out : Passes (L2N.CX X.prog X.w) ((cxOf (L2N.CX X.prog X.w) X.prog X.w X.K X.mg X.base Ng qg sg g cdg X.A X.stack s H Eg).tr pn xe) E := L2N.passes_call tk hW
  refine wpAny_call (codeAny_mono ran fun r s' hq => ?_)
  match r, hq with
  | .error e, hq => exact out pinsZ σZ H1 s1 e s' I1 hq
  | .ok (.ret u), hq => exact I1.after hq
end
/-- a def that calls what it is handed: TT is what it makes of the lambda's reading -/
def Makes (X : Cx) (k : Nat) (Ng : List Str) (qg : Str) (sg : Scope) (g : Addr) (cdg : Value) (bg : List Stmt) (a : Str) (TT : (XK → Hp → VK → Prop) → Hp → VK → Prop) : Prop :=
  ∀ (f c' : Addr) (s : Shared) (H : Hp) (Q : VK) (q : Str) (tl : XK → Hp → VK → Prop), RG k (X.A.deeper (envOfC qg sg s.heap.objs.size g cdg)) →
    (∀ (W : WX) (pn : List (Addr × Obj)) (xe : Value → Shared → Prop) (E : XK) (p1 p2 : Pos), L2N.Takes ((cxOf (L2N.CX X.prog X.w) X.prog X.w X.K X.mg X.base Ng qg sg g cdg X.A X.stack s H E00).tr pn xe) W → (∀ cls d σ' H', E cls d H' → W cls d σ' H') →
      PE ((cxOf (L2N.CX X.prog X.w) X.prog X.w X.K X.mg X.base Ng qg sg g cdg X.A X.stack s H E00).tr pn xe) (.Call (.Name a p1) [] [] p2) (fun σZ HZ Q => σZ[0]? = some (some (.ref f)) ∧ HZ c' = some (CodeO c' q) ∧ tl E HZ Q)) →
    H c' = some (CodeO c' q) → TT tl H Q →
    ∃ t, PSs (cxOf (L2N.CX X.prog X.w) X.prog X.w X.K X.mg X.base Ng qg sg g cdg X.A X.stack s H E00) bg t ∧ t { nx := fun _ H' => Q .non H', rt := Q } (L2.start Ng [.ref f]) H
section
variable {X : Cx}
/-- x(lambda: body) -/
theorem lam_call {Ts : List (Addr × Str)} {TT : (XK → Hp → VK → Prop) → Hp → VK → Prop} {x a qg : Str} {g c P : Addr} {k : Nat} {pg : Arguments} {bg : List Stmt} {sg : Scope} {dV kV doc pm cdv ct oc : Value} {an od : Option Addr} {osl : Array (Option Value)} {Ng : List Str}
    {params : Arguments} {body : Expr} {scope : Scope} {t : XK → TE} {p lpos pos : Pos} (hg : Gl X x) (hm : X.mg x = some (.ref g)) (hk : PySem.W.keepIn X.K (.ref g) = true)
    (lk : X.K.lookup g = some ⟨oc, od, .func (PySem.W.fnOf x qg pg bg sg dV kV doc pm an cdv ct), osl⟩) (hcg : PySem.W.codeIn X.K cdv qg = true) (hb : L2.Binds X.K (PySem.W.fnOf x qg pg bg sg dV kV doc pm an cdv ct) [a] []) (Sg : FnScope Ng [a] sg) (hNg : Ng[0]? = some a) (hva : Vis sg a)
    (hG : Makes X (k + 1) Ng qg sg g cdv bg a TT)
    (TB : TabB X.base X.mg c P) (hcode : X.env.code = .ref c) (hmT : (P, X.env.qual ++ "<lambda>") ∈ Ts) (hu : ∀ p ∈ Ts, p.1 = P → p.2 = X.env.qual ++ "<lambda>") (hr : RG (k + 2) X.A) (L : LamS X.env.scope scope) (hdef : defaultsOf params X.env = ([], []))
    (hbind : ∀ (q : Str) (cl : List (Str × Addr)) (pm cv ctv : Value), bindArgs (PySem.W.kla_fn "<lambda>" q params body scope cl pm cv ctv) ⟨[], []⟩ = pure [])
    (hbody : ∀ (A : Around) (outer : List PySem.Env) (s : Shared) (H : Hp) (E : XK) (f c' : Addr), RG k (A.deeper (lamEnv X scope s.heap.objs.size f c')) → PE (lamN X A outer s H E scope f c') body (t E))
    (hx : L2N.Takes X fun _ _ _ _ => False) (hdb : (x == ("__debug__" : Str)) = false) (hd : (a == ("__debug__" : Str)) = false) (hcd : (a == ("__classdict__" : Str)) = false) :
    PE X (.Call (.Name x p) [.Lambda params body scope lpos] [] pos) (tLam Ts TT t) := by
  constructor
  intro pins s σ H Q I ⟨hT, h⟩
  refine wpAny_Call_Name_kw (ld_glob I hg hm ?_ hdb)
  refine PySem.W.callWith_K (h₀ := X.base) I.ok.mod.kin hk ?_ (by rfl) (by rfl)
  show wpAny _ _ (spliced ((false, eval (.Lambda params body scope lpos) X.env) :: backTo pos (starEach [] X.env))) _ _ s
  refine Calls.spliced_cons (lam_make2 I TB hcode hmT hu hT hdef (L.has I.ok) fun f c' pm' ctv H1 s' I1 eN T1 hf hfn hfr hco => ?_)
  refine Calls.spliced_nil ⟨I1.kIn, ?_⟩
  have ran : codeAny (model X.prog X.w) X.A (.call (.ref g) ⟨[.ref f], []⟩) (CR (L2N.CX X.prog X.w) X.stack X.prog X.w H1 s' Q E00) s' := by
    refine run_ofS (CX := L2N.CX X.prog X.w) (N := Ng) (ps := [a]) (us := [.ref f]) (vs := [.ref f]) lk hcg Sg hr.rm I1.env0 (hb s' [.ref f] I1.kIn rfl) (.cons rfl .nil) rfl fun _ => ?_
    exact hG f c' s' H1 Q (X.env.qual ++ "<lambda>") (fun E H' Q' => t E σ H' Q') (hr.deeper _) (fun W pn xe E p1 p2 tk hW => act_of (i := 0) I1 L hf hfn hfr (hbind _ _ _ _ _) tk hW (hr.deeper _) (fun A outer s H hr2 => hbody A outer s H E f c' hr2) hNg hva hd hcd) hco (h H1 eN T1)
  refine wpAny_call (codeAny_mono ran fun r s2 hq => ?_)
  match r, hq with
  | .error e, hq => exact L2N.passes_call hx (fun _ _ _ _ h => h) pins σ H1 s' e s2 I1 hq
  | .ok (.ret u), hq => exact I1.after hq
end
end Ro
end
section
set_option Elab.async false
set_option linter.all false
set_option maxRecDepth 100000
set_option maxHeartbeats 4000000
namespace Ro
open PySem PySem.Spec PyProof.Rows L2 LamX
variable {T : Tb} {E : XK} {X : Cx}
theorem lookup_none_ok {w : Wd} {S : Store} {H : Hp} {dd : Addr} {gs : List (Str × V)} (r : WR T w S H) (hd : H dd = some (.xd gs)) : ∃ w', w.le w' ∧ WR T w' S H ∧ w'.G dd = some (.xd gs) := by
  cases z : w.G dd with
  | some o =>
    have e := r.sub _ _ z
    rw [hd] at e
    cases e
    exact ⟨w, Wd.le.refl _, r, z⟩
  | none =>
    have l : w.le ⟨upd w.G dd (.xd gs), w.am, w.hid⟩ := ⟨⟨fun b u e => by show upd w.G dd (.xd gs) b = some u; rw [upd_ne (ne_of_none e z)]; exact e, [], by simp⟩, rfl⟩
    refine ⟨_, l, ⟨fun b u e => ?_, r.len, r.nd, r.has, fun m c1 b h1 h2 h3 => ?_, fun m c1 b h1 h2 => (r.cell m c1 b h1 h2).keep l.tosb fun _ e => e, r.tabs, r.hn, fun q hq => ?_, fun b ps e => ?_⟩, upd_same⟩
    · have e : upd w.G dd (.xd gs) b = some u := e
      by_cases h : b = dd
      · subst h
        rw [upd_same] at e
        rw [← e]
        exact hd
      · rw [upd_ne h] at e
        exact r.sub _ _ e
    · show upd w.G dd (.xd gs) b = none
      rw [upd_ne (fun y => ?_)]
      · exact r.out m c1 b h1 h2 h3
      · subst y
        have hc := r.cell m c1 _ h1 h2
        cases c1 with
        | dead => exact h3 rfl
        | lst l => obtain ⟨_, k1, _⟩ := hc; rw [hd] at k1; cases k1
        | dct l => obtain ⟨_, k1, _⟩ := hc; rw [hd] at k1; cases k1
        | ins c fs => obtain ⟨_, _, k1, _⟩ := hc; rw [hd] at k1; cases k1
        | dcT l => obtain ⟨_, k1, _⟩ := hc; rw [hd] at k1; cases k1
    · obtain ⟨y1, y2, us, y3, y4⟩ := r.hd q hq
      refine ⟨?_, y2, us, y3, y4.mono l⟩
      show upd w.G dd (.xd gs) q.1 = none
      rw [upd_ne (fun y => by rw [y, hd] at y3; cases y3)]
      exact y1
    · have e : upd w.G dd (.xd gs) b = some (.tbl ps) := e
      by_cases h : b = dd
      · rw [h, upd_same] at e
        cases e
      · rw [upd_ne h] at e
        exact r.nt b ps e
/-- what a clause's suite makes of the exception, by its class -/
def tsX (T : Tb) (sx : String → ES) (cns : List String) (a : Addr) (cls : Value) (d : Option Addr) : TS := fun D σ H => ∃ cn ∈ cns, cls = .ref (He.ga T.K (cn : Str)) ∧ tIs (T.at (some ⟨a, d, cn⟩)) E00 (sx cn) D σ H
theorem suite_of {sts : List Stmt} {sx : String → ES} {cns : List String} {a : Addr} {oe : Obj} {cls : Value} {d : Option Addr} {pn : List (Addr × Obj)} (hz : L2N.Zn cls d oe) (hf : ∃ vs, oe.data = .fields vs)
    (h : ∀ cn ∈ cns, ∀ (z : XC) (p : Addr × Obj), XHand T z p → z.c = cn → ISs (T.at (some z)) E00 (X.suite z.a (p :: pn)) sts (sx cn)) : PSs (X.suite a ((a, oe) :: pn)) sts (tsX T sx cns a cls d) := by
  refine ⟨fun pins s σ H D I q => ?_⟩
  obtain ⟨cn, hcn, rfl, q⟩ := q
  exact (h cn hcn ⟨a, d, cn⟩ (a, oe) ⟨rfl, hz.zc, hf, hz.2.2⟩ rfl).run pins s σ H D I q
theorem takes0N {X : Cx} : L2N.Takes X (fun _ _ _ _ => False) := fun _ _ ⟨_, _, _, _, _, _, _, _, _, _, _, _, _, _, _, _, w⟩ => w.elim
theorem takes_len {W : WX} (tk : L2N.Takes X W) : L2N.Takes X fun c d σ H => σ.length = X.N.length → W c d σ H := fun u s' ⟨a, B, sI, pins, σ, H, cls, d, e, I, nb, up, sky, na, os, ag, w⟩ =>
  tk u s' ⟨a, B, sI, pins, σ, H, cls, d, e, I, nb, up, sky, na, os, ag, w I.len⟩
/-- what is wished of an exception: the suites say what hp says -/
def EchS (T : Tb) (hp : String → List D → Option D) (cns : List String) (Q : VK) : XK := fun cls d H' => ∃ cn ∈ cns, ∃ (w : Wd) (fs : List D) (r : D) (S' : Store), cls = .ref (He.ga T.K (cn : Str)) ∧ WR T w S' H' ∧ XRep T w H' cn fs cls d ∧ hp cn fs = some r ∧
  ∀ w2 H2 v, w.le w2 → WR T w2 S' H2 → Rep T w2 r v → Q v H2
def TTsaid (T : Tb) (hp : String → List D → Option D) (cns : List String) (told : Str) : (XK → Hp → VK → Prop) → Hp → VK → Prop := fun tl H Q => tl (EchS T hp cns Q) H fun v H' => 2 ≤ sizeLine ∧ ∀ p, H' p = none → Q (.ref p) (upd H' p (.tup [.str told, v]))
end Ro
end
section
set_option Elab.async false
set_option linter.all false
set_option maxRecDepth 100000
set_option maxHeartbeats 4000000
namespace Ro
open PySem PySem.Spec PyProof.Rows L2 LamX
variable {T : Tb} {E : XK} {X : Cx}
def eSaid (told : Str) (hp : String → List D → Option D) (m : EX) : EX := fun env S => match m env S with
  | .ok d S1 => .ok (.tup [.str told, d]) S1
  | .err c fs S1 => lift (hp c fs) S1
  | .bad => .bad
theorem said_read {told : Str} {hp : String → List D → Option D} {cns : List String} (hcn : ∀ c fs r, hp c fs = some r → c ∈ cns) {m : EX} {σ : St} {H : Hp} {Q : VK} (q : tI T E (eSaid told hp m) σ H Q) : tLam T.tabs (TTsaid T hp cns told) (fun E' => tI T E' m) σ H Q := by
  obtain ⟨w, env, S, r, e, q⟩ := q
  refine ⟨r.tabs, fun H1 eN T1 => ?_⟩
  refine ⟨w, env, S, r.growN eN T1, e, ?_⟩
  unfold eSaid at q
  cases z : m env S with
  | ok d S1 =>
    rw [z] at q
    have q : ∀ w' H' v, w.le w' → WR T w' S1 H' → Rep T w' (.tup [.str told, d]) v → Q v H' := q
    show ∀ w' H' v, w.le w' → WR T w' S1 H' → Rep T w' d v → _
    intro w' H' v l r' p
    refine ⟨by rw [sizeLine_eq]; omega, fun pa hpa => ?_⟩
    obtain ⟨l2, r2⟩ := r'.new hpa (.tup [.str told, v])
    exact q _ _ _ (l.trans l2) r2 (.tup (.inl (.inl upd_same)) (.cons (.str told) (.cons (p.mono l2) .nil)))
  | err c fs S1 =>
    rw [z] at q
    have q : RP (lift (hp c fs) S1) (fun d S' => ∀ w' H' v, w.le w' → WR T w' S' H' → Rep T w' d v → Q v H') (XW T w E) := q
    cases y : hp c fs with
    | none => rw [y] at q; exact (show False from q).elim
    | some d =>
      rw [y] at q
      have q : ∀ w' H' v, w.le w' → WR T w' S1 H' → Rep T w' d v → Q v H' := q
      show ∀ w' H' cls dx, w.le w' → WR T w' S1 H' → XRep T w' H' c fs cls dx → EchS T hp cns Q cls dx H'
      intro w' H' cls dx l r' x
      exact ⟨c, hcn c fs d y, w', fs, d, S1, x.1, r', x, y, fun w2 H2 v l2 => q w2 H2 v (l.trans l2)⟩
  | bad => rw [z] at q; exact (show False from q).elim
theorem OkF.mkL {P : Program} {w : World} {mg : Str → Option Value} {base : Heap} {k : Nat} {d : He.DefD} {ps N : List Str} {body : ES} {fd : FuncData}
    (F : FunD T.K d.name d.qual d.params d.body d.scope (d.dvs T.K) [] (He.fAd T.K d.at_) fd) (Sc : FnScope N ps d.scope)
    (h : ∀ (cdv : Value) (A : Around) (outer : List PySem.Env) (s : Shared) (H : Hp) (E : XK), cdv = .ref (He.codeOf T.K d.at_) → RG k (A.deeper (envOfC d.qual d.scope s.heap.objs.size (He.fAd T.K d.at_) cdv)) →
      ISs T E (cxOf (L2N.CX P w) P w T.K mg base N d.qual d.scope (He.fAd T.K d.at_) cdv A outer s H E) d.body body) : OkF T P w mg base (k + 1) d ps (fnM N.length body) := by
  refine ⟨fd, F, ?_⟩
  obtain ⟨oc, od, dV, kV, doc, pm, an, cdv, ct, osl, rfl, lk, hcd, _, _⟩ := F.ex
  obtain ⟨c, hc⟩ := He.codeIn_ref hcd
  have ec : cdv = .ref (He.codeOf T.K d.at_) := by
    rw [He.codeOf_eq lk (show (PySem.W.fnOf d.name d.qual d.params d.body d.scope dV kV doc pm an cdv ct).code = .ref c from hc)]
    exact hc
  refine fnG_of lk hcd Sc (fun vs H Q E h => h.1) fun A outer s H vs Q E hr hsp => ⟨_, h cdv A outer s H E ec hr, ?_⟩
  obtain ⟨hl, w0, ds, S, r, q, hm⟩ := hsp
  refine ⟨w0, _, S, r, er_start q, (RP.bnd hm).mono (fun c S1 h1 => ?_) fun _ _ _ x => x⟩
  cases c with
  | rt d => exact h1
  | nx e => exact fun w' H' σ' l r' q' => h1 w' H' .non l r' .non
  | bk e => exact (show False from h1).elim
  | ct e => exact (show False from h1).elim
/-- the tables of the code objects of the defs tf -/
def TabsB (K : PySem.W.Frag) (mg : Str → Option Value) (base : Heap) (tf : List He.Defn) : Prop := ∀ p ∈ tf, TabB base mg (He.cT K p).1 (He.cT K p).2
theorem TabsB.at_ {K : PySem.W.Frag} {mg : Str → Option Value} {base : Heap} {tf : List He.Defn} (h : TabsB K mg base tf) (p : He.Defn) (hp : p ∈ tf := by decide +kernel) : TabB base mg (He.codeOf K p) (He.tabOf K (He.codeOf K p)) := h p hp
end Ro
end
section
set_option Elab.async false
set_option linter.all false
set_option maxRecDepth 100000
set_option maxHeartbeats 4000000
namespace Ro
open PySem PySem.Spec PyProof.Rows L2 LamX
variable {T : Tb} {E : XK} {X : Cx}
theorem names_of {c : String} (hg : Gl X (c : Str)) (hm : X.mg (c : Str) = some (.ref (He.ga T.K (c : Str)))) (hdb : ((c : Str) == ("__debug__" : Str)) = false := by decide +kernel) : Names X (c : Str) (.ref (He.ga T.K (c : Str))) := ⟨hg, hdb, .inl hm⟩
/-- the law's own names of what is refused -/
def refD : String → List D → Option D
  | "NoRates", [] => some (.tup [.str "rates"])
  | "NoSpot", [] => some (.tup [.str "spot"])
  | "NoShare", [] => some (.tup [.str "share"])
  | "NoBook", [] => some (.tup [.str "book"])
  | "NoPlace", [] => some (.tup [.str "place"])
  | "Absent", [] => some (.tup [.str "absent"])
  | "Nothing", [] => some (.tup [.str "nothing"])
  | "NoTable", [] => some (.tup [.str "table"])
  | "NoLine", [] => some (.tup [.str "line"])
  | "NoSpending", [p] => some (.tup [.str "spending", p])
  | "NoRule", [p] => some (.tup [.str "rule", p])
  | "NoJourney", [p] => some (.tup [.str "journey", p])
  | "NoText", [r] => some (.tup [.str "text", r])
  | "TooMany", [m, n] => some (.tup [.str "many", m, n])
  | "NoRate", [m, d] => some (.tup [.str "rate", m, d])
  | "NoDay", [d] => some (.tup [.str "day", d])
  | "NoName", [n] => some (.tup [.str "name", n])
  | "NoHeads", [h] => some (.tup [.str "heads", h])
  | _, _ => none
/-- .. of some classes alone -/
def refL (cns : List String) : String → List D → Option D := fun c fs => if c ∈ cns then refD c fs else none
theorem refD_nt {c : String} {fs : List D} {r : D} (h : refD c fs = some r) (hf : noThks fs = true) : noThk r = true := by
  unfold refD at h
  split at h <;> first | cases h | skip
  all_goals simp_all [noThk, noThks]
theorem refL_nt {cns : List String} (c : String) (fs : List D) (r : D) (h : refL cns c fs = some r) (hf : noThks fs = true) : noThk r = true := by
  unfold refL at h
  split at h
  · exact refD_nt h hf
  · cases h
theorem refL_in {cns : List String} (c : String) (fs : List D) (r : D) (h : refL cns c fs = some r) : c ∈ cns := by
  unfold refL at h
  split at h
  · assumption
  · cases h
end Ro
end
section
set_option Elab.async false
set_option linter.all false
set_option maxRecDepth 100000
set_option maxHeartbeats 4000000
namespace Ro
open PySem PySem.Spec PyProof.Rows L2 LamX
/-- the tables' rows that T tells -/
def tabsOf (K : PySem.W.Frag) (tf : List (He.Defn × String)) : List (Addr × Str) := tf.map fun p => ((He.cT K p.1).2, (p.2 : Str) ++ ("<lambda>" : Str))
/-- what is known of the tables at the heap h -/
structure TabF (K : PySem.W.Frag) (tf : List (He.Defn × String)) (h : Heap) : Prop where
  hd : ∀ p ∈ tf, PySem.W.codeHdIn K (He.cT K p.1).1 (He.cT K p.1).2 = true
  out : ∀ p ∈ tf, K.lookup (He.cT K p.1).2 = none
  emp : ∀ p ∈ tf, h.get? (He.cT K p.1).2 = some { cls := .none, data := .fields #[] }
/-- the law's promise at the heap behind the top, tables told -/
theorem lawGT {P : Program} {w : World} {T : Tb} {mg mb : Str → Option Value} {k : Nat} {fa a : Addr} {fd : FuncData} {x : Str} {m : Fn} {st : Shared} {vs : List Value} {ns : List Int} {tf : List (He.Defn × String)} (hT : T.tabs = tabsOf T.K tf)
    (inK : T.K.In st.heap) (hns : st.heap.Ns mainGlobals mg) (hbt : st.heap.Ns builtinsNs mb) (boot : ∀ x : Str, x ≠ "__name__" → mb x = bootBuiltins x) (lim : st.heap.NoLimit) (gens : st.gens = #[]) (tF : TabF T.K tf st.heap)
    (hbm : ∃ (bm : Addr) (ob : Obj), mg "__builtins__" = some (.ref bm) ∧ bm ≠ builtinsNs ∧ st.heap.get? bm = some ob ∧ ob.cls = .type "module" ∧ ob.dict = some builtinsNs ∧ ob.data = .plain)
    (ha : st.heap.get? a = some { cls := .type "list", data := .seq vs.toArray }) (hi : IntsAre vs ns) (hl : ns.length ≤ sizeLine) (hr : RG k callerA)
    (F : ∀ base : Heap, T.K.In base → base.Ns mainGlobals mg → TabsB T.K mg base (tf.map (·.1)) → FnG P w T.K mg base k fa fd [x] (spI T 1 m)) (bind : ∀ (s : Shared) (u : Value), BindsTo s fd ⟨[u], []⟩ [(x, u)])
    (hm : ∃ S, m [.scr ns] [] = .ok (.bl true) S) :
    codeAny (model P w) callerA (.call (.ref fa) ⟨[.ref a], []⟩) (fun r s' => r = .ok (.ret (.bool true)) ∧ OldK st.heap s'.heap ∧ s'.os = st.os ∧ AllBare s'.gens) st := by
  have rv := vals_ints hi
  have lv := hi.length
  let tl : List Addr := tf.map fun p => (He.cT T.K p.1).2
  have tMem : ∀ {b : Addr}, b ∈ tl → ∃ p ∈ tf, (He.cT T.K p.1).2 = b := fun {b} hb => by
    obtain ⟨p, hp, e⟩ := List.mem_map.mp hb
    exact ⟨p, hp, e⟩
  have tAt : ∀ {b : Addr}, b ∈ tl → st.heap.get? b = some { cls := .none, data := .fields #[] } := fun {b} hb => by
    obtain ⟨p, hp, rfl⟩ := tMem hb
    exact tF.emp p hp
  have aNot : a ∉ tl := fun z => by
    have q := tAt z
    rw [ha] at q
    exact nomatch (congrArg Obj.data (Option.some.inj q) : Data.seq vs.toArray _ = Data.fields #[])
  have from_ : ∀ Hs : Hp, Only Hs → SqL T.K Hs a (ns.map V.int) → HOk P w Hs st.heap → (∀ b, Hs b ≠ none → b = a) → (Hs a ≠ none → T.K.lookup a = none) →
      codeAny (model P w) callerA (.call (.ref fa) ⟨[.ref a], []⟩) (fun r s' => r = .ok (.ret (.bool true)) ∧ OldK st.heap s'.heap ∧ s'.os = st.os ∧ AllBare s'.gens) st := by
    intro Hs only sq okS sole away
    have hno : ∀ {b : Addr}, b ≠ a → Hs b = none := fun {b} hb => by
      cases z : Hs b with
      | none => rfl
      | some u => exact absurd (sole b (by rw [z]; simp)) hb
    obtain ⟨H, hH⟩ : ∃ H : Hp, H = fun b => if b ∈ tl then some (.tbl #[]) else Hs b := ⟨_, rfl⟩
    have inT : ∀ {b : Addr}, b ∈ tl → H b = some (.tbl #[]) := fun {b} hb => by rw [hH]; exact if_pos hb
    have offT : ∀ {b : Addr}, b ∉ tl → H b = Hs b := fun {b} hb => by rw [hH]; exact if_neg hb
    have up : ∀ {b : Addr} {u : HO}, Hs b = some u → H b = some u := fun {b u} e => by
      rw [offT fun z => ?_]
      · exact e
      · have : b = a := sole b (by rw [e]; simp)
        exact aNot (this ▸ z)
    have ok : HOk P w H st.heap := fun b u e => by
      by_cases hb : b ∈ tl
      · rw [inT hb] at e
        cases e
        exact tAt hb
      · rw [offT hb] at e
        exact (okS b u e).stay (fun _ _ _ q => q) (fun _ q => up q) fun _ _ q => up q
    have untr : ∀ {b : Addr}, b ≠ a → b ∉ tl → H b = none := fun {b} h1 h2 => by rw [offT h2]; exact hno h1
    have free_ : ∀ {b : Addr} {o : Obj}, st.heap.get? b = some o → (∀ vs n, o.data ≠ .seq vs n) → o.data ≠ .fields #[] → H b = none := fun {b o} e h1 h2 => by
      refine untr (fun z => ?_) fun z => ?_
      · rw [z, ha] at e
        cases e
        exact h1 _ _ rfl
      · rw [tAt z] at e
        cases e
        exact h2 rfl
    have nsB : ∀ {b : Addr} {f : Str → Option Value}, st.heap.Ns b f → (hidT st.heap H).Ns b f := fun {b f} ⟨o, es, ep, e, d, r⟩ => ⟨o, es, ep, hidT_get e (free_ e (fun vs n z => by rw [d] at z; cases z) fun z => by rw [d] at z; cases z), d, r⟩
    have inB : T.K.In (hidT st.heap H) := fun b o e => hidT_get (inK b o e) (by
      by_cases ht : b ∈ tl
      · obtain ⟨p, hp, rfl⟩ := tMem ht
        rw [tF.out p hp] at e
        cases e
      · rw [offT ht]
        by_cases hb : b = a
        · subst hb
          cases z : Hs b with
          | none => rfl
          | some u => rw [away (by rw [z]; simp)] at e; cases e
        · exact hno hb)
    have md : Mod T.K mg (hidT st.heap H) := ⟨inB, nsB hns, ⟨mb, nsB hbt, boot⟩, let ⟨mc, h1, h2⟩ := lim; ⟨mc, nsB h1, h2⟩⟩
    have TBs : TabsB T.K mg (hidT st.heap H) (tf.map (·.1)) := fun q hq => by
      obtain ⟨p, hp, rfl⟩ := List.mem_map.mp hq
      have hat := tF.emp p hp
      have g1 : mainGlobals ≠ (He.cT T.K p.1).2 := fun z => by
        obtain ⟨o, es, ep, e, d, _⟩ := hns
        rw [z, hat] at e
        cases e
        cases d
      refine NdefX.tabB_of_K inB (tF.hd p hp) ?_ g1
      obtain ⟨bm, ob, b1, b2, b3, b4, b5, b6⟩ := hbm
      refine ⟨bm, ob, b1, b2, fun z => ?_, fun z => ?_, hidT_get b3 (free_ b3 (fun vs n z => by rw [b6] at z; cases z) fun z => by rw [b6] at z; cases z), b4, b5, b6⟩
      · obtain ⟨o, es, ep, e, d, _⟩ := hns
        rw [z, e] at b3
        cases b3
        rw [d] at b6
        cases b6
      · rw [z, hat] at b3
        cases b3
        cases b6
    have env0 : Env0 P w T.K mg (hidT st.heap H) callerA [] st H := ⟨rfl, md, fun b o e => of_hidT e, Nat.le_of_eq (hidT_size _ _), trivial, fun b hb => (by cases hb), ok, .of_eq gens⟩
    obtain ⟨S, hS⟩ := hm
    have wr : WR T ⟨Hs, [], []⟩ [] H := by
      refine ⟨fun _ _ h => up h, rfl, List.nodup_nil, ?_, ?_, ?_, ?_, List.nodup_nil, ?_, fun b ps e => ?_⟩
      · intro b hb; cases hb
      · intro n c b h; simp at h
      · intro n c b h; simp at h
      · rw [hT]
        intro p hp
        obtain ⟨q, hq, rfl⟩ := List.mem_map.mp hp
        exact TabS.nil (inT (List.mem_map.mpr ⟨q, hq, rfl⟩))
      · intro p hp; cases hp
      · rcases only b with z | ⟨_, _, z⟩
        · rw [show Hs b = _ from e] at z; cases z
        · rw [show Hs b = _ from e] at z; cases z
    have sp : spI T 1 m [.ref a] H (fun v _ => v = .bl true) (fun _ _ _ => False) := ⟨rfl, ⟨Hs, [], []⟩, [.scr ns], [], wr, .cons (.scr sq) .nil, by
      rw [hS]
      intro w' H' v _ _ p
      cases p
      rfl⟩
    refine codeAny_mono ((F _ inB (nsB hns) TBs).run callerA [] st H ⟨[.ref a], []⟩ [.ref a] [.ref a] _ _ hr env0 (bind st (.ref a)) (.cons rfl .nil) sp) fun r s' h => ?_
    match r, h with
    | .error e, h =>
      obtain ⟨_, _, _, _, _, _, _, _, _, _, _, _, z⟩ := h
      exact z.elim
    | .ok (.ret u), h =>
      obtain ⟨v, H', os, bare, un, ok', r', q⟩ := h
      have q : v = .bl true := q
      subst q
      obtain rfl : u = Value.bool true := r'
      have key : ∀ b o, b ∉ tl → st.heap.get? b = some o → s'.heap.get? b = some o := fun b o nb e => by
        rcases only b with z | ⟨ob, xs, z⟩
        · exact un.keep b o e (by rw [offT nb]; exact z) (by intro y; cases y) (by simp)
        · have z2 := un.frzs b ob _ (up z)
          obtain ⟨e1, _⟩ := okS b _ z
          obtain ⟨e2, _⟩ := ok' b _ z2
          rw [e] at e1
          cases e1
          exact e2
      have grown : ∀ b, b ∈ tl → ∃ more : Array Value, s'.heap.get? b = some { cls := .none, data := .fields more } := fun b hb => by
        obtain ⟨more, z⟩ := un.tbls b #[] (inT hb)
        exact ⟨_, ok' b _ z⟩
      refine ⟨rfl, ⟨fun b o e => ?_, fun b o e => ?_⟩, os, bare⟩
      · by_cases hb : b ∈ tl
        · obtain ⟨more, hmo⟩ := grown b hb
          obtain ⟨p, hp, rfl⟩ := tMem hb
          rw [tF.emp p hp] at e
          cases e
          exact .inr (.inl ⟨((PySem.W.codeHd_of_K inK (tF.hd p hp)).tab (tF.emp p hp)).isCodeTable, rfl, #[], more, rfl, by rw [Array.empty_append]; exact hmo⟩)
        · exact .inl (key b o hb e)
      · by_cases hb : b ∈ tl
        · obtain ⟨more, hmo⟩ := grown b hb
          exact ⟨_, hmo⟩
        · exact ⟨o, key b o hb e⟩
  cases hk : T.K.lookup a with
  | some o =>
    have e := inK a o hk
    rw [ha] at e
    cases e
    exact from_ (fun _ => none) (fun _ => .inl rfl) (.inr ⟨_, vs.toArray, _, hk, rfl, rfl, rfl, by rw [List.size_toArray, lv]; exact hl, by simpa using rv⟩) (fun b u z => (by cases z)) (fun b z => absurd rfl z) fun z => absurd rfl z
  | none =>
    have hyes : ∀ {u : HO}, (fun b => if b = a then some u else none) a = some u := fun {u} => if_pos rfl
    have hno : ∀ {u : HO} {b : Addr}, b ≠ a → (fun b => if b = a then some u else none) b = none := fun {u b} hb => if_neg hb
    refine from_ (fun b => if b = a then some (.frz { cls := .type "list", data := .seq vs.toArray } (.lst (ns.map V.int))) else none) (fun b => ?_) (.inl (.inr ⟨_, hyes⟩)) (fun b u z => ?_) (fun b z => ?_) fun _ => hk
    · by_cases hb : b = a
      · subst hb; exact .inr ⟨_, _, hyes⟩
      · exact .inl (hno hb)
    · by_cases hb : b = a
      · subst hb
        have z := hyes.symm.trans z
        cases z
        exact ⟨ha, by rw [List.length_map]; exact hl, vs, _, rv, ha⟩
      · have z := (hno hb).symm.trans z
        cases z
    · by_cases hb : b = a
      · exact hb
      · exact absurd (hno hb) z
theorem walkGT {l : PySem.W.OpenLaw} {n k : Nat} {q : Program} {loose : List Str} {XP : (Str → Option Value) → Heap → Prop} {YP : World → Heap → Prop} {d : DefRec} {x : Str} {m : Fn} (hn : l.most = some n) (hn2 : n ≤ sizeLine) (hdf : d.params.defaults = []) (hk : k ≤ 200)
    (F : ∀ (w : World) (mg : Str → Option Value) (fa : Addr) (h : Heap), YP w h → h.Ns mainGlobals mg → mg d.name = some (.ref fa) →
      ∃ (T : Tb) (fd : FuncData) (tf : List (He.Defn × String)), T.tabs = tabsOf T.K tf ∧ T.K.In h ∧ TabF T.K tf h ∧ (∀ (s : Shared) (u : Value), BindsTo s fd ⟨[u], []⟩ [(x, u)]) ∧
        ∀ base : Heap, T.K.In base → base.Ns mainGlobals mg → TabsB T.K mg base (tf.map (·.1)) → FnG l.prog w T.K mg base k fa fd [x] (spI T 1 m))
    (hm : ∀ ns : List Int, ns.length ≤ n → (∀ z ∈ ns, bits20 z) → ∃ S, m [.scr ns] [] = .ok (.bl true) S) :
    PySem.W.WalkO q loose XP YP l.row.toRowW d [] (fun f vs => PySem.call f vs) := by
  refine Att.attach_callB hn hdf fun w s₀ st mg mb fa o pm cd doc a vs ns G Y ho hd hcd hmg hobj hints hlen hbits hg => ?_
  obtain ⟨T, fd, tf, hT, inK, tF, hb, hF⟩ := F w mg fa _ Y G.T.g hmg
  exact lawGT hT inK G.T.g G.T.b G.T.builtins G.T.nolimit hg tF G.T.bmain hobj hints (Nat.le_trans hlen hn2) (callerG.mono hk) hF hb (hm ns hlen hbits)
theorem says_fx {T : Tb} {L : Lw} {ts : List He.Tab} {w : World} {h : Heap} {mg : Str → Option Value} (X : T.K.In h) (G : h.Ns mainGlobals mg) (c : He.SaysX [] L.defs ts (L.tf.map (·.1)) L.ok w h T.K) : Fx T mg L ∧ TabF T.K L.tf h := by
  have e : He.obsD [] L.defs T.K = He.valD L.defs := c.t.d
  have e2 : (L.defs.map fun d => He.fnW T.K d.at_) = L.defs.map He.DefD.val := congrArg (fun z : He.AlD => z.2) e
  refine ⟨fx_of X G (show (L.ok T.K, L.defs.map fun d => He.fnW T.K d.at_) = _ by rw [c.more, e2]), ⟨fun p hp => c.hd p.1 (List.mem_map_of_mem hp), fun p hp => c.out p.1 (List.mem_map_of_mem hp), fun p hp => c.empty p.1 (List.mem_map_of_mem hp)⟩⟩
/-- a def's table, told by its place -/
theorem tab_in {K : PySem.W.Frag} {tf : List (He.Defn × String)} (p : He.Defn) (q : String) (h : (p, q) ∈ tf := by decide +kernel) : (He.tabOf K (He.codeOf K p), (q : Str) ++ ("<lambda>" : Str)) ∈ tabsOf K tf := List.mem_map.mpr ⟨(p, q), h, rfl⟩
theorem tab_one {K : PySem.W.Frag} {tf : List (He.Defn × String)} (hn : (tf.map fun p => (He.cT K p.1).2).Nodup) (p : He.Defn) (q : String) (h : (p, q) ∈ tf := by decide +kernel) : ∀ r ∈ tabsOf K tf, r.1 = He.tabOf K (He.codeOf K p) → r.2 = (q : Str) ++ ("<lambda>" : Str) := by
  intro r hr e
  obtain ⟨s, hs, rfl⟩ := List.mem_map.mp hr
  have key : s = (p, q) := by
    obtain ⟨i, hi, e1⟩ := List.mem_iff_getElem.mp hs
    obtain ⟨j, hj, e2⟩ := List.mem_iff_getElem.mp h
    have e : (He.cT K s.1).2 = (He.cT K p).2 := e
    have li : i < (tf.map fun p => (He.cT K p.1).2).length := by simpa using hi
    have lj : j < (tf.map fun p => (He.cT K p.1).2).length := by simpa using hj
    have : i = j := (List.getElem_inj (h₀ := li) (h₁ := lj) hn).mp (by
      rw [List.getElem_map, List.getElem_map, e1, e2]
      exact e)
    subst this
    rw [← e1, e2]
  rw [key]
end Ro
end
section
set_option Elab.async false
set_option linter.all false
set_option maxRecDepth 100000
set_option maxHeartbeats 4000000
namespace Ro
open PySem PySem.Spec PyProof.Rows L2 LamX
variable {T : Tb} {E : XK} {X : Cx}
theorem tk_lam {X : Cx} {A : Around} {outer : List PySem.Env} {s : Shared} {H : Hp} {E : XK} {scope : Scope} {f c' : Addr} : L2N.Takes (lamN X A outer s H E scope f c') (fun c d _ H => E c d H) := L2N.takes_of rfl rfl rfl rfl
theorem RG.mark {k : Nat} {A : Around} (r : RG k A) (v : Option Value) : RGH k (A.mark v) := ⟨⟨r.rm.dp, r.rm.un⟩, r.gd⟩
theorem RGH.hu1 {k : Nat} {A : Around} (r : RGH k A) : A.units + 1 < cLine := by have := r.hu; omega
theorem RGH.hu65 {k : Nat} {A : Around} (r : RGH k A) : A.units + 65 < cLine := by have := r.rm.un; omega
theorem hu65 {k : Nat} {A : Around} (r : RG k A) : A.units + 65 < cLine := by have := r.rm.un; omega
end Ro
end
section
set_option Elab.async false
set_option linter.all false
set_option maxRecDepth 100000
set_option maxHeartbeats 4000000
namespace PySem
namespace RoXb
open Builtin HandSPX
structure NF (bt : List Value) (B newId : String) : Prop where
  owner : newId.dropRight 8 = B
  ends : newId.endsWith ".__new__" = true
  entry : entryFor table newId = some Builtin.«BaseException.__new__»
  quiet : newId.startsWith "lifetime." = false
  noStar : (B != "*") = true
  newSplit : splitId newId = some (B, "__new__")
  newKind : builtinKind newId = some .builtinFn
  newRow : Manifest.signature? newId = some ⟨.any, B, B, .cls, [⟨"args", .varPos, false⟩, ⟨"kwargs", .varKw, false⟩]⟩
  hasB : bt.contains (.type B) = true
  hasBase : bt.contains (.type "BaseException") = true
  noAttr : bt.contains (.type "AttributeError") = false
  noName : bt.contains (.type "NameError") = false
  canon : Manifest.canonical newId = Manifest.canonical "BaseException.__new__"
structure IF (bt : List Value) (B initId : String) : Prop where
  plain : plainId initId = true
  initEntry : entryFor table initId = some Builtin.«BaseException.__init__»
  initKind : builtinKind initId = some .slot
  initSplit : splitId initId = some (B, "__init__")
  initRow : Manifest.signature? initId = some ⟨.positional, "*", B, .self, [⟨"args", .varPos, false⟩]⟩
  hasB : bt.contains (.type B) = true
  noStar : (B != "*") = true
theorem NF.of {bt : List Value} {B newId initId : String} (F : ExcBaseFacts B newId initId bt) : NF bt B newId :=
  ⟨F.owner, F.ends, F.entry, F.quiet, F.noStar, F.newSplit, F.newKind, F.newRow, F.hasB, F.hasBase, F.noAttr, F.noName, F.canon⟩
theorem IF.of {bt : List Value} {B newId initId : String} (F : ExcBaseFacts B newId initId bt) : IF bt B initId := ⟨F.init.plain, F.initEntry, F.initKind, F.initSplit, F.initRow, F.hasB, F.noStar⟩
section
variable {M : Model} {A : Around} {E : Value → Shared → Prop} {h : Heap} {g : Array GenState} {d : Drawn} {t : Nat} {os : OsState}
variable {nm q : Str} {C N : Addr} {bs bm bmB : List Value} {hdct : Bool} {sn : List Str} {sub : List Value} {ab : Bool} {col : Option Bool} {dd : Option Addr} {k0 k1 k2 k3 k5 : Option Value} {B newId initId : String}
theorem nf_check (F : NF bmB B newId) (hT : ∀ X : String, bm.contains (.type X) = bmB.contains (.type X)) {rest : List Value} {Q : Unit → Shared → Prop}
    (hC : h.get? C = some (excClassObj nm q C N bs bm hdct sn sub ab col dd k0 k1 k2 k3 k5 newId)) (hq : Q () ⟨h, g, d, t, os⟩) : wpAny M A (checkBuiltinCall newId ⟨.ref C :: rest, []⟩) Q E ⟨h, g, d, t, os⟩ := by
  have hcont : (Value.ref C :: bm).contains (.type B) = true := by rw [List.contains_cons, hT, F.hasB, Bool.or_true]
  have hstar := F.noStar
  simp only [checkBuiltinCall, F.newKind, F.newSplit, F.newRow]
  repeat (first | refine wpAny_loadPart_at hC ?_ | (refine wpAny_isSubtype_exc hC ?_; rw [hcont]) | refine wpAny_staticBase_exc hC ?_ | refine wpAny_madeBy_exc hC ?_ | simp only [bne_self_eq_false, Bool.false_eq_true, if_false] | wp_step)
  exact hq
theorem if_check (F : IF bmB B initId) (hT : ∀ X : String, bm.contains (.type X) = bmB.contains (.type X)) {e : Addr} {oe : Obj} {rest : List Value} {Q : Unit → Shared → Prop}
    (hC : h.get? C = some (excClassObj nm q C N bs bm hdct sn sub ab col dd k0 k1 k2 k3 k5 newId)) (he : h.get? e = some oe) (hcls : oe.cls = .ref C) (hq : Q () ⟨h, g, d, t, os⟩) :
    wpAny M A (checkBuiltinCall initId ⟨.ref e :: rest, []⟩) Q E ⟨h, g, d, t, os⟩ := by
  have hcB : (Value.ref C :: bm).contains (.type B) = true := by rw [List.contains_cons, hT, F.hasB, Bool.or_true]
  have hshort := F.noStar
  simp only [checkBuiltinCall, F.initKind, F.initSplit, F.initRow]
  repeat (first | (with_reducible refine wpAny_loadPart_at he ?_; rw [hcls]) | with_reducible refine wpAny_loadPart_at hC ?_ | (with_reducible refine wpAny_isSubtype_exc hC ?_; rw [hcB]) | wp_step)
  refine wpAny_onRaise ?_
  rw [show ∀ (a b : String) (n : Nat), Bind.check ⟨.positional, "*", B, .self, [⟨"args", .varPos, false⟩]⟩ a b n (List.map (fun x => x.fst) ({ pos := Value.ref e :: rest } : Args).kw) = pure () from
    fun a b n => check_star_args _ _ _ _ _ _]
  exact wpAny_pure hq
end
section
variable {prog : Program} {w : World} {A : Around} {E : Value → Shared → Prop} {R : Result → Shared → Prop} {h : Heap} {g : Array GenState} {d : Drawn} {t : Nat} {os : OsState}
variable {nm q : Str} {C N : Addr} {bs bm bmB : List Value} {hdct : Bool} {sn : List Str} {sub : List Value} {ab : Bool} {col : Option Bool} {dd : Option Addr} {k0 k1 k2 k3 k5 : Option Value} {B newId initId : String}
theorem nf_new (F : NF bmB B newId) (hT : ∀ X : String, bm.contains (.type X) = bmB.contains (.type X)) {rest : List Value}
    (hC : h.get? C = some (excClassObj nm q C N bs bm hdct sn sub ab col dd k0 k1 k2 k3 k5 newId))
    (hq : R (.ok (.ret (.ref (h.objs.size + 1)))) ⟨(h.push { cls := .type "tuple", data := .seq rest.toArray }).push
      { cls := .ref C, data := .fields #[.ref h.objs.size, .none, .none, .none, .bool false, .none] }, g, d, t, os⟩) (hrest : rest.length ≤ sizeLine) :
    codeAny (model prog w) A (.builtin newId ⟨.ref C :: rest, []⟩) R ⟨h, g, d, t, os⟩ := by
  have hends := F.ends
  have hcB : (Value.ref C :: bm).contains (.type B) = true := by rw [List.contains_cons, hT, F.hasB, Bool.or_true]
  have hcA : (Value.ref C :: bm).contains (.type "AttributeError") = false := by rw [List.contains_cons, hT, F.noAttr]; rfl
  have hcN : (Value.ref C :: bm).contains (.type "NameError") = false := by rw [List.contains_cons, hT, F.noName]; rfl
  refine codeAny_builtinAt F.entry ?_
  unfold Builtin.«BaseException.__new__»
  refine wpAt_bind ?_
  show wpAt _ _ _ (stack >>= _) _ _ _
  refine wpAt_bind (wpAt_stack fun p below => wpAt_of_wpAny ?_)
  wp_walk
  refine wpAt_of_wpAny ?_
  rw [F.owner]
  repeat (first | with_reducible refine wpAny_madeHere_exc F.canon hC ?_ | with_reducible refine wpAny_loadPart_at hC ?_ | (with_reducible refine wpAny_isSubtype_exc hC ?_; first | rw [hcB] | rw [hcA] | rw [hcN]) | wp_step)
  show R _ _
  rw [Heap.size_push]
  exact hq
theorem nf_type_call (F : NF bmB B newId) (hT : ∀ X : String, bm.contains (.type X) = bmB.contains (.type X)) {rest : List Value} {fI : Addr} {Q : Fin → Shared → Prop}
    (hC : h.get? C = some (excClassObj nm q C N bs bm hdct sn sub ab col dd k0 k1 k2 k3 k5 newId))
    (hi : W.Looks (model prog w) h (typeLookup (.ref C) "__init__") (some (.ref fI))) (hb : ∀ self, W.Looks (model prog w) h (bindSpecial (.ref fI) self) (.ref fI, [self])) (hrest : rest.length ≤ sizeLine)
    (hq : codeAny (model prog w) A (.call (.ref fI) ⟨.ref (h.objs.size + 1) :: rest, []⟩)
      (fun r s' => match r with | .ok (.ret v) => v = .none ∧ Q (.done (.ret (.ref (h.objs.size + 1)))) s' | .ok _ => False | .error e => E e s')
      ⟨(h.push (W.kdv_tup rest)).push (excO C h.objs.size), g, d, t, os⟩) :
    wpAny (model prog w) A (Builtin.«type.__call__» ⟨.ref C :: rest, []⟩) Q E ⟨h, g, d, t, os⟩ := by
  repeat (first | with_reducible refine wpAny_loadPart_at hC ?_ | with_reducible refine wpAny_madeBy_exc hC ?_ | wp_step)
  refine codeAny_call_builtin_code (Code.quiet_builtin _ F.quiet) (nf_check F hT hC ?_)
  refine nf_new F hT hC ?_ hrest
  show wpAny _ _ _ _ _ _
  have k : ∀ b o, h.get? b = some o → ((h.push (W.kdv_tup rest)).push (excO C h.objs.size)).get? b = some o := fun b o e => Heap.get?_push_of_some _ (Heap.get?_push_of_some _ e)
  have hC₁ := k _ _ hC
  have hget : ((h.push (W.kdv_tup rest)).push (excO C h.objs.size)).get? (h.objs.size + 1) = some (excO C h.objs.size) := by heap_get
  have hcC : (Value.ref C :: bm).contains (.ref C) = true := by simp
  have i1 := hi.keeps k
  have b1 := (hb (.ref (h.objs.size + 1))).keeps k
  unfold isInstance
  repeat (first | with_reducible refine wpAny_loadPart_at hget ?_ | (with_reducible refine wpAny_isSubtype_exc hC₁ ?_; rw [hcC]) | wp_step)
  show wpAny _ _ (typeLookup (.ref C) _) _ _ _
  refine i1.at ?_
  refine wpAny_holding (wpAny_bind (b1.at ?_))
  refine wpAny_bind (wpAny_call (codeAny_mono hq fun r s' z => ?_))
  rcases r with e | (v | _ | _ | _) <;> first | exact z | exact z.elim | skip
  obtain ⟨rfl, z⟩ := z
  first
    | exact wpAny_pure (wpAny_pure z)
    | (wp_walk; exact z)
theorem nf_call (F : NF bmB B newId) (hT : ∀ X : String, bm.contains (.type X) = bmB.contains (.type X)) {rest : List Value} {fI : Addr}
    (hC : h.get? C = some (excClassObj nm q C N bs bm hdct sn sub ab col dd k0 k1 k2 k3 k5 newId))
    (hi : W.Looks (model prog w) h (typeLookup (.ref C) "__init__") (some (.ref fI))) (hb : ∀ self, W.Looks (model prog w) h (bindSpecial (.ref fI) self) (.ref fI, [self])) (hrest : rest.length ≤ sizeLine)
    (hq : codeAny (model prog w) (A.under (.builtin "type.__call__" ⟨.ref C :: rest, []⟩)) (.call (.ref fI) ⟨.ref (h.objs.size + 1) :: rest, []⟩) (W.InitBack (h.objs.size + 1) R)
      ⟨(h.push (W.kdv_tup rest)).push (excO C h.objs.size), g, d, t, os⟩) :
    codeAny (model prog w) A (.call (.ref C) ⟨rest, []⟩) R ⟨h, g, d, t, os⟩ := by
  have f1 := tc_lookup
  have f2 := tc_bind (.ref C)
  have hTy : (⟨h, g, d, t, os⟩ : Shared).TypeIs (.ref C) "type" := ⟨_, hC, rfl⟩
  refine codeAny_of_tree ?_
  show wpAny _ _ (callAny (.ref C) _) _ _ _
  repeat (any_goals (first | assumption | with_reducible refine wpAny_loadPart_at hC ?_ | wp_step))
  refine ⟨rfl, ?_⟩
  refine codeAny_call_builtin_at (Code.quiet_builtin _ (by decide +kernel)) entry_typeCall (wpAny_check_type_call_sub hC (nf_type_call F hT hC hi hb hrest ?_))
  refine codeAny_mono hq fun r s' z => ?_
  rcases r with e | (v | _ | _ | _) <;> exact z
theorem if_init (F : IF bmB B initId) (hT : ∀ X : String, bm.contains (.type X) = bmB.contains (.type X)) {e t0 : Addr} {rest : List Value}
    (hC : h.get? C = some (excClassObj nm q C N bs bm hdct sn sub ab col dd k0 k1 k2 k3 k5 newId)) (he : h.get? e = some (excO C t0)) (hrest : rest.length ≤ sizeLine)
    (hq : ∀ h' t1, (∀ b o, b ≠ e → h.get? b = some o → h'.get? b = some o) → h'.get? e = some (excO C t1) → R (.ok (.ret .none)) ⟨h', g, d, t, os⟩) :
    codeAny (model prog w) A (.call (.builtin initId) ⟨.ref e :: rest, []⟩) R ⟨h, g, d, t, os⟩ := by
  refine codeAny_call_builtin F.plain F.initEntry (if_check F hT hC he rfl ?_)
  wp_walk
  refine hq _ h.objs.size (fun b o hb ho => ?_) ?_
  · rw [Heap.get?_update_other _ _ (Ne.symm hb)]
    exact Heap.get?_push_of_some _ ho
  · rw [Heap.get?_update_self _ (Heap.get?_push_of_some _ he) rfl]
    rfl
end
end RoXb
end PySem
end
section
set_option Elab.async false
set_option linter.all false
set_option maxRecDepth 100000
set_option maxHeartbeats 4000000
namespace PySem
namespace RoXb
open Builtin Builtin.ObjectAttr
/-- own classes, then the built-in class and what is above it -/
def Tail (bt l : List Value) : Prop := ∃ cs : List Addr, l = cs.map Value.ref ++ bt
def tailB (bt : List Value) : List Value → Bool
  | .ref _ :: r => tailB bt r
  | l => l == bt
theorem tail_of {bt l : List Value} (h : tailB bt l = true) : Tail bt l := by
  fun_induction tailB bt l with
  | case1 a r ih =>
    obtain ⟨cs, rfl⟩ := ih h
    exact ⟨a :: cs, rfl⟩
  | case2 l _ => exact ⟨[], beq_iff_eq.mp h⟩
structure XB (bt : List Value) (B newId initId : String) : Prop where
  N : ∃ B0, NF bt B0 newId
  I : IF bt B initId
  pass : ∀ self : Value, refuseLoop self "__setattr__" bt = pure ()
  obj : bt.contains (.type "object") = true
  ne : bt.isEmpty = false
  hand : W.handedIn (.builtin initId) = true
section
variable {bt l : List Value} {B newId initId : String}
theorem Tail.pass (X : XB bt B newId initId) (self : Value) (h : Tail bt l) : refuseLoop self "__setattr__" l = pure () := by
  obtain ⟨cs, rfl⟩ := h
  induction cs with
  | nil => exact X.pass self
  | cons c cs ih =>
    show refuseLoop self "__setattr__" (Value.ref c :: (cs.map Value.ref ++ bt)) = _
    rw [refuseLoop_ref]
    exact ih
theorem Tail.has (h : Tail bt l) (X : String) : l.contains (.type X) = bt.contains (.type X) := by
  obtain ⟨cs, rfl⟩ := h
  induction cs with
  | nil => rfl
  | cons c cs ih =>
    show (Value.ref c :: (cs.map Value.ref ++ bt)).contains (.type X) = _
    rw [List.contains_cons, ih]
    rfl
theorem Tail.cons (h : Tail bt l) (C : Addr) : Tail bt (.ref C :: l) := by
  obtain ⟨cs, rfl⟩ := h
  exact ⟨C :: cs, rfl⟩
theorem Tail.ne (X : XB bt B newId initId) (h : Tail bt l) : l.isEmpty = false := by
  obtain ⟨cs, rfl⟩ := h
  cases cs with
  | nil => exact X.ne
  | cons => rfl
end
section
variable {prog : Program} {w : World} {A : Around} {R : Result → Shared → Prop} {hp : Heap} {g : Array GenState} {d : Drawn} {t : Nat} {os : OsState}
variable {K : W.Frag} {name : Str} {tk : Tok} {v : Value} {x C dx : Addr} {fv : Array Value} {cd : ClassData} {bt : List Value} {B newId initId : String}
/-- self.name = v up to the own dict -/
theorem sa_to {ox : Obj} {od : Option Obj} (XX : XB bt B newId initId) (X : K.In hp) (I : W.InstAt hp x ox C od) (hcd : W.clsIn K C = some cd) (hm : Tail bt cd.mro) (ha : W.findIn K (.ref C) name = some none)
    (hq : wpAny (model prog w) A.in1 (storeInOwnDict (.ref x) (.ref C) (.str name tk) name v false)
      (fun fin s' => match fin with | .done f => R (.ok f) s' | .again c' => c'.quiet = true ∧ codeAny (model prog w) A c' R s') (fun e s' => R (.error e) s') ⟨hp, g, d, t, os⟩) :
    codeAny (model prog w) A (.call (.builtin "object.__setattr__") ⟨[.ref x, .str name tk, v], []⟩) R ⟨hp, g, d, t, os⟩ := by
  have S0 := F.store_object
  have isObj : W.Looks (model prog w) hp (isInstance (.ref x) (.type "object")) true := I.type.andThen (W.looks_mroIn X (by
    unfold W.mroIn
    rw [hcd, Option.bind_some, if_neg (by rw [hm.ne XX]; decide), hm.has "object", XX.obj]))
  refine codeAny_call_builtin S0.slot.plain S0.entry (@W.check_slot (model prog w) _ _ ⟨hp, g, d, t, os⟩ "object.__setattr__" "object" "__setattr__" (.ref x) [.str name tk, v] [] _ S0.kind S0.split isObj (S0.args (.ref x) (.str name tk) v) ?_)
  have theMro : W.Looks (model prog w) hp (mroOf (.ref C)) cd.mro := (W.looks_clsIn X hcd).andThen .now
  have noTaker : W.Looks (model prog w) hp (storeTaker? none) none := .now
  rw [W.osa_eq, refuse_eq]
  refine wpAny_bind (wpAny_bind (I.type.at (wpAny_bind (theMro.at ?_))))
  rw [hm.pass XX]
  exact wpAny_pure (wpAny_bind (I.type.at (wpAny_bind ((W.looks_findIn X ha).at (wpAny_bind (noTaker.at hq))))))
/-- .. the first one: a dict is made -/
theorem sa_first (XX : XB bt B newId initId) (X : K.In hp) (hx : hp.get? x = some { cls := .ref C, data := .fields fv }) (hcd : W.clsIn K C = some cd) (hm : Tail bt cd.mro) (hh : cd.hasDict = true) (ha : W.findIn K (.ref C) name = some none)
    (hq : ∀ h' tk' dx, (∀ b o, b ≠ x → hp.get? b = some o → h'.get? b = some o) → hp.objs.size ≤ dx → dx ≠ x → h'.get? x = some { cls := .ref C, dict := some dx, data := .fields fv } →
      h'.Ns1 dx (fun y => if y = name then some v else none) → R (.ok (.ret .none)) ⟨h', g, d, tk', os⟩) :
    codeAny (model prog w) A (.call (.builtin "object.__setattr__") ⟨[.ref x, .str name tk, v], []⟩) R ⟨hp, g, d, t, os⟩ := by
  have I : W.InstAt hp x { cls := .ref C, data := .fields fv } C none := ⟨hx, rfl, rfl, trivial⟩
  have apart : x ≠ hp.objs.size := Nat.ne_of_lt (Heap.lt_size hx)
  refine sa_to XX X I hcd hm ha ?_
  have theCls : W.Looks (model prog w) hp (classData C) cd := W.looks_clsIn X hcd
  obtain ⟨nm, bs, mro, ns, qn, hd, sn, sb, ab, col, del⟩ := cd
  dsimp only at hh
  subst hh
  unfold storeInOwnDict ownDictForStores
  repeat (first | with_reducible refine HandSPX.store_in_new ?_ ?_ | with_reducible refine wpAny_loadPart_at hx ?_ | with_reducible refine theCls.at ?_ | wp_step)
  · exact ⟨_, #[], _, (Heap.get?_update_ne _ _ _ _ apart.symm).trans (Heap.get?_push_at rfl rfl), rfl, fun e he => absurd he (by simp), fun _ => rfl⟩
  · intro h' tk' hn' hs
    have there : (hp.push { cls := .type "dict", data := .dict #[] }).get? x = some { cls := .ref C, data := .fields fv } := Heap.get?_push_of_some _ hx
    refine hq h' tk' hp.objs.size (fun b o hb ho => ?_) (Nat.le_refl _) apart.symm ?_ hn'
    · exact (hs.2 b (Nat.ne_of_lt (Heap.lt_size ho))).trans ((Heap.get?_update_ne _ _ _ _ hb).trans (Heap.get?_push_of_some _ ho))
    · exact (hs.2 x apart).trans (Heap.get?_update_self _ there rfl)
/-- .. a further one -/
theorem sa_next {m0 : Str → Option Value} {nl : List Str} (XX : XB bt B newId initId) (X : K.In hp) (hx : hp.get? x = some { cls := .ref C, dict := some dx, data := .fields fv }) (hns : hp.Ns1 dx m0) (hw : Within m0 nl) (hz : nl.length ≤ 1000)
    (hcd : W.clsIn K C = some cd) (hm : Tail bt cd.mro) (hh : cd.hasDict = true) (ha : W.findIn K (.ref C) name = some none)
    (hq : ∀ h' tk', (∀ b o, b ≠ dx → hp.get? b = some o → h'.get? b = some o) → h'.Ns1 dx (fun y => if y = name then some v else m0 y) → R (.ok (.ret .none)) ⟨h', g, d, tk', os⟩) :
    codeAny (model prog w) A (.call (.builtin "object.__setattr__") ⟨[.ref x, .str name tk, v], []⟩) R ⟨hp, g, d, t, os⟩ := by
  obtain ⟨oD, _, _, hoD, _, _⟩ := hns.count hw
  have I : W.InstAt hp x { cls := .ref C, dict := some dx, data := .fields fv } C (some oD) := ⟨hx, rfl, rfl, hoD⟩
  refine sa_to XX X I hcd hm ha ?_
  have theCls : W.Looks (model prog w) hp (classData C) cd := W.looks_clsIn X hcd
  obtain ⟨nm, bs, mro, ns, qn, hd, sn, sb, ab, col, del⟩ := cd
  dsimp only at hh
  subst hh
  unfold storeInOwnDict ownDictForStores
  repeat (first | with_reducible refine OEX.store_in_old hns hw hz ?_ | with_reducible refine wpAny_loadPart_at hx ?_ | with_reducible refine theCls.at ?_ | wp_step)
  intro h' tk' hn' hs
  exact hq h' tk' (fun b o hb ho => (hs.2 b hb).trans ho) hn'
end
end RoXb
end PySem
namespace Ro
open PySem PySem.Spec PyProof.Rows L2 PySem.RoXb
/-- what the written part says of such a class -/
structure XCl (K : PySem.W.Frag) (C : Addr) (bt : List Value) (newId : String) : Prop where
  cls : ∃ nm q N bs bm sn sub ab col dd k0 k1 k2 k3 k5, K.lookup C = some (excClassObj nm q C N bs bm true sn sub ab col dd k0 k1 k2 k3 k5 newId) ∧ Tail bt bm
  sa : PySem.W.findIn K (.ref C) "__setattr__" = some (some (.builtin "object.__setattr__"))
  exC : PySem.W.subIn K (.ref C) (.type "BaseException") = some true
  tyC : PySem.W.typeIn K (.ref C) = some (.type "type")
  kC : PySem.W.keepIn K (.ref C) = true
section
variable {X : Cx} {pins : List (Addr × Obj)} {σ : L2.St} {H : Hp} {s : Shared} {a C dx : Addr} {f : Str} {y : V} {u : Value} {fs : List (Str × V)} {Q : Unit → Shared → Prop} {E : Value → Shared → Prop} {A : Around} {bt : List Value} {B newId initId : String}
/-- self.f = y, the first field -/
theorem xst_first (XX : XB bt B newId initId) (T : XCl X.K C bt newId) (I : Inv X pins σ H s) (e : H a = some (exo a C none)) (hno : PySem.W.findIn X.K (.ref C) f = some none) (ry : RelV y u)
    (h : ∀ dx s', H dx = none → dx ≠ a → Inv X pins σ (upd (upd H dx (exd dx [(f, y)])) a (exo a C (some dx))) s' → Q () s') : wpAny (model X.prog X.w) A (setAttr (.ref a) f u) Q E s := by
  obtain ⟨nm, q, N, bs, bm, sn, sub, ab, col, dd, k0, k1, k2, k3, k5, hC, hbm⟩ := T.cls
  have hcl : PySem.W.clsIn X.K C = some { name := nm, bases := bs, mro := .ref C :: bm, ns := N, qualname := q, hasDict := true, slotNames := sn, subclasses := sub, abstract := ab, collection := col, hasDel := false } := by unfold PySem.W.clsIn; rw [hC] <;> rfl
  obtain ⟨t1, ho⟩ := exo_at I.hok e
  obtain ⟨hp, g, d, t, os⟩ := s
  refine PySem.W.set_plain I.kIn (ox := { cls := .ref C, dict := none, data := .fields #[.ref t1, .none, .none, .none, .bool false, .none] }) (od := none) ⟨ho, rfl, rfl, trivial⟩ T.sa ?_
  refine sa_first XX I.kIn ho hcl (hbm.cons C) rfl hno (fun h' tk' dx k dn dne hx hn => ?_)
  have free : H dx = none := I.hok.fresh dn
  have nd : ∀ {b : Addr} {o : Obj}, hp.get? b = some o → b ≠ dx := fun {b o} z => Nat.ne_of_lt (Nat.lt_of_lt_of_le (Heap.lt_size z) dn)
  have na : ∀ {b : Addr}, H b = none → b ≠ a := fun {b} n z => by
    rw [z, e] at n
    cases n
  have U : Un X.fs [] H (upd (upd H dx (exd dx [(f, y)])) a (exo a C (some dx))) hp h' := ⟨fun b o z n _ _ => k b o (na n) z, fun b o z n _ _ => ⟨o.slots, k b o (na n) z⟩, fun b o z n _ => by rw [upd_ne (na n), upd_ne (nd z)]; exact n, fun b o z _ => by
      by_cases hb : b = a
      · exact ⟨_, by rw [hb]; exact hx⟩
      · exact ⟨o, k b o hb z⟩, fun b xs z => by rw [upd_ne (at_ne e z exo_tup), upd_ne (ne_of_none z free)]; exact z, fun b o v z => by rw [upd_ne (at_ne e z exo_frz), upd_ne (ne_of_none z free)]; exact z, fun b ps z => ⟨#[], by rw [upd_ne (at_ne e z exo_tbl), upd_ne (ne_of_none z free), z]; simp⟩⟩
  refine h dx _ free dne (I.un (t' := tk') U fun b o z => ?_)
  by_cases hb : b = a
  · subst hb
    rw [upd_same] at z
    cases z
    exact exo_ok hx
  · rw [upd_ne hb] at z
    by_cases hd : b = dx
    · subst hd
      rw [upd_same] at z
      cases z
      exact exd_ok hn (relO_put (fs := []) ry fun g => True.intro)
    · rw [upd_ne hd] at z
      exact (I.hok b o z).stay (fun c v hc z => k c v (hc.elim (fun hc => by rw [hc]; exact hb) fun hc => at_ne e hc exo_own) z)
        (fun c hc => by rw [upd_ne (at_ne e hc exo_own), upd_ne (ne_of_none hc free)]; exact hc) (fun c xs hc => by rw [upd_ne (at_ne e hc exo_tup), upd_ne (ne_of_none hc free)]; exact hc)
/-- self.f = y, a further field -/
theorem xst_next (XX : XB bt B newId initId) (T : XCl X.K C bt newId) (I : Inv X pins σ H s) (e : H a = some (exo a C (some dx))) (ed : H dx = some (exd dx fs)) (hl : fs.length ≤ 900) (hno : PySem.W.findIn X.K (.ref C) f = some none) (ry : RelV y u)
    (h : ∀ s', Inv X pins σ (upd H dx (exd dx ((f, y) :: fs))) s' → Q () s') : wpAny (model X.prog X.w) A (setAttr (.ref a) f u) Q E s := by
  obtain ⟨nm, q, N, bs, bm, sn, sub, ab, col, dd, k0, k1, k2, k3, k5, hC, hbm⟩ := T.cls
  have hcl : PySem.W.clsIn X.K C = some { name := nm, bases := bs, mro := .ref C :: bm, ns := N, qualname := q, hasDict := true, slotNames := sn, subclasses := sub, abstract := ab, collection := col, hasDel := false } := by unfold PySem.W.clsIn; rw [hC] <;> rfl
  obtain ⟨t1, ho⟩ := exo_at I.hok e
  obtain ⟨mA, hns, rel⟩ := exd_at I.hok ed
  have hw := within_of rel
  obtain ⟨hp, g, d, t, os⟩ := s
  obtain ⟨oD, _, _, hoD, _, _⟩ := hns.count hw
  refine PySem.W.set_plain I.kIn (ox := { cls := .ref C, dict := some dx, data := .fields #[.ref t1, .none, .none, .none, .bool false, .none] }) (od := some oD) ⟨ho, rfl, rfl, hoD⟩ T.sa ?_
  refine sa_next XX I.kIn ho hns hw (by rw [List.length_map]; omega) hcl (hbm.cons C) rfl hno (fun h' tk' k hn => ?_)
  have stays : ∃ o, h'.get? dx = some o := by
    obtain ⟨o, _, _, e', _⟩ := hn
    exact ⟨o, e'⟩
  exact h _ (I.write (t' := tk') (x := dx) (e := dx) (o := exd dx ((f, y) :: fs)) (by rw [ed]; exact True.intro) (.inl rfl) k stays (exd_ok hn (relO_put ry rel)))
/-- the built-in class's __init__ of it -/
theorem xinit_ok {us : List Value} {Q : Value → Shared → Prop} (XX : XB bt B newId initId) (T : XCl X.K C bt newId) (I : Inv X pins σ H s) (e : H a = some (exo a C none)) (hl : us.length ≤ sizeLine) (h : ∀ s', Inv X pins σ H s' → Q .none s') :
    wpAny (model X.prog X.w) A (call (.builtin initId) (.ref a :: us)) Q E s := by
  obtain ⟨nm, q, N, bs, bm, sn, sub, ab, col, dd, k0, k1, k2, k3, k5, hC, hbm⟩ := T.cls
  obtain ⟨t1, ho⟩ := exo_at I.hok e
  obtain ⟨hp, g, d, t, os⟩ := s
  refine wpAny_call (PySem.RoXb.if_init XX.I (fun Y => hbm.has Y) (I.kIn _ _ hC) ho hl fun h' t2 k hx => ?_)
  have J := I.write (t' := t) (x := a) (e := a) (o := exo a C none) (by rw [e]; exact True.intro) (.inl rfl) k ⟨_, hx⟩ (exo_ok hx)
  have same : upd H a (exo a C none) = H := by
    funext b
    by_cases hb : b = a
    · rw [hb, upd_same, e]
    · rw [upd_ne hb]
  rw [same] at J
  exact h _ J
end
end Ro
end
section
set_option Elab.async false
set_option linter.all false
set_option maxRecDepth 100000
set_option maxHeartbeats 4000000
namespace Ro
open PySem PySem.Spec PyProof.Rows L2 PySem.RoXb
def tXin (K : PySem.W.Frag) (bt : List Value) (newId : String) (ta : TA) : TE := fun σ H Q => ta σ H fun vs H1 => ∃ (a C : Addr) (ws : List V), vs = .ref a :: ws ∧ ws.length ≤ 1000 ∧ XCl K C bt newId ∧ H1 a = some (exo a C none) ∧ Q .non H1
def tXst (K : PySem.W.Frag) (bt : List Value) (newId : String) (f : Str) (to te : TE) : TS := fun D σ H => te σ H fun y H1 => to σ H1 fun x H2 => ∃ a C : Addr, x = .ref a ∧ XCl K C bt newId ∧ PySem.W.findIn K (.ref C) f = some none ∧
  ((H2 a = some (exo a C none) ∧ ∀ dx, H2 dx = none → dx ≠ a → D.nx σ (upd (upd H2 dx (exd dx [(f, y)])) a (exo a C (some dx)))) ∨
    ∃ (dx : Addr) (fs : List (Str × V)), H2 a = some (exo a C (some dx)) ∧ H2 dx = some (exd dx fs) ∧ fs.length ≤ 900 ∧ D.nx σ (upd H2 dx (exd dx ((f, y) :: fs))))
section
variable {X : Cx} {o e : Expr} {es : List Expr} {to te : TE} {ta : TA} {f : Str} {p p' p1 p2 pos : Pos} {bt : List Value} {B newId initId : String}
theorem xin_run (XX : XB bt B newId initId) (ha : PA X (e :: es) ta) {pins : List (Addr × Obj)} {σ : L2.St} {H : Hp} {s : Shared} {Q : VK} (I : Inv X pins σ H s) (h : tXin X.K bt newId ta σ H Q)
    (he : starEach (e :: es) X.env = (false, eval e X.env) :: starEach es X.env) (hpl : (backTo pos (starEach es X.env)).any (·.1) = false) :
    wpAny (model X.prog X.w) X.A (callWith pos (Value.builtin initId) [] (backTo pos (starEach (e :: es) X.env)) []) (EP X pins σ Q) X.xe s := by
  refine PyProof.Rows.callWith_method1 (thn (ha.run pos pins s σ H _ I h) fun us s1 ⟨vs, H1, I1, r1, a, C, ws, ev, hl, T, ea, q⟩ => ?_) he hpl
  subst ev
  cases r1 with
  | @cons _ u0 _ ur ra rw' =>
    obtain rfl : u0 = Value.ref a := ra
    have few : ur.length ≤ sizeLine := by
      rw [← Paired.length rw', sizeLine_eq]
      omega
    exact xinit_ok XX T I1 ea few fun s' J => ⟨.non, H1, J, rfl, q⟩
/-- .. Base an own class -/
theorem pe_xin_own {pl : Sem Bool} {P : Addr} {x : Str} (XX : XB bt B newId initId) (hg : Gl X x) (hm : X.mg x = some (.ref P)) (sp : PySem.W.specialIn X.K (.ref P) "__getattribute__" = some (some (.builtin "type.__getattribute__"))) (rd : PySem.W.readsIn X.K P (.type "type") = true)
    (fi : PySem.W.findCls X.K (.ref P) (.type "type") "__init__" = some (.val (.builtin initId))) (ha : PA X (e :: es) ta)
    (hc : eval (.Call (.Attribute (.Name x p1) "__init__" p2) (e :: es) [] pos) X.env = (do
      let ov ← eval (.Name x p1) X.env
      standAt p2.atName
      let (f, first) ← holding [ov] (getMethod ov "__init__" pl)
      callWith pos f first (backTo pos (starEach (e :: es) X.env)) (backToKw pos (keywordEach [] X.env))) := by rfl)
    (he : starEach (e :: es) X.env = (false, eval e X.env) :: starEach es X.env := by rfl) (hpl : (backTo pos (starEach es X.env)).any (·.1) = false := by rfl) (hdb : (x == ("__debug__" : Str)) = false := by decide +kernel) :
    PE X (.Call (.Attribute (.Name x p1) "__init__" p2) (e :: es) [] pos) (tXin X.K bt newId ta) := by
  refine ⟨fun pins s σ H Q I h => ?_⟩
  refine PySem.W.methodCall_KW (ld_glob I hg hm ?_ hdb) hc
  refine PySem.W.method_cls I.kIn sp (PySem.W.cls_value I.kIn rd fi XX.hand ?_)
  exact xin_run XX ha (I.tok _) h he hpl
/-- .. Base a built-in class -/
theorem pe_xin_blt {pl : Sem Bool} (XX : XB bt B newId initId) (hg : Gl X (B : Str)) (hm : X.mg (B : Str) = none) (hv : bootBuiltins (B : Str) = some (.type B)) (ty : typeOf (.type B) = pure (.type "type")) (st : Manifest.isStub B = false)
    (fi : PySem.W.findCls X.K (.type B) (.type "type") "__init__" = some (.val (.builtin initId))) (ha : PA X (e :: es) ta)
    (hc : eval (.Call (.Attribute (.Name (B : Str) p1) "__init__" p2) (e :: es) [] pos) X.env = (do
      let ov ← eval (.Name (B : Str) p1) X.env
      standAt p2.atName
      let (f, first) ← holding [ov] (getMethod ov "__init__" pl)
      callWith pos f first (backTo pos (starEach (e :: es) X.env)) (backToKw pos (keywordEach [] X.env))) := by rfl)
    (he : starEach (e :: es) X.env = (false, eval e X.env) :: starEach es X.env := by rfl) (hpl : (backTo pos (starEach es X.env)).any (·.1) = false := by rfl) (hdb : ((B : Str) == ("__debug__" : Str)) = false := by decide +kernel) (hn : (B : Str) ≠ "__name__" := by decide +kernel) :
    PE X (.Call (.Attribute (.Name (B : Str) p1) "__init__" p2) (e :: es) [] pos) (tXin X.K bt newId ta) := by
  refine ⟨fun pins s σ H Q I h => ?_⟩
  refine PySem.W.methodCall_KW (ld_blt I hg hm hv ?_ hn hdb) hc
  obtain ⟨m, fr⟩ := I.fr
  refine PySem.W.method_type fr I.ok.mod.kin ty st fi XX.hand ?_
  exact xin_run XX ha (I.tok _) h he hpl
theorem ps_xst (XX : XB bt B newId initId) (ho : PE X o to) (he : PE X e te) (hs : swapsWith e (some (.Attribute o f p')) pos.line X.env = pure false := by rfl) : PS X (.Assign [.Attribute o f p'] e pos) (tXst X.K bt newId f to te) := by
  refine ⟨fun pins s σ H D I h => ?_⟩
  refine plainObj_wpAny_Assign_Attribute (thn (he.run pins s σ H _ I h) fun v s1 ⟨y, H1, I1, r1, q1⟩ => thn (ho.run pins s1 σ H1 _ I1 q1) fun u s2 ⟨x, H2, I2, r2, a, C, ex, T, hno, q⟩ => ?_) hs
  subst ex
  obtain rfl : u = Value.ref a := r2
  rcases q with ⟨ea, q⟩ | ⟨dx, fs, ea, ed, hl, q⟩
  · exact xst_first XX T I2 ea hno r1 fun dx s' n ne J => ⟨σ, _, J, q dx n ne⟩
  · exact xst_next XX T I2 ea ed hl hno r1 fun s' J => ⟨σ, _, J, q⟩
end
def spX (C : Addr) (flds : List Str) : Sp := fun vs H Q _ => vs.length = flds.length + 1 ∧ ∃ a ws, vs = .ref a :: ws ∧ H a = some (exo a C none) ∧
  ∀ d H', H d = none → d ≠ a → H' a = some (exo a C (some d)) → H' d = some (exd d (flds.zip ws).reverse) → (∀ b, b ≠ a → b ≠ d → H' b = H b) → Q .non H'
structure InitOk (T : Tb) (P : Program) (w : World) (mg : Str → Option Value) (base : Heap) (k : Nat) (d : He.DefD) (ps : List Str) (c : String) (flds : List Str) (bt : List Value) (B newId initId : String) : Prop where
  ex : ∃ fd, FunD T.K d.name d.qual d.params d.body d.scope (d.dvs T.K) [] (He.fAd T.K d.at_) fd ∧ FnG P w T.K mg base k (He.fAd T.K d.at_) fd ps (spX (He.ga T.K (c : Str)) flds)
  xb : XB bt B newId initId
  xc : XCl T.K (He.ga T.K (c : Str)) bt newId
theorem InitOk.mono {T : Tb} {P : Program} {w : World} {mg : Str → Option Value} {base : Heap} {j k : Nat} {d : He.DefD} {ps : List Str} {c : String} {flds : List Str} {bt : List Value} {B newId initId : String} (F : InitOk T P w mg base j d ps c flds bt B newId initId) (h : j ≤ k) : InitOk T P w mg base k d ps c flds bt B newId initId := by
  obtain ⟨fd, F1, F2⟩ := F.ex
  exact ⟨⟨fd, F1, F2.mono h⟩, F.xb, F.xc⟩
section
variable {T : Tb} {P : Program} {w : World} {mg : Str → Option Value} {base : Heap} {k : Nat} {d : He.DefD} {c : String} {bt : List Value} {B newId initId : String} {fd : FuncData}
/-- one field -/
theorem InitOk.of1 {s1 x1 f1 m : Str} {bx : Expr} {j : Nat} {q1 q2 q3 q4 q5 q6 q7 q8 : Pos} (XX : XB bt B newId initId) (XC : XCl T.K (He.ga T.K (c : Str)) bt newId) (F : FunD T.K d.name d.qual d.params d.body d.scope (d.dvs T.K) [] (He.fAd T.K d.at_) fd) (Sc : FnScope [s1, x1] [s1, x1] d.scope)
    (hb : d.body = [.Expr (.Call bx [.Name s1 q1, .Constant (.str m) j q2] [] q3) q4, .Assign [.Attribute (.Name s1 q5) f1 q6] (.Name x1 q7) q8])
    (no1 : PySem.W.findIn T.K (.ref (He.ga T.K (c : Str))) f1 = some none)
    (hd1 : (s1 == ("__debug__" : Str)) = false := by decide +kernel) (hd2 : (x1 == ("__debug__" : Str)) = false := by decide +kernel) (hl1 : d.scope.names.lookup s1 = some .local := by rfl) (hl2 : d.scope.names.lookup x1 = some .local := by rfl)
    (hc1 : (s1 == ("__classdict__" : Str)) = false := by decide +kernel) (hc2 : (x1 == ("__classdict__" : Str)) = false := by decide +kernel)
    (hcall : ∀ (cdv : Value) (A : Around) (outer : List PySem.Env) (s : Shared) (H : Hp) (E : XK) (ta : TA), PA (cxOf (L2N.CX P w) P w T.K mg base [s1, x1] d.qual d.scope (He.fAd T.K d.at_) cdv A outer s H E) [.Name s1 q1, .Constant (.str m) j q2] ta →
      PE (cxOf (L2N.CX P w) P w T.K mg base [s1, x1] d.qual d.scope (He.fAd T.K d.at_) cdv A outer s H E) (.Call bx [.Name s1 q1, .Constant (.str m) j q2] [] q3) (tXin T.K bt newId ta)) :
    InitOk T P w mg base (k + 1) d [s1, x1] c [f1] bt B newId initId := by
  refine ⟨⟨fd, F, ?_⟩, XX, XC⟩
  obtain ⟨oc, od, dV, kV, doc, pm, an, cdv, ct, osl, rfl, lk, hcd, _, _⟩ := F.ex
  refine fnG_of lk hcd Sc (fun vs H Q E h => h.1) fun A outer s H vs Q E hr hsp => ?_
  obtain ⟨hl, a, ws, rfl, ea, hq⟩ := hsp
  rw [hb]
  obtain ⟨v, rfl⟩ : ∃ v, ws = [v] := by
    match ws, hl with
    | [v], _ => exact ⟨v, rfl⟩
  refine ⟨_, pss_cons (ps_expr (hcall cdv A outer s H E _ (pa_cons (pe_var (i := 0) rfl (.inl hl1) hd1 hc1) (pa_cons pe_str pa_nil)))) (pss_one (ps_xst XX (pe_var (i := 0) rfl (.inl hl1) hd1 hc1) (pe_var (i := 1) rfl (.inl hl2) hd2 hc2))), ?_⟩
  refine ⟨.ref a, rfl, a, He.ga T.K (c : Str), [.str m], rfl, by simp, XC, ea, ?_⟩
  refine ⟨v, rfl, .ref a, rfl, a, He.ga T.K (c : Str), rfl, XC, no1, .inl ⟨ea, fun dx hdx hne => ?_⟩⟩
  exact hq dx _ hdx hne upd_same (by rw [upd_ne hne]; exact upd_same) fun b h1 h2 => by rw [upd_ne h1, upd_ne h2]
end
def tMkX (C : Addr) (flds : List Str) (ta : TA) : L2.St → Hp → XK → Prop := fun σ H Q => ta σ H fun vs H1 => vs.length = flds.length ∧ vs.length ≤ 1000 ∧ ∀ d, H1 d = none → Q (.ref C) (some d) (upd H1 d (.xd (flds.zip vs).reverse))
section
variable {X : Cx} {T : Tb} {E : XK} {e : Expr} {es : List Expr} {p pos : Pos} {k : Nat} {d : He.DefD} {ps : List Str} {c : String} {flds : List Str} {bt : List Value} {B newId initId : String} {ta : TA}
theorem pmk_xi (hK : X.K = T.K) (F : InitOk T X.prog X.w X.mg X.base k d ps c flds bt B newId initId) (iC : PySem.W.findIn T.K (.ref (He.ga T.K (c : Str))) "__init__" = some (some (.ref (He.fAd T.K d.at_)))) (tI : PySem.W.typeIn T.K (.ref (He.fAd T.K d.at_)) = some (.type "function"))
    (hr : RG (k + 1) X.A) (hb : ∀ fd, FunD T.K d.name d.qual d.params d.body d.scope (d.dvs T.K) [] (He.fAd T.K d.at_) fd → L2.Binds T.K fd ps []) (hps : ps.length = flds.length + 1) (hx : L2N.Takes X fun _ _ _ _ => False) (hg : Gl X (c : Str)) (hm : X.mg (c : Str) = some (.ref (He.ga T.K (c : Str)))) (ha : PA X (e :: es) ta)
    (hdb : ((c : Str) == ("__debug__" : Str)) = false := by decide +kernel) (he : starEach (e :: es) X.env = (false, eval e X.env) :: starEach es X.env := by rfl) (hpl : (backTo pos (starEach es X.env)).any (·.1) = false := by rfl) :
    L2N.PMk X (.Call (.Name (c : Str) p) (e :: es) [] pos) (tMkX (He.ga T.K (c : Str)) flds ta) := by
  obtain ⟨⟨fd, FD, FO⟩, XX, XC⟩ := F
  rw [← hK] at FO iC tI XC
  have bn := hb fd FD
  rw [← hK] at bn
  generalize hC' : He.ga T.K (c : Str) = C at *
  have eC : He.ga X.K (c : Str) = C := by rw [hK]; exact hC'
  rw [eC] at FO iC XC
  intro pins s σ H Q I h
  obtain ⟨nm, q, N, bs, bm, sn, sub, ab, col, dd, k0, k1, k2, k3, k5, hC, hbm⟩ := XC.cls
  refine wpAny_Call_Name_kw (ld_glob I hg hm ?_ hdb)
  refine PySem.W.callWith_K (h₀ := X.base) I.ok.mod.kin XC.kC (thn (ha.run pos pins s σ H _ I h) fun us s1 ⟨vs, H1, I1, r1, hvl, hz, q1⟩ => ⟨I1.kIn, ?_⟩) he hpl
  show wpAny _ _ (call (.ref C) us) _ _ _
  obtain ⟨hp, g, dr, tk, os⟩ := s1
  have above : hp.objs.size ≤ hp.objs.size + 1 := Nat.le_succ _
  have hn : H1 (hp.objs.size + 1) = none := I1.hok.fresh above
  have grow : ∀ b o, hp.get? b = some o → ((hp.push (PySem.W.kdv_tup us)).push (PySem.HandSPX.excO C hp.objs.size)).get? b = some o := fun b o e => Heap.get?_push_of_some _ (Heap.get?_push_of_some _ e)
  have hget : ((hp.push (PySem.W.kdv_tup us)).push (PySem.HandSPX.excO C hp.objs.size)).get? (hp.objs.size + 1) = some (PySem.HandSPX.excO C hp.objs.size) := by heap_get
  have I2 : Inv X pins σ (upd H1 (hp.objs.size + 1) (exo (hp.objs.size + 1) C none)) ⟨(hp.push (PySem.W.kdv_tup us)).push (PySem.HandSPX.excO C hp.objs.size), g, dr, tk, os⟩ :=
    I1.laid (t' := tk) (a := hp.objs.size + 1) (o := exo (hp.objs.size + 1) C none) (h' := (hp.push (PySem.W.kdv_tup us)).push (PySem.HandSPX.excO C hp.objs.size)) grow above (exo_ok hget)
  have r2 : Vals (V.ref (hp.objs.size + 1) :: vs) (Value.ref (hp.objs.size + 1) :: us) := .cons rfl r1
  have hl : (Value.ref (hp.objs.size + 1) :: us).length = ps.length := by
    rw [← r2.length, hps, List.length_cons, hvl]
  have few : us.length ≤ sizeLine := by
    rw [← Paired.length r1, sizeLine_eq]
    omega
  have start : spX C flds (V.ref (hp.objs.size + 1) :: vs) (upd H1 (hp.objs.size + 1) (exo (hp.objs.size + 1) C none)) (fun v H2 => v = .non ∧ ∃ (d : Addr) (fs : List (Str × V)), H2 (hp.objs.size + 1) = some (exo (hp.objs.size + 1) C (some d)) ∧ H2 d = some (exd d fs) ∧ H1 d = none ∧ Q (.ref C) (some d) (upd (del H2 (hp.objs.size + 1)) d (.xd fs))) E00 := by
    refine ⟨by rw [List.length_cons, hvl], _, vs, rfl, upd_same, fun d0 H' h1 h2 h3 h4 h5 => ⟨rfl, d0, _, h3, h4, ?_, ?_⟩⟩
    · rw [upd_ne h2] at h1; exact h1
    · have hd0 : H1 d0 = none := by rw [upd_ne h2] at h1; exact h1
      have same : upd (del H' (hp.objs.size + 1)) d0 (.xd (flds.zip vs).reverse) = upd H1 d0 (.xd (flds.zip vs).reverse) := by
        funext b
        by_cases hbd : b = d0
        · rw [hbd, upd_same, upd_same]
        · rw [upd_ne hbd, upd_ne hbd]
          by_cases hba : b = hp.objs.size + 1
          · rw [hba, del_same, hn]
          · rw [del_ne hba, h5 b hba hbd, upd_ne hba]
      rw [same]
      exact q1 d0 hd0
  have bto := bn ⟨(hp.push (PySem.W.kdv_tup us)).push (PySem.HandSPX.excO C hp.objs.size), g, dr, tk, os⟩ (Value.ref (hp.objs.size + 1) :: us) I2.kIn (by rw [List.append_nil]; exact hl)
  rw [List.append_nil] at bto
  refine wpAny_call (PySem.RoXb.nf_call XX.N.choose_spec (fun Y => hbm.has Y) (I1.kIn _ _ hC) (PySem.W.looks_findIn I1.kIn iC) (fun self => PySem.W.bind_fn I1.kIn self tI) few
    (codeAny_mono (FO.run _ X.stack _ _ ⟨Value.ref (hp.objs.size + 1) :: us, []⟩ (Value.ref (hp.objs.size + 1) :: us) _ _ E00 (hr.make C us []) (I2.env0.make C us []) bto r2 start) fun r s' hq' => ?_))
  match r, hq' with
  | .error er, hq' => exact L2N.passes_call hx (fun _ _ _ _ h => h) pins σ _ _ er s' I2 hq'
  | .ok (.ret u), hq' =>
    obtain ⟨v, H2, os2, bare2, un2, hok2, rv, ev, d0, fs, ea, ed, hd1, q2⟩ := hq'
    subst ev
    obtain ⟨h2, g2, d2, t2, os'⟩ := s'
    obtain ⟨t0, G, J, kG, ge, hoe, na⟩ := mk_end0 (d2 := d2) (t2 := t2) I1 above grow un2 hok2 os2 bare2 ea ed hd1
    exact ⟨rv, _, _, _, ⟨G, g2, d2, t2, os'⟩, _, .ref C, some d0, rfl, J, kG, ge, hoe, ⟨rfl, rfl, fun vs e => by cases e; rfl⟩, rfl, rfl, na, rfl, bare2, raises_own XC.exC XC.tyC, q2⟩
/-- raise C(..), C with an own __init__ that sets the fields flds -/
theorem is_raiseI {fa : AX} {pos' : Pos} (hK : X.K = T.K) (hc : X.calm = true) (tk : L2N.Takes X fun c d _ H => E c d H) (hx : L2N.Takes X fun _ _ _ _ => False) (F : InitOk T X.prog X.w X.mg X.base k d ps c flds bt B newId initId) (iC : PySem.W.findIn T.K (.ref (He.ga T.K (c : Str))) "__init__" = some (some (.ref (He.fAd T.K d.at_)))) (tI : PySem.W.typeIn T.K (.ref (He.fAd T.K d.at_)) = some (.type "function"))
    (hr : RG (k + 1) X.A) (hb : ∀ fd, FunD T.K d.name d.qual d.params d.body d.scope (d.dvs T.K) [] (He.fAd T.K d.at_) fd → L2.Binds T.K fd ps []) (hps : ps.length = flds.length + 1) (hg : Gl X (c : Str)) (hm : X.mg (c : Str) = some (.ref (He.ga T.K (c : Str)))) (ha : IA T E X (e :: es) fa)
    (hlk : ∀ vs : List V, vs.length = flds.length → ∃ gs, gs = (flds.zip vs).reverse ∧ (∀ f ∈ T.cf c, ∃ v, gs.lookup (Str.ofString f) = some v) ∧ (T.cf c).map (fun f : String => (gs.lookup (Str.ofString f)).getD .non) = vs)
    (hdb : ((c : Str) == ("__debug__" : Str)) = false := by decide +kernel) (he : starEach (e :: es) X.env = (false, eval e X.env) :: starEach es X.env := by rfl) (hpl : (backTo pos (starEach es X.env)).any (·.1) = false := by rfl) :
    IS T E X (.Raise (some (.Call (.Name (c : Str) p) (e :: es) [] pos)) none pos') (sRaise c fun env S => (fa env S).bnd fun ds S1 => if ds.length = flds.length ∧ ds.length ≤ 1000 then .ok ds S1 else .bad) := by
  refine PS.mono (L2N.ps_raise hc tk (pmk_xi hK F iC tI hr hb hps hx hg hm ha hdb he hpl)) fun De σ H ⟨w, env, S, r, e, q⟩ => ?_
  refine ⟨w, env, S, r, e, ?_⟩
  have q : RP (((fa env S).bnd fun ds S1 => if ds.length = flds.length ∧ ds.length ≤ 1000 then (.ok ds S1 : R (List D)) else .bad).bnd fun fs S1 => (.err c fs S1 : R Ctl)) (CP T w De) (XW T w E) := q
  cases z : fa env S with
  | ok ds S1 =>
    rw [z, bnd_ok] at q
    by_cases hl : ds.length = flds.length ∧ ds.length ≤ 1000
    · rw [if_pos hl, bnd_ok] at q
      have q : XW T w E c ds S1 := q
      show ∀ w' H' vs, w.le w' → WR T w' S1 H' → Reps T w' ds vs → _
      intro w' H' vs l r' px
      refine ⟨by rw [← px.length]; exact hl.1, by rw [← px.length]; exact hl.2, fun d0 hd0 => ?_⟩
      obtain ⟨gs, hgs, g1, g2⟩ := hlk vs (by rw [← px.length]; exact hl.1)
      rw [← hgs]
      refine q w' _ _ _ l (r'.grow fun a u e => by rw [upd_ne (ne_of_none e hd0)]; exact e) ⟨rfl, .inr ⟨d0, gs, rfl, upd_same, g1, ?_⟩⟩
      rw [g2]
      exact px
    · rw [if_neg hl] at q
      exact (show False from q).elim
  | err c2 fs S1 => rw [z] at q; exact q
  | bad => rw [z] at q; exact (show False from q).elim
end
end Ro
end
section
set_option Elab.async false
set_option linter.all false
set_option maxRecDepth 100000
set_option maxHeartbeats 4000000
namespace Ro
open PySem PySem.Spec PyProof.Rows L2 PySem.RoXb
def xclB (K : PySem.W.Frag) (C : Addr) (bt : List Value) (newId : String) : Bool := (match K.lookup C with
  | some ⟨.type t, _, .cls cd, sl⟩ => decide (t = "type") && (match cd.mro, sl.toList with
    | .ref C' :: bm, [_, _, _, _, some (.builtin n), _] => decide (C' = C) && (decide (n = newId) && (!cd.hasDel && (cd.hasDict && tailB bt bm)))
    | _, _ => false)
  | _ => false) && (decide (PySem.W.findIn K (.ref C) "__setattr__" = some (some (.builtin "object.__setattr__"))) && (decide (PySem.W.subIn K (.ref C) (.type "BaseException") = some true) && (decide (PySem.W.typeIn K (.ref C) = some (.type "type")) && PySem.W.keepIn K (.ref C))))
theorem xcl_of {K : PySem.W.Frag} {C : Addr} {bt : List Value} {newId : String} (h : xclB K C bt newId = true) : XCl K C bt newId := by
  unfold xclB at h
  simp only [Bool.and_eq_true, decide_eq_true_eq] at h
  obtain ⟨h0, h1, h2, h3, h4⟩ := h
  refine ⟨?_, h1, h2, h3, h4⟩
  split at h0
  · rename_i t dd cd sl ho
    simp only [Bool.and_eq_true, decide_eq_true_eq] at h0
    obtain ⟨rfl, h0⟩ := h0
    split at h0
    · rename_i C' bm k0 k1 k2 k3 n k5 hm hs
      simp only [Bool.and_eq_true, decide_eq_true_eq, Bool.not_eq_true'] at h0
      obtain ⟨rfl, rfl, hdel, hdct, ht⟩ := h0
      obtain ⟨nm, bs, mro, ns, qn, hd, sn, sub, ab, col, del⟩ := cd
      dsimp only at hm hdel hdct
      subst hm hdel hdct
      have hsl : sl = #[k0, k1, k2, k3, some (.builtin n), k5] := by
        obtain ⟨l⟩ := sl
        simp only at hs
        rw [hs]
      subst hsl
      exact ⟨nm, qn, ns, bs, bm, sn, sub, ab, col, dd, k0, k1, k2, k3, k5, ho, tail_of ht⟩
    · cases h0
  · cases h0
def xiB (c : String) (bt : List Value) (newId : String) (flds : List Str) (K : PySem.W.Frag) : Bool := xclB K (He.ga K (c : Str)) bt newId && (decide (PySem.W.findIn K (.ref (He.ga K (c : Str))) "__init__" = some (some (.ref (He.fAd K ((c : Str), some ("__init__" : Str)))))) &&
  (decide (PySem.W.typeIn K (.ref (He.fAd K ((c : Str), some ("__init__" : Str)))) = some (.type "function")) && flds.all fun f => decide (PySem.W.findIn K (.ref (He.ga K (c : Str))) f = some none)))
structure XI (K : PySem.W.Frag) (c : String) (bt : List Value) (newId : String) (flds : List Str) : Prop where
  xc : XCl K (He.ga K (c : Str)) bt newId
  ini : PySem.W.findIn K (.ref (He.ga K (c : Str))) "__init__" = some (some (.ref (He.fAd K ((c : Str), some ("__init__" : Str)))))
  fn : PySem.W.typeIn K (.ref (He.fAd K ((c : Str), some ("__init__" : Str)))) = some (.type "function")
  no : ∀ f ∈ flds, PySem.W.findIn K (.ref (He.ga K (c : Str))) f = some none
theorem xi_of {c : String} {bt : List Value} {newId : String} {flds : List Str} {K : PySem.W.Frag} (h : xiB c bt newId flds K = true) : XI K c bt newId flds := by
  unfold xiB at h
  simp only [Bool.and_eq_true, decide_eq_true_eq, List.all_eq_true] at h
  exact ⟨xcl_of h.1, h.2.1, h.2.2.1, h.2.2.2⟩
def initIsB (c : Value) (initId : String) (K : PySem.W.Frag) : Bool := match PySem.W.findCls K c (.type "type") "__init__" with
  | some (.val (.builtin n)) => decide (n = initId)
  | _ => false
theorem initIs_of {c : Value} {initId : String} {K : PySem.W.Frag} (h : initIsB c initId K = true) : PySem.W.findCls K c (.type "type") "__init__" = some (.val (.builtin initId)) := by
  unfold initIsB at h
  split at h
  · rename_i n e
    rw [e, of_decide_eq_true h]
  · cases h
def ownBaseB (x : String) (initId : String) (K : PySem.W.Frag) : Bool := decide (PySem.W.specialIn K (.ref (He.ga K (x : Str))) "__getattribute__" = some (some (.builtin "type.__getattribute__"))) && (PySem.W.readsIn K (He.ga K (x : Str)) (.type "type") && initIsB (.ref (He.ga K (x : Str))) initId K)
theorem ownBase_of {x initId : String} {K : PySem.W.Frag} (h : ownBaseB x initId K = true) : PySem.W.specialIn K (.ref (He.ga K (x : Str))) "__getattribute__" = some (some (.builtin "type.__getattribute__")) ∧ PySem.W.readsIn K (He.ga K (x : Str)) (.type "type") = true ∧ PySem.W.findCls K (.ref (He.ga K (x : Str))) (.type "type") "__init__" = some (.val (.builtin initId)) := by
  unfold ownBaseB at h
  simp only [Bool.and_eq_true, decide_eq_true_eq] at h
  exact ⟨h.1, h.2.1, initIs_of h.2.2⟩
abbrev btVE : List Value := [.type "ValueError", .type "Exception", .type "BaseException", .type "object"]
abbrev btIE : List Value := [.type "IndexError", .type "LookupError", .type "Exception", .type "BaseException", .type "object"]
theorem xbVE : XB btVE "ValueError" "ValueError.__new__" "ValueError.__init__" := ⟨⟨_, NF.of PySem.F.excBase_ValueError⟩, .of PySem.F.excBase_ValueError, PySem.F.store_ValueError.passes, by decide +kernel, rfl, by decide +kernel⟩
theorem xbIE : XB btIE "IndexError" "IndexError.__new__" "IndexError.__init__" := ⟨⟨_, NF.of PySem.F.excBase_IndexError⟩, .of PySem.F.excBase_IndexError, PySem.F.store_IndexError.passes, by decide +kernel, rfl, by decide +kernel⟩
theorem tyIE : typeOf (.type "IndexError") = pure (.type "type") := by kernel_rfl
/-- fields found again -/
theorem hlk1 {T : Tb} {c f1 : String} (h : T.cf c = [f1]) : ∀ vs : List V, vs.length = [(f1 : Str)].length → ∃ gs, gs = ([(f1 : Str)].zip vs).reverse ∧ (∀ f ∈ T.cf c, ∃ v, gs.lookup (Str.ofString f) = some v) ∧ (T.cf c).map (fun f : String => (gs.lookup (Str.ofString f)).getD .non) = vs := by
  intro vs hv
  match vs, hv with
  | [v], _ =>
    have e : List.lookup (Str.ofString f1) [((f1 : Str), v)] = some v := by simp [List.lookup]
    refine ⟨_, rfl, fun f hf => ?_, ?_⟩
    · rw [h] at hf
      obtain rfl : f = f1 := by simpa using hf
      exact ⟨v, e⟩
    · rw [h]
      show [(List.lookup (Str.ofString f1) [((f1 : Str), v)]).getD .non] = [v]
      rw [e]
      rfl
def eXf (cf : String → List String) (cn fn : String) (f : EX) : EX := fun env S => (f env S).bnd fun x S1 => match x with
  | .thk 0 fs => lift (((cf cn).zip fs).lookup fn) S1
  | _ => .bad
theorem zip_look {w : Wd} {T : Tb} {fn : String} {d : D} {gs : List (Str × V)} : ∀ {ns : List String} {fs : List D}, (ns.zip fs).lookup fn = some d → (∀ f ∈ ns, ∃ v, gs.lookup (Str.ofString f) = some v) → Reps T w fs (ns.map fun f : String => (gs.lookup (Str.ofString f)).getD .non) → fn ∈ ns ∧ ∃ v, gs.lookup (Str.ofString fn) = some v ∧ Rep T w d v
  | [], fs, h, _, _ => by cases fs <;> cases h
  | n :: ns, [], h, _, _ => by cases h
  | n :: ns, x :: fs, h, ex, r => by
    cases r with
    | cons q r =>
      have h : (match fn == n with | true => some x | false => (ns.zip fs).lookup fn) = some d := h
      cases e : fn == n with
      | true =>
        rw [e] at h
        cases h
        obtain rfl : fn = n := by simpa using e
        obtain ⟨v, hv⟩ := ex fn (by simp)
        refine ⟨by simp, v, hv, ?_⟩
        have q : Rep T w d ((gs.lookup (Str.ofString fn)).getD .non) := q
        rw [hv] at q
        exact q
      | false =>
        rw [e] at h
        obtain ⟨h1, h2⟩ := zip_look h (fun f hf => ex f (by simp [hf])) r
        exact ⟨by simp [h1], h2⟩
theorem look_in {fn : String} {d : D} : ∀ {ns : List String} {fs : List D}, (ns.zip fs).lookup fn = some d → fn ∈ ns
  | [], fs, h => by cases fs <;> cases h
  | n :: ns, [], h => by cases h
  | n :: ns, x :: fs, h => by
    have h : (match fn == n with | true => some x | false => (ns.zip fs).lookup fn) = some d := h
    cases e : fn == n with
    | true => simp at e; simp [e]
    | false =>
      rw [e] at h
      simp [look_in h]
end Ro
end
section
set_option Elab.async false
set_option linter.all false
set_option maxRecDepth 100000
set_option maxHeartbeats 4000000
namespace Ro
open PySem PySem.Spec PyProof.Rows L2 PySem.RoXb
/-- as many as asked -/
def aChk (n : Nat) (fa : AX) : AX := fun env S => (fa env S).bnd fun ds S1 => if ds.length = n ∧ ds.length ≤ 1000 then .ok ds S1 else .bad
section
variable {X : Cx} {T : Tb} {E : XK} {e : Expr} {es : List Expr} {p pos : Pos} {k : Nat} {d : He.DefD} {ps : List Str} {c : String} {flds : List Str} {bt : List Value} {B newId initId : String}
theorem is_raiseF {n : Nat} {fa : AX} {pos' : Pos} (hK : X.K = T.K) (hc : X.calm = true) (tk : L2N.Takes X fun c d _ H => E c d H) (F : InitOk T X.prog X.w X.mg X.base k d ps c flds bt B newId initId) (hat : d.at_ = ((c : Str), some ("__init__" : Str))) (XI' : XI T.K c bt newId flds)
    (hr : RG (k + 1) X.A) (hb : ∀ fd, FunD T.K d.name d.qual d.params d.body d.scope (d.dvs T.K) [] (He.fAd T.K d.at_) fd → L2.Binds T.K fd ps []) (hps : ps.length = flds.length + 1) (hg : Gl X (c : Str)) (hm : X.mg (c : Str) = some (.ref (He.ga T.K (c : Str)))) (ha : IA T E X (e :: es) fa)
    (hlk : ∀ vs : List V, vs.length = flds.length → ∃ gs, gs = (flds.zip vs).reverse ∧ (∀ f ∈ T.cf c, ∃ v, gs.lookup (Str.ofString f) = some v) ∧ (T.cf c).map (fun f : String => (gs.lookup (Str.ofString f)).getD .non) = vs)
    (hdb : ((c : Str) == ("__debug__" : Str)) = false := by decide +kernel) (he : starEach (e :: es) X.env = (false, eval e X.env) :: starEach es X.env := by rfl) (hpl : (backTo pos (starEach es X.env)).any (·.1) = false := by rfl) (hn : flds.length = n := by rfl) :
    IS T E X (.Raise (some (.Call (.Name (c : Str) p) (e :: es) [] pos)) none pos') (sRaise c (aChk n fa)) := by
  subst hn
  exact is_raiseI hK hc tk takes0N F (by rw [hat]; exact XI'.ini) (by rw [hat]; exact XI'.fn) hr hb hps hg hm ha hlk hdb he hpl
end
end Ro
end
section
set_option Elab.async false
set_option linter.all false
set_option maxRecDepth 100000
set_option maxHeartbeats 4000000
namespace Ro
open PySem PySem.Spec PyProof.Rows L2
def mulR : D → D → Option D
  | .lst l, .int k => if 0 ≤ k ∧ k ≤ 1000 ∧ l.length ≤ 1000 then some (.lst (List.replicate k.toNat l).flatten) else none
  | .tup l, .int k => if 2 ≤ k ∧ k ≤ 1000 ∧ l.length ≤ 1000 ∧ l ≠ [] then some (.tup (List.replicate k.toNat l).flatten) else none
  | .int i, .int j => if mulOk i j then some (.int (i * j)) else none
  | _, _ => none
section
variable {X : Cx} {T : Tb} {E : XK} {a b : Expr} {f g : EX} {pos : Pos}
theorem Reps.rep {w : Wd} {l : List D} {vs : List V} (r : Reps T w l vs) : ∀ n : Nat, Reps T w (List.replicate n l).flatten (List.replicate n vs).flatten
  | 0 => .nil
  | n + 1 => by
    rw [List.replicate_succ, List.replicate_succ, List.flatten_cons, List.flatten_cons]
    exact r.append (r.rep n)
theorem oi_mulR (hK : X.K = T.K) : OpR X (binaryOp .Mult) (rOp T mulR) := orOp2 fun w d e r S x y H Q h1 h2 h3 h4 h5 => by
  unfold mulR at h4
  split at h4
  · rename_i l k
    cases h2 with
    | lst q2 r2 =>
    cases h3
    split at h4
    · rename_i hl
      cases h4
      obtain ⟨k1, k2, k3⟩ := hl
      refine ⟨_, op_rep, _, _, _, rfl, rfl, h1.sub _ _ q2, by omega, by omega, ?_, fun p hp => ?_⟩
      · rw [sizeLine_eq, ← r2.length]
        have : l.length * k.toNat ≤ 1000 * 1000 := Nat.mul_le_mul k3 (by omega)
        omega
      · obtain ⟨l1, r1⟩ := h1.new hp (.lst _)
        exact h5 _ _ _ l1 r1 (.lst upd_same ((r2.rep _).mono l1))
    · cases h4
  · rename_i l k
    cases h2 with
    | tup q2 r2 =>
    cases h3
    split at h4
    · rename_i hl
      cases h4
      obtain ⟨k1, k2, k3, k4⟩ := hl
      refine ⟨_, op_repT, _, _, _, rfl, rfl, by rw [hK]; exact sqt_sub h1 q2, ?_, k1, k2, by rw [← r2.length]; exact k3, fun p hp => ?_⟩
      · intro z
        subst z
        cases r2
        exact k4 rfl
      · obtain ⟨l1, r1⟩ := h1.new hp (.tup _)
        exact h5 _ _ _ l1 r1 (.tup (.inl (.inl upd_same)) ((r2.rep _).mono l1))
    · cases h4
  · cases h2; cases h3
    split at h4
    · rename_i hl
      cases h4
      exact ⟨_, op_mulW, _, _, rfl, rfl, (by unfold CMulW; simpa [mulOk] using hl), h5 w H _ (Wd.le.refl _) h1 (.int _)⟩
    · cases h4
  · cases h4
def seeD (d : D) (S : Store) : D := match d with
  | .ref n => match S[n]? with
    | some (.lst l) => .lst l
    | _ => d
  | _ => d
def eOpS (op : D → D → Option D) (f g : EX) : EX := fun env S => (f env S).bnd fun x S1 => (g env S1).bnd fun y S2 => lift (op (seeD x S2) (seeD y S2)) S2
theorem dp_see {w : Wd} {S : Store} {H : Hp} (r : WR T w S H) {d : D} {x : V} (h : plN 8 (seeD d S) = true) (q : Rep T w d x) : Dp T.K H x (toPy (seeD d S)) := by
  cases d with
  | ref n =>
    cases q with
    | ref hn =>
    unfold seeD at h ⊢
    dsimp only at h ⊢
    cases z : S[n]? with
    | none => rw [z] at h; simp [plN] at h
    | some c =>
      rw [z] at h
      cases c with
      | lst l =>
        obtain ⟨vs, h1, h2⟩ := r.cell n _ _ z hn
        exact .lst (.inl (.inl h1)) (dpAll_of r 7 l vs h h2)
      | _ => simp [plN] at h
  | _ => exact dp_of r 8 _ x h q
end
end Ro
end
section
set_option Elab.async false
set_option linter.all false
set_option maxRecDepth 100000
set_option maxHeartbeats 4000000
namespace Ro
open PySem PySem.Spec PyProof.Rows L2
variable {T : Tb} {E : XK} {X : Cx} {a b : Expr} {f g : EX} {pos : Pos}
theorem ie_dct0 : IE T E X (.Dict [] [] pos) (eC (.dct [])) := PE.mono pe_dnewK fun σ H Q ⟨w, env, S, r, e, q⟩ => fun p hp => by
  obtain ⟨l, r'⟩ := r.new hp (.dK [])
  exact q _ _ _ l r' (.dct upd_same .nil)
/-- an expression that is a constant, whatever the heap -/
def CE (X : Cx) (e : Expr) (v : V) : Prop := PE X e (tC v)
theorem ce_int {i : Int} {j : Nat} : CE X (.Constant (.int i) j pos) (.int i) := pe_int
theorem ce_str {s : Str} {j : Nat} : CE X (.Constant (.str s) j pos) (.str s) := pe_str
def atomD : D → Option V
  | .non => some .non
  | .bl b => some (.bl b)
  | .int i => some (.int i)
  | .str s => some (.str s)
  | _ => none
theorem atom_rep {w : Wd} {d : D} {v : V} (h : atomD d = some v) : Rep T w d v := by
  cases d <;> first | (cases h; first | exact .non | exact .bl _ | exact .int _ | exact .str _) | cases h
inductive CPs (X : Cx) : List (Option Expr) → List Expr → List (Key × D) → Prop
  | nil : CPs X [] [] []
  | cons {k e : Expr} {ks : List (Option Expr)} {es : List Expr} {y : Key} {d : D} {v : V} {l : List (Key × D)} (hk : CE X k (kV y)) (he : CE X e v) (hv : atomD d = some v) (r : CPs X ks es l) : CPs X (some k :: ks) (e :: es) ((y, d) :: l)
def keyD : Key → D
  | .inl i => .int i
  | .inr s => .str s
def dctC (l : List (Key × D)) : D := .dct (l.map fun p => (keyD p.1, p.2))
theorem cps_all {ks : List (Option Expr)} {es : List Expr} {l : List (Key × D)} (h : CPs X ks es l) :
    ks.all (·.isSome) = true ∧ ks.length = es.length ∧ ks.length = l.length ∧ ∃ trs vs, PPs X pos ks es trs ∧ (∀ σ H Q, Q (vs.map fun p : Key × V => (kV p.1, p.2)) H → tPairs trs σ H Q) ∧ vs.map (·.1) = l.map (·.1) ∧ ∀ w : Wd, RepK T w (l.map fun p => (keyD p.1, p.2)) vs := by
  induction h with
  | nil => exact ⟨rfl, rfl, rfl, [], [], pps_nil, fun _ _ _ q => q, rfl, fun _ => .nil⟩
  | @cons k e ks es y d v l hk he hv r ih =>
    obtain ⟨h1, h2, h3, trs, vs, h4, h5, h6, h7⟩ := ih
    refine ⟨by simp [h1], by simp [h2], by simp [h3], _, (y, v) :: vs, pps_cons hk he h4, fun σ H Q q => ?_, by simp [h6], fun w => ?_⟩
    · show tPairs trs σ H _
      exact h5 σ H _ q
    · cases y with
      | inl i => exact .int (atom_rep hv) (h7 w)
      | inr s => exact .str (atom_rep hv) (h7 w)
theorem mergeK_new : ∀ {more kvs : List (Key × V)}, ((kvs ++ more).map (·.1)).Nodup → mergeK kvs more = kvs ++ more
  | [], kvs, _ => by simp [mergeK]
  | p :: more, kvs, h => by
    have hn : (kvs.any fun kv => decide (kv.1 = p.1)) = false := by
      rw [List.any_eq_false]
      intro q hq e
      have e := of_decide_eq_true e
      rw [List.map_append, List.nodup_append] at h
      exact h.2.2 q.1 (List.mem_map_of_mem hq) p.1 (by simp) e
    show mergeK (putK kvs p.1 p.2) more = _
    unfold putK
    rw [hn]
    show mergeK (kvs ++ [(p.1, p.2)]) more = _
    rw [mergeK_new (by simpa using h)]
    simp
theorem ie_dctC {ks : List (Option Expr)} {es : List Expr} {l : List (Key × D)} (h : CPs X ks es l) (h0 : l ≠ []) (h15 : l.length ≤ 15) (hn : (l.map (·.1)).Nodup) : IE T E X (.Dict ks es pos) (eC (dctC l)) := by
  obtain ⟨h1, h2, h3, trs, vs, h4, h5, h6, h7⟩ := cps_all (T := T) (pos := pos) h
  refine PE.mono (pe_disp h4 h1 h2 (fun z => h0 (by rw [z] at h3; exact List.length_eq_zero_iff.mp h3.symm)) (by omega)) fun σ H Q ⟨w, env, S, r, e, q⟩ => fun p hp => h5 _ _ _ ⟨upd_same, vs, rfl, ?_, ?_⟩
  · have e1 : (vs.map (·.1)).length = (l.map (·.1)).length := by rw [h6]
    simp at e1
    omega
  · have e1 : upd (upd H p (.dK [])) p (.dK (mergeK [] vs)) = upd H p (.dK vs) := by
      rw [mergeK_new (by simpa [h6] using hn)]
      funext b
      by_cases hb : b = p
      · subst hb; rw [upd_same, upd_same]; rfl
      · rw [upd_ne hb, upd_ne hb, upd_ne hb]
    rw [e1]
    obtain ⟨l', r'⟩ := r.new hp (.dK vs)
    exact q _ _ _ l' r' (.dct upd_same (h7 _))
end Ro
end
section
set_option Elab.async false
set_option linter.all false
set_option maxRecDepth 100000
set_option maxHeartbeats 4000000
namespace Ro
open PySem PySem.Spec PyProof.Rows L2
variable {T : Tb} {E : XK} {X : Cx} {a b : Expr} {f g : EX} {pos : Pos}
def keyP : D → PyData
  | .int i => .int i
  | .str s => .str s
  | _ => .none
mutual
def toPx : D → PyData
  | .tup l => .tuple (toPxs l)
  | .dct l => .dict (toPxk l)
  | .bl b => .bool b
  | .int i => .int i
  | .str s => .str s
  | _ => .none
def toPxs : List D → List PyData
  | [] => []
  | x :: l => toPx x :: toPxs l
def toPxk : List (D × D) → List (PyData × PyData)
  | [] => []
  | (k, v) :: l => (keyP k, toPx v) :: toPxk l
end
def atomQ : D → Bool
  | .non => true
  | .bl _ => true
  | .int _ => true
  | .str _ => true
  | _ => false
def plQ : Nat → D → Bool
  | _, .non => true
  | _, .bl _ => true
  | _, .int _ => true
  | _, .str _ => true
  | n + 1, .tup l => l.all (plQ n)
  | n + 1, .dct l => l.all fun p => atomQ p.2
  | _, _ => false
def reprOkX (d : D) : Bool := plQ 4 d && ((toPx d).showable && (decide ((toPx d).depth ≤ 20) && decide ((toPx d).shown.length ≤ LINE)))
def bReprX : List D → Option D
  | [x] => if reprOk x then some (.str (toPy x).shown) else if reprOkX x then some (.str (toPx x).shown) else none
  | _ => none
theorem atom_reads {h : Heap} {w : Wd} {d : D} {v : V} {u : Value} (ha : atomQ d = true) (r : Rep T w d v) (ru : RelV v u) : Reads h u (toPx d) [] := by
  cases r with
  | non => cases ru; exact .none
  | bl b => cases ru; exact .bool b
  | int i => obtain ⟨t, rfl⟩ := ru; exact .int i t
  | str s => obtain ⟨t, rfl⟩ := ru; exact .str s t
  | _ => cases ha
theorem kvs_reads {h : Heap} {P : Program} {w0 : World} {w : Wd} : ∀ {l : List (D × D)} {kvs : List (Key × V)} {vs : List (Key × Value)} {es : List DictEntry}, RepK T w l kvs → KV kvs vs → Pairs (knd := mixKind P w0) es vs → (l.all fun p => atomQ p.2) = true →
    ReadsAll h (es.map (·.key)) ((toPxk l).map (·.1)) [] ∧ ReadsAll h (es.map (·.val)) ((toPxk l).map (·.2)) []
  | _, _, _, _, .nil, kv, pr, _ => by
    cases kv; cases pr
    exact ⟨.nil, .nil⟩
  | _, _, _, _, .int hd rd, kv, pr, ha => by
    obtain ⟨h1, h2⟩ := He.ba ha
    cases kv with
    | cons k1 k2 =>
      obtain ⟨e1, e2⟩ := k1
      cases pr with
      | cons p1 p2 p3 =>
        obtain ⟨i1, i2⟩ := kvs_reads (h := h) rd k2 p3 h2
        rw [← e1] at p1
        have p1 : keyIs (Sum.inl _) _ = true := p1
        rcases keyIs_shape p1 with ⟨i, t, z1, z2⟩ | ⟨x, t, z1, z2⟩
        · cases z1
          refine ⟨?_, ?_⟩
          · rw [List.map_cons, z2]
            exact ReadsAll.cons (as := []) (bs := []) (.int _ _) i1
          · rw [List.map_cons, p2]
            exact ReadsAll.cons (as := []) (bs := []) (atom_reads h1 hd e2) i2
        · cases z1
  | _, _, _, _, .str hd rd, kv, pr, ha => by
    obtain ⟨h1, h2⟩ := He.ba ha
    cases kv with
    | cons k1 k2 =>
      obtain ⟨e1, e2⟩ := k1
      cases pr with
      | cons p1 p2 p3 =>
        obtain ⟨i1, i2⟩ := kvs_reads (h := h) rd k2 p3 h2
        rw [← e1] at p1
        have p1 : keyIs (Sum.inr _) _ = true := p1
        rcases keyIs_shape p1 with ⟨i, t, z1, z2⟩ | ⟨x, t, z1, z2⟩
        · cases z1
        · cases z1
          refine ⟨?_, ?_⟩
          · rw [List.map_cons, z2]
            exact ReadsAll.cons (as := []) (bs := []) (.str _ _) i1
          · rw [List.map_cons, p2]
            exact ReadsAll.cons (as := []) (bs := []) (atom_reads h1 hd e2) i2
section
variable {pins : List (Addr × Obj)} {σ : L2.St} {H : Hp} {s : Shared} {w : Wd} {S : Store}
theorem px_reads (hK : X.K = T.K) (I : Inv X pins σ H s) (r : WR T w S H) : ∀ (n : Nat) (d : D) (v : V) (u : Value), plQ n d = true → Rep T w d v → RelV v u → ∃ as, Reads s.heap u (toPx d) as ∧ sysModules ∉ as := by
  intro n
  induction n with
  | zero =>
    intro d v u hd rd ru
    have ha : atomQ d = true := by cases d <;> first | rfl | cases hd
    exact ⟨[], atom_reads ha rd ru, by simp⟩
  | succ n ih =>
    intro d v u hd rd ru
    have all_ : ∀ (l : List D) (vs : List V) (us : List Value), l.all (plQ n) = true → Reps T w l vs → Vals vs us → ∃ as, ReadsAll s.heap us (toPxs l) as ∧ sysModules ∉ as := by
      intro l
      induction l with
      | nil =>
        intro vs us _ z1 z2
        cases z1; cases z2
        exact ⟨[], .nil, by simp⟩
      | cons x l ihl =>
        intro vs us hl z1 z2
        obtain ⟨h1, h2⟩ := He.ba (show (plQ n x && l.all (plQ n)) = true from hl)
        cases z1 with
        | cons y1 y2 =>
          cases z2 with
          | cons x1 x2 =>
            obtain ⟨as, q1, q2⟩ := ih x _ _ h1 y1 x1
            obtain ⟨bs, q3, q4⟩ := ihl _ _ h2 y2 x2
            exact ⟨as ++ bs, .cons q1 q3, by simp [q2, q4]⟩
    have rd0 := rd
    cases rd with
    | tup q1 q2 =>
      cases ru
      have h' : (X.K = T.K) := hK
      obtain ⟨its, rv, ⟨o, ho, hc, m, hdt⟩, _⟩ := I.tuple (by rw [hK]; exact sqt_sub r q1)
      obtain ⟨as, z1, z2⟩ := all_ _ _ _ hd q2 rv
      exact ⟨as, .tuple ho hc hdt z1, z2⟩
    | dct q1 q2 =>
      cases ru
      obtain ⟨_, hm, vs0, kv, o, es, ep, ho, hx, hdt, _, pr, _⟩ := dk_of I.hok (r.sub _ _ q1)
      obtain ⟨z1, z2⟩ := kvs_reads (h := s.heap) q2 kv pr hd
      refine ⟨_, .dict ho hx.1 hdt z1 z2, ?_⟩
      intro z
      have z : sysModules ∈ [_] := z
      have z := List.mem_singleton.mp z
      rw [← z] at hm
      cases hm
    | non => exact ⟨[], atom_reads rfl rd0 ru, by simp⟩
    | bl b => exact ⟨[], atom_reads rfl rd0 ru, by simp⟩
    | int b => exact ⟨[], atom_reads rfl rd0 ru, by simp⟩
    | str b => exact ⟨[], atom_reads rfl rd0 ru, by simp⟩
    | _ => cases hd
end
def rReprX (T : Tb) : List V → Hp → VK → Prop := fun vs H Q => rRepr T.K vs H Q ∨ ∃ (w : Wd) (S : Store) (d : D) (x : V), WR T w S H ∧ vs = [x] ∧ Rep T w d x ∧ reprOkX d = true ∧ reprOk d = false ∧ Q (.str (toPx d).shown) H
theorem call_reprX (hK : X.K = T.K) (gd : X.A.guards = some []) (hu : X.A.units + 64 < cLine) : CallR X (.builtin "repr") (rReprX T) := by
  intro pins s σ H xs us Q I r h
  rcases h with h | ⟨w, S, d, x, wr, rfl, rd, hd, hn, q⟩
  · exact call_reprD gd hu pins s σ H xs us Q I r (by rw [hK]; exact h)
  obtain ⟨u, rfl, ru⟩ := Vals.one r
  obtain ⟨h1, h⟩ := He.ba hd
  obtain ⟨h2, h⟩ := He.ba h
  obtain ⟨h3, h4⟩ := He.ba h
  have h3 := of_decide_eq_true h3
  have h4 := of_decide_eq_true h4
  obtain ⟨as, rr, hs⟩ := px_reads hK I wr 4 d x u h1 rd ru
  cases rd with
  | tup q1 q2 =>
    cases ru
    exact repr_of_reads' rr h2 (fun _ => hs) gd (by omega) (fun _ _ e => e) (fun h' u tk hk => ⟨.str _, H, I.kept hk, ⟨_, rfl⟩, q⟩) (by rw [sizeLine_eq]; exact h4)
  | dct q1 q2 =>
    cases ru
    exact repr_of_reads' rr h2 (fun _ => hs) gd (by omega) (fun _ _ e => e) (fun h' u tk hk => ⟨.str _, H, I.kept hk, ⟨_, rfl⟩, q⟩) (by rw [sizeLine_eq]; exact h4)
  | non =>
    cases ru
    exact PySem.P.repr_of_none ⟨.str _, H, I.tok _, ⟨_, rfl⟩, q⟩
  | bl b =>
    cases ru
    exact PySem.P.repr_of_bool ⟨.str _, H, I.tok _, ⟨_, rfl⟩, q⟩
  | int i =>
    obtain ⟨t, rfl⟩ := ru
    exact PySem.P.repr_of_int (of_decide_eq_true h2) ⟨.str _, H, I.tok _, ⟨_, rfl⟩, q⟩
  | str z =>
    obtain ⟨t, rfl⟩ := ru
    exact PySem.P.repr_of_str ⟨.str _, H, I.tok _, ⟨_, rfl⟩, q⟩ (by rw [sizeLine_eq]; exact h4)
  | _ => cases h1
theorem bo_reprX : BOk T (rReprX T) bReprX := fun w S xs vs H d Q r p h k => by
  unfold bReprX at h
  split at h
  · rename_i x
    by_cases hx : reprOk x = true
    · rw [if_pos hx] at h
      exact .inl (bo_repr w S _ vs H d Q r p (by unfold bRepr; show (if reprOk x = true then _ else _) = _; rw [if_pos hx]; exact h) k)
    · rw [if_neg hx] at h
      split at h
      · rename_i hy
        cases h
        obtain ⟨v, rfl, p2⟩ := reps_one p
        exact .inr ⟨w, S, x, v, r, rfl, p2, hy, by simpa using hx, k w H _ (Wd.le.refl _) r (.str _)⟩
      · cases h
  · cases h
def eBS (m : List D → Option D) (fa : AX) : EX := fun env S => (fa env S).bnd fun xs S1 => lift (m (xs.map fun x => seeD x S1)) S1
end Ro
end
section
set_option Elab.async false
set_option linter.all false
set_option maxRecDepth 100000
set_option maxHeartbeats 4000000
namespace Ro
open PySem PySem.Spec PyProof.Rows L2
variable {T : Tb} {E : XK} {X : Cx} {a b : Expr} {f g : EX} {pos : Pos}
def frzL (d : D) (S : Store) : R D := match d with
  | .ref n => (match S[n]? with
    | some (.lst l) => .ok (.lst l) (S.set n .dead)
    | _ => .bad)
  | d => .ok d S
def eFrzL (f : EX) : EX := fun env S => (f env S).bnd frzL
theorem ie_frzL (ha : IE T E X a f) : IE T E X a (eFrzL f) :=
  PE.mono ha fun σ H Q ⟨w, env, S, r, e, q⟩ => ⟨w, env, S, r, e, (RP.bnd q).mono (fun d S1 h1 w1 H1 x l1 r1 p1 => by
    unfold frzL at h1
    split at h1
    · rename_i n
      split at h1
      · rename_i l hn
        cases p1 with
        | ref ha =>
          obtain ⟨vs, k1, k2⟩ := r1.cell n _ _ hn ha
          obtain ⟨l2, r2⟩ := r1.freeze hn ha (by simp) k1
          exact h1 _ _ _ (l1.trans l2) r2 (.lst upd_same (k2.mono l2))
      · exact (show False from h1).elim
    · exact h1 w1 H1 x l1 r1 p1) fun _ _ _ x => x⟩
theorem see_lst {w : Wd} {S : Store} {H : Hp} {d : D} {l : List D} {x : V} (r : WR T w S H) (p : Rep T w d x) (h : seeD d S = .lst l) : ∃ q vs, x = .ref q ∧ H q = some (.lst vs) ∧ Reps T w l vs := by
  unfold seeD at h
  split at h
  · rename_i n
    split at h
    · rename_i l' hn
      cases h
      cases p with
      | ref ha =>
        obtain ⟨vs, k1, k2⟩ := r.cell n _ _ hn ha
        exact ⟨_, vs, rfl, k1, k2⟩
    · cases h
  · subst h
    cases p with
    | lst q2 r2 => exact ⟨_, _, rfl, r.sub _ _ q2, r2⟩
def catS (x y : D) (S : Store) : Option (List D) := match seeD x S, seeD y S with
  | .lst l, .lst m => if l.length + m.length ≤ LINE then some (l ++ m) else none
  | _, _ => none
theorem catS_ok {x y : D} {S : Store} {k : List D} (h : catS x y S = some k) : ∃ l m, seeD x S = .lst l ∧ seeD y S = .lst m ∧ k = l ++ m ∧ l.length + m.length ≤ LINE := by
  unfold catS at h
  split at h
  · rename_i l m e1 e2
    split at h
    · rename_i hl
      cases h
      exact ⟨l, m, e1, e2, rfl, hl⟩
    · cases h
  · cases h
/-- the new list stands still -/
def eAddS (f g : EX) : EX := fun env S => (f env S).bnd fun x S1 => (g env S1).bnd fun y S2 => match catS x y S2 with
  | some k => .ok (.lst k) S2
  | none => .bad
/-- the new list will be changed -/
def eAddM (f g : EX) : EX := fun env S => (f env S).bnd fun x S1 => (g env S1).bnd fun y S2 => match catS x y S2 with
  | some k => .ok (.ref S2.length) (S2 ++ [.lst k])
  | none => .bad
theorem ie_addS (ha : IE T E X a f) (hb : IE T E X b g) : IE T E X (.BinOp a .Add b pos) (eAddS f g) :=
  PE.mono (pe_op op_cat ha hb) fun σ H Q q => by
    have q2 := tI_two (k := fun x y S => match catS x y S with
      | some k => .ok (.lst k) S
      | none => .bad) q
    obtain ⟨w, env, S, r, e, h⟩ := q2
    refine ⟨w, env, S, r, e, h.mono (fun d S1 h1 w1 H1 x l1 r1 p1 => ?_) fun _ _ _ x => x⟩
    obtain ⟨w2, env2, S2, r2, e2, h2⟩ := h1 w1 H1 x l1 r1 p1
    refine ⟨w2, env2, S2, r2, e2, h2.mono (fun d S1 h1 w1 H1 x l1 r1 p1 => ?_) fun _ _ _ x => x⟩
    obtain ⟨w3, d3, e3, S3, r3, p3, q3, h3⟩ := h1 w1 H1 x l1 r1 p1
    cases z : catS d3 e3 S3 with
    | none => rw [z] at h3; exact (show False from h3).elim
    | some k =>
      rw [z] at h3
      obtain ⟨l, m, z1, z2, rfl, hl⟩ := catS_ok z
      obtain ⟨p, vs, rfl, k1, k2⟩ := see_lst r3 p3 z1
      obtain ⟨p', us, rfl, k3, k4⟩ := see_lst r3 q3 z2
      refine ⟨_, _, _, _, rfl, rfl, k1, k3, by rw [sizeLine_eq, ← k2.length, ← k4.length]; exact hl, fun a hp => ?_⟩
      obtain ⟨l1, r1⟩ := r3.new hp (.lst _)
      exact h3 _ _ _ l1 r1 (.lst upd_same ((k2.append k4).mono l1))
end Ro
end
section
set_option Elab.async false
set_option linter.all false
set_option maxRecDepth 100000
set_option maxHeartbeats 4000000
namespace Ro
open PySem PySem.Spec PyProof.Rows L2
abbrev tfL (L : Lw) : List He.Defn := L.tf.map (·.1)
def asE (g : Addr → Option Obj) (n : Nat) : List Addr := cStatics :: He.asD g n
def obN (n : Nat) (L : Lw) (ts : List He.Tab) (g : Addr → Option Obj) : He.AlX := (He.obsT [] L.defs ts (He.frT g (asE g n)), L.ok (He.frT g (asE g n)) && He.tabsB g (tfL L) (He.frT g (asE g n)))
theorem saysN_of {n : Nat} {L : Lw} {ts : List He.Tab} {w : World} {h : Heap} (e : obN n L ts h.get? = He.valX L.defs ts w) : He.SaysX [] L.defs ts (tfL L) L.ok w h (He.frT h.get? (asE h.get? n)) := by
  have e1 : He.obsT [] L.defs ts (He.frT h.get? (asE h.get? n)) = He.valT L.defs ts w := congrArg (fun z : He.AlX => z.1) e
  have e2 : (L.ok (He.frT h.get? (asE h.get? n)) && He.tabsB h.get? (tfL L) (He.frT h.get? (asE h.get? n))) = true := congrArg (fun z : He.AlX => z.2) e
  obtain ⟨h1, h2⟩ := He.ba e2
  have key : ∀ p ∈ tfL L, PySem.W.codeHdIn (He.frT h.get? (asE h.get? n)) (He.cT (He.frT h.get? (asE h.get? n)) p).1 (He.cT (He.frT h.get? (asE h.get? n)) p).2 = true ∧ ∃ o, h.get? (He.cT (He.frT h.get? (asE h.get? n)) p).2 = some o ∧ He.emptyTab o = true := fun p hp => by
    obtain ⟨h3, h4⟩ := He.ba (List.all_eq_true.mp h2 p hp)
    refine ⟨h3, ?_⟩
    cases q : h.get? (He.cT (He.frT h.get? (asE h.get? n)) p).2 with
    | none =>
      rw [q] at h4
      cases h4
    | some o =>
      rw [q] at h4
      exact ⟨o, rfl, h4⟩
  exact ⟨e1, h1, fun p hp => (key p hp).1, fun p hp => by
    obtain ⟨_, o, q, z⟩ := key p hp
    exact He.frT_none q z, fun p hp => by
    obtain ⟨_, o, q, z⟩ := key p hp
    rw [q, He.emptyTab_eq z]⟩
def hookN (n : Nat) (L : Lw) (ts : List He.Tab) : PySem.W.Hook where
  α := He.AlX
  obs := fun s => obN n L ts s.heap.get?
  val := fun w => He.valX L.defs ts w
  says := fun w h => ∃ K : PySem.W.Frag, K.In h ∧ He.SaysX [] L.defs ts (tfL L) L.ok w h K
  of := fun _ _ e => ⟨_, He.frT_in, saysN_of e⟩
  keeps := fun _ _ _ ⟨K, hK, c⟩ k => ⟨K, PySem.W.Frag.In.keeps hK k, ⟨c.t, c.more, c.hd, c.out, fun p hp => k _ _ (c.empty p hp)⟩⟩
theorem obN_eq {n : Nat} {L : Lw} {ts : List He.Tab} {g : Addr → Option Obj} {s : Shared} (h : ∀ a, g a = s.heap.get? a) : obN n L ts g = (hookN n L ts).obs s := by
  have e : g = s.heap.get? := funext h
  rw [e]
  rfl
end Ro
end
section
set_option Elab.async false
set_option linter.all false
set_option maxRecDepth 100000
set_option maxHeartbeats 4000000
namespace Ro
open PySem PySem.Spec PyProof.Rows L2
section
variable {prog : Program} {w : World} {A : Around} {E : Value → Shared → Prop} {s : Shared} {K : PySem.W.Frag} {x C L f : Addr} {h₀ : Heap} {m : Str → Option Value} {ox : Obj} {od : Option Obj} {b tb : Value}
theorem ifBound_B {M : Model} {name : Str} {id : String} {args : List Value} {Q : Option Value → Shared → Prop} (X : K.In s.heap) (I : PySem.W.InstAt s.heap x ox C od) (hs : PySem.W.findIn K (.ref C) name = some (some (.builtin id)))
    (hb : ∀ self, bindSpecial (.builtin id) self = pure (.builtin id, [self])) (h : wpAny M A (call (.builtin id) (.ref x :: args)) (fun v => Q (some v)) E s) : wpAny M A (callSpecialIfBound? (.ref x) name args) Q E s := by
  simp only [callSpecialIfBound?, bindSpecialIfBound?]
  refine wpAny_holding (wpAny_bind (wpAny_bind (wpAny_bind (I.type.here ((PySem.W.looks_findIn X hs).here ?_)))))
  refine wpAny_bind (wpAny_askSetting (wpAny_ite ?_))
  have fin : wpAny M A (call (.builtin id) ([.ref x] ++ args) >>= fun v => pure (some v)) Q E s := wpAny_bind (wpAny_mono h (fun v s' h' => wpAny_pure h') fun _ _ h' => h')
  split
  · exact wpAny_bind ((PySem.W.Looks.of_pure (hb _)).here (wpAny_pure (by exact fin)))
  · exact wpAny_tryCatch (wpAny_bind ((PySem.W.Looks.of_pure (hb _)).here (wpAny_pure (by exact fin))))
open Builtin in
theorem objNe_K {Q : Value → Shared → Prop} (hu : A.in1.units < cLine) (X : K.In s.heap) (I : PySem.W.InstAt s.heap x ox C od) (hm : PySem.W.mroIn K C (.type "object") = some true) (he : PySem.W.findIn K (.ref C) "__eq__" = some (some (.ref f))) (hf : PySem.W.isFn K (.ref f) = true)
    (h : wpAny (model prog w) A.in1 (call (.ref f) [.ref x, b]) (fun v s' => ∃ c, v = .bool c ∧ Q (.bool (!c)) s') E s) : wpAny (model prog w) A (call (.builtin "object.__ne__") [.ref x, b]) Q E s := by
  refine wpAny_call (codeAny_call_builtin (by decide +kernel) F.cmpEntry_ne (PySem.W.check_slot (i := "object.__ne__") (owner := "object") (n := "__ne__") F.cmpKind_ne F.cmpSplit_ne (I.type.andThen (PySem.W.looks_mroIn X hm)) (F.cmpArgs_ne _ _) ?_))
  unfold Builtin.«object.__ne__»
  refine wpAny_bind (m := slotArgs "__ne__" 1 _) (wpAny_pure ?_)
  refine wpAny_bind (m := cRoomFor _ _) (wpAny_cRoomFor hu ?_)
  refine wpAny_bind (m := callSpecialIfBound? (.ref x) (Str.ofString "__eq__") [b]) (PySem.W.ifBound_K X I he hf (wpAny_mono h (fun r s' hr => ?_) fun _ _ e => e))
  obtain ⟨c, rfl, hq⟩ := hr
  refine wpAny_bind (m := truthy (.bool c)) (wpAny_truthy_bool ?_)
  exact wpAny_pure hq
theorem cmpNe_K {Q : Value → Shared → Prop} (hu : A.in1.units + 1 < cLine) (F : Fr h₀ L s.heap m) (X₀ : K.In h₀) (I : PySem.W.InstAt s.heap x ox C od) (hb : PySem.W.Looks (model prog w) s.heap (typeOf b) tb) (hn : PySem.W.notFirst K C tb = true)
    (hs : PySem.W.findIn K (.ref C) "__ne__" = some (some (.builtin "object.__ne__"))) (hm : PySem.W.mroIn K C (.type "object") = some true) (he : PySem.W.findIn K (.ref C) "__eq__" = some (some (.ref f))) (hf : PySem.W.isFn K (.ref f) = true)
    (hbd : ∀ self, bindSpecial (.builtin "object.__ne__") self = pure (.builtin "object.__ne__", [self]))
    (h : wpAny (model prog w) A.in1 (call (.ref f) [.ref x, b]) (fun v s' => ∃ c, v = .bool c ∧ Q (.bool (!c)) s') E s) : wpAny (model prog w) A (richCompare .NotEq (.ref x) b) Q E s := by
  have hu0 : A.units < cLine := by
    have : A.in1.units = A.units + 1 := rfl
    omega
  have X := X₀.keeps F.keep
  have one : wpAny (model prog w) A (tryCompare (.ref x) (cmpInfo .NotEq).2.1 b) (fun r s' => ∃ v, r = some v ∧ Q v s') E s := by
    unfold tryCompare
    refine wpAny_bind (ifBound_B X I hs hbd (objNe_K (by omega) X I hm he hf (wpAny_mono h (fun v s' hv => ?_) fun _ _ e => e)))
    obtain ⟨c, rfl, hq⟩ := hv
    exact ⟨c, rfl, wpAny_pure ⟨_, rfl, hq⟩⟩
  unfold richCompare
  simp only [oneThing_ref]
  refine wpAny_holding (wpAny_bind (wpAny_cRoomFor hu0 ?_))
  refine wpAny_bind (I.type.here (wpAny_bind (hb.here ?_)))
  split
  · rename_i q
    have e : PySem.W.subIn K tb (.ref C) = some false := by
      rcases Bool.or_eq_true_iff.mp hn with e | e
      · rw [beq_iff_eq.mp e] at q; simp at q
      · exact beq_iff_eq.mp e
    refine wpAny_bind ((PySem.W.looks_subIn X e).here ?_)
    simp only [Bool.false_eq_true, if_false]
    refine wpAny_bind (wpAny_mono one (fun r s' z => ?_) fun _ _ e => e)
    obtain ⟨v, rfl, hq⟩ := z
    exact wpAny_pure hq
  · refine wpAny_bind (wpAny_pure ?_)
    simp only [Bool.false_eq_true, if_false]
    refine wpAny_bind (wpAny_mono one (fun r s' z => ?_) fun _ _ e => e)
    obtain ⟨v, rfl, hq⟩ := z
    exact wpAny_pure hq
end
section
variable {T : Tb} {E : XK} {X : Cx} {a b : Expr} {f g : EX} {pos : Pos}
def rEqO (T : Tb) (cn : String) (m : Fn) (op : Bool → Bool) : R2 := fun x y H Q => ∃ (w : Wd) (S : Store) (l l' : List D) (p p' : Addr), WR T w S H ∧ x = .ref p ∧ y = .ref p' ∧ Rep T w (.obj cn l) (.ref p) ∧ Rep T w (.obj cn l') (.ref p') ∧
  RP (m [.obj cn l, .obj cn l'] S) (fun d S' => ∃ c : Bool, d = .bl c ∧ ∀ w' H', w.le w' → WR T w' S' H' → Q (.bl (op c)) H') (fun _ _ _ => False)
theorem meth2_run {cn : String} {m : Fn} {k : Nat} {d : He.DefD} {A : Around} {pins : List (Addr × Obj)} {σ : L2.St} {s : Shared} {H : Hp} {w : Wd} {S : Store} {l l' : List D} {p p' : Addr} {Q : V → Hp → Prop} {op : Bool → Bool} {E : Value → Shared → Prop} (hK : X.K = T.K) (ok : OkF T X.prog X.w X.mg X.base k d ["self", "other"] m) (hr : RG k A)
    (hb : ∀ fd, FunD T.K d.name d.qual d.params d.body d.scope (d.dvs T.K) [] (He.fAd T.K d.at_) fd → Binds T.K fd ["self", "other"] []) (I : Inv X pins σ H s) (he : Env0 X.prog X.w T.K X.mg X.base A X.stack s H) (wr : WR T w S H) (r1 : Rep T w (.obj cn l) (.ref p)) (r2 : Rep T w (.obj cn l') (.ref p'))
    (q : RP (m [.obj cn l, .obj cn l'] S) (fun d S' => ∃ c : Bool, d = .bl c ∧ ∀ w' H', w.le w' → WR T w' S' H' → Q (.bl (op c)) H') (fun _ _ _ => False)) :
    wpAny (model X.prog X.w) A (call (.ref (He.fAd T.K d.at_)) [.ref p, .ref p']) (fun v s' => ∃ c : Bool, v = .bool c ∧ EP X pins σ Q (.bool (op c)) s') E s := by
  obtain ⟨fd, FD, FG⟩ := ok.ex
  have hsp : spI T ["self", "other"].length m [.ref p, .ref p'] H (fun v H' => ∃ c : Bool, v = .bl c ∧ Q (.bl (op c)) H') (fun _ _ _ => False) := ⟨rfl, w, [.obj cn l, .obj cn l'], S, wr, .cons r1 (.cons r2 .nil), q.mono (fun d' S' h => fun w' H' v l' r' p' => by
    obtain ⟨c, rfl, h2⟩ := h
    cases p'
    exact ⟨c, rfl, h2 w' H' l' r'⟩) fun c fs S' h => h.elim⟩
  have rv : Vals [V.ref p, V.ref p'] [Value.ref p, Value.ref p'] := .cons rfl (.cons rfl .nil)
  have hbd : BindsTo s fd ⟨[.ref p, .ref p'], []⟩ ((["self", "other"] : List Str).zip [Value.ref p, Value.ref p']) := by
    have := hb fd FD s [.ref p, .ref p'] (by rw [← hK]; exact I.kIn) rfl
    simpa using this
  refine wpAny_call (codeAny_mono (FG.run A X.stack s H ⟨[.ref p, .ref p'], []⟩ [.ref p, .ref p'] [.ref p, .ref p'] _ (fun _ _ _ => False) hr he hbd rv hsp) fun r s' hq => ?_)
  cases r with
  | error e =>
    obtain ⟨_, _, _, _, _, _, _, _, _, _, _, _, z⟩ := hq
    exact z.elim
  | ok fl =>
    cases fl with
    | ret v =>
      obtain ⟨z, H', I', rz, ⟨c, ec, ex⟩⟩ := I.after hq
      subst ec
      obtain rfl : v = Value.bool c := rz
      exact ⟨c, rfl, V.bl (op c), H', I', rfl, ex⟩
    | next => exact False.elim hq
    | brk => exact False.elim hq
    | cont => exact False.elim hq
theorem oi_neO {cn : String} {m : Fn} {k : Nat} {d : He.DefD} (hK : X.K = T.K) (ok : OkF T X.prog X.w X.mg X.base k d ["self", "other"] m) (hr : RG (k + 1) X.A) (M : Meth T.K (He.ga T.K (cn : Str)) "__eq__" (He.fAd T.K d.at_))
    (hs : PySem.W.findIn T.K (.ref (He.ga T.K (cn : Str))) "__ne__" = some (some (.builtin "object.__ne__"))) (hm : PySem.W.mroIn T.K (He.ga T.K (cn : Str)) (.type "object") = some true)
    (hb : ∀ fd, FunD T.K d.name d.qual d.params d.body d.scope (d.dvs T.K) [] (He.fAd T.K d.at_) fd → Binds T.K fd ["self", "other"] []) : OpR X (compareOp .NotEq) (rEqO T cn m not) := by
  intro pins s σ H x y v u Q I rx ry h
  obtain ⟨w, S, l, l', p, p', wr, rfl, rfl, r1, r2, q⟩ := h
  cases rx; cases ry
  have q1 := r1
  have q2 := r2
  cases r1 with
  | obj hG hn hrs =>
    cases r2 with
    | obj hG' hn' hrs' =>
      obtain ⟨mA, J, _⟩ := ins_get I.hok (wr.sub _ _ hG)
      obtain ⟨mB, J', _⟩ := ins_get I.hok (wr.sub _ _ hG')
      obtain ⟨od, J, _⟩ := J.look
      obtain ⟨od', J', _⟩ := J'.look
      obtain ⟨mf, hF⟩ := I.fr
      have e0 : Env0 X.prog X.w T.K X.mg X.base X.A.in1 X.stack s H := by
        have e := I.env0
        rw [hK] at e
        exact ⟨e.frames, e.mod, e.bs, e.bsz, e.funs, e.frf, e.hok, e.bare⟩
      have hu : X.A.in1.units + 1 < cLine := by
        have := hr.rm.units
        have e : X.A.in1.units = X.A.units + 1 := rfl
        omega
      refine cmpNe_K (tb := .ref (He.ga T.K (cn : Str))) hu hF I.ok.mod.kin J J'.type (by simp [PySem.W.notFirst]) (by rw [hK]; exact hs) (by rw [hK]; exact hm) (by rw [hK]; exact M.at_) (by rw [hK]; exact M.fn) (fun _ => rfl) ?_
      refine wpAny_mono (meth2_run (op := not) hK ok hr.in1 hb I e0 wr q1 q2 q) (fun r s' h => ?_) fun _ _ e => e
      obtain ⟨c, rfl, h⟩ := h
      exact ⟨c, rfl, h⟩
/-- the mirror -/
def eqM (cn : String) (m : Fn) (op : Bool → Bool) (x y : D) (S : Store) : R D := match x, y with
  | .obj c l, .obj c' l' => if c = cn ∧ c' = cn then (match m [.obj c l, .obj c' l'] S with
    | .ok (.bl b) S2 => .ok (.bl (op b)) S2
    | _ => .bad) else .bad
  | _, _ => .bad
def eEqO (cn : String) (m : Fn) (op : Bool → Bool) (f g : EX) : EX := fun env S => (f env S).bnd fun x S1 => (g env S1).bnd fun y S2 => eqM cn m op x y S2
theorem eqM_of {cn : String} {m : Fn} {op : Bool → Bool} {w : Wd} {d e : D} {S : Store} {x y : V} {H : Hp} {Q : VK} (r : WR T w S H) (p : Rep T w d x) (q : Rep T w e y) (h : RP (eqM cn m op d e S) (fun d S' => ∀ w' H' v, w.le w' → WR T w' S' H' → Rep T w' d v → Q v H') (XW T w E)) : rEqO T cn m op x y H Q := by
  unfold eqM at h
  split at h
  · rename_i c l c' l'
    split at h
    · rename_i hc
      obtain ⟨rfl, rfl⟩ := hc
      have p0 := p
      have q0 := q
      cases p with
      | obj h1 h2 h3 =>
        cases q with
        | obj g1 g2 g3 =>
          refine ⟨w, S, l, l', _, _, r, rfl, rfl, p0, q0, ?_⟩
          cases y : m [.obj c' l, .obj c' l'] S with
          | bad => rw [y] at h; exact h.elim
          | err a b S' => rw [y] at h; exact h.elim
          | ok d' S' =>
            rw [y] at h
            cases d' with
            | bl b => exact ⟨b, rfl, fun w' H' l1 r1 => h w' H' _ l1 r1 (.bl _)⟩
            | _ => exact h.elim
    · exact h.elim
  · exact h.elim
theorem ib_eqO {o : CmpOp} {cn : String} {m : Fn} {op : Bool → Bool} (ho : OpR X (compareOp o) (rEqO T cn m op)) (ha : IE T E X a f) (hb : IE T E X b g) (hm : behindInMarks o b = false) : IB T E X (.Compare a [o] [b] pos) (bVal (eEqO cn m op f g)) :=
  PT.mono (pt_cmpR ho ha hb hm) fun σ H Q q => by
    have q2 := tI_two (k := fun x y S => eqM cn m op x y S) (tI_bVal q)
    obtain ⟨w, env, S, r, e, h⟩ := q2
    refine ⟨w, env, S, r, e, h.mono (fun d S1 h1 w1 H1 x l1 r1 p1 => ?_) fun _ _ _ x => x⟩
    obtain ⟨w2, env2, S2, r2, e2, h2⟩ := h1 w1 H1 x l1 r1 p1
    refine ⟨w2, env2, S2, r2, e2, h2.mono (fun d S1 h1 w1 H1 x l1 r1 p1 => ?_) fun _ _ _ x => x⟩
    obtain ⟨w3, d3, e3, S3, r3, p3, q3, h3⟩ := h1 w1 H1 x l1 r1 p1
    exact eqM_of r3 p3 q3 h3
end
end Ro
end
section
set_option Elab.async false
set_option linter.all false
set_option maxRecDepth 100000
set_option maxHeartbeats 4000000
namespace Ro
open PySem PySem.Spec PyProof.Rows L2
variable {T : Tb} {E : XK} {X : Cx} {a b c : Expr} {fa : AX}
def seqL : D → Option (List D)
  | .lst l => some l
  | .tup l => some l
  | _ => none
def zip3L : List D → List D → List D → List D
  | x :: l, y :: m, z :: n => .tup [x, y, z] :: zip3L l m n
  | _, _, _ => []
def itZipM2 (fa : AX) : AX := fun env S => (fa env S).bnd fun ds S1 => match ds with
  | [x, y] => (match seqL x, seqL y with
    | some l, some m => .ok (zipL l m) S1
    | _, _ => .bad)
  | _ => .bad
def itZipM3 (fa : AX) : AX := fun env S => (fa env S).bnd fun ds S1 => match ds with
  | [x, y, z] => (match seqL x, seqL y, seqL z with
    | some l, some m, some n => .ok (zip3L l m n) S1
    | _, _, _ => .bad)
  | _ => .bad
@[simp] theorem u_itZipM2 (fa : AX) {env : Env} {S : Store} : itZipM2 fa env S = (fa env S).bnd fun ds S1 => match ds with
  | [x, y] => (match seqL x, seqL y with
    | some l, some m => .ok (zipL l m) S1
    | _, _ => .bad)
  | _ => .bad := rfl
@[simp] theorem u_itZipM3 (fa : AX) {env : Env} {S : Store} : itZipM3 fa env S = (fa env S).bnd fun ds S1 => match ds with
  | [x, y, z] => (match seqL x, seqL y, seqL z with
    | some l, some m, some n => .ok (zip3L l m n) S1
    | _, _, _ => .bad)
  | _ => .bad := rfl
@[simp] theorem seqL_lst (l : List D) : seqL (.lst l) = some l := rfl
@[simp] theorem seqL_tup (l : List D) : seqL (.tup l) = some l := rfl
end Ro
end
section
set_option Elab.async false
set_option linter.all false
set_option maxRecDepth 100000
set_option maxHeartbeats 4000000
namespace Ro
open PySem PySem.Spec PyProof.Rows L2 HT
section
variable {P : Program} {w : World} {A : Around} {E : Value → Shared → Prop} {s : Shared}
theorem back_adjust (n : Nat) : Builtin.Slice.sliceAdjust none none (-1) (n : Int) = ((n : Int) - 1, -1) := rfl
theorem back_places (n : Nat) : Builtin.Slice.slicePlaces ((n : Int) - 1) (-1) (-1) = n := by
  unfold Builtin.Slice.slicePlaces
  rw [if_neg (by decide)]
  by_cases c : (n : Int) - 1 > -1
  · rw [if_pos c]
    have e : (- -1 : Int) = 1 := by decide
    rw [e, Int.ediv_one]
    omega
  · rw [if_neg c]
    omega
theorem back_applied {sl : Addr} {vl vu vk : Value} {n : Nat} {Q : Int × Int × Nat → Shared → Prop} (hs : s.heap.IsSliceOf sl vl vu vk) (pl : IsPart vl none) (pu : IsPart vu none) (pk : IsPart vk (some (-1)))
    (h : Q ((n : Int) - 1, -1, n) s) : wpAny (model P w) A (Builtin.Slice.sliceApplied (.ref sl) (pure (n : Int))) Q E s := by
  obtain ⟨ob, g1, g2, g3⟩ := id hs
  unfold Builtin.Slice.sliceApplied Builtin.Slice.sliceFields
  refine wpAny_bind (wpAny_bind (wpAny_field g1 g3 (x := vl) rfl (wpAny_bind (wpAny_field g1 g3 (x := vu) rfl (wpAny_bind (wpAny_field g1 g3 (x := vk) rfl (wpAny_pure ?_)))))))
  refine wpAny_bind (HT.slicePart_ pk ?_)
  show wpAny _ _ (if ((-1 : Int) == 0) = true then _ else _) _ _ s
  rw [if_neg (by decide)]
  refine wpAny_bind (HT.slicePart_ pl (wpAny_bind (HT.slicePart_ pu (wpAny_bind (wpAny_pure ?_)))))
  show wpAny _ _ (match Builtin.Slice.sliceAdjust none none (-1) (n : Int) with | (lo, hi) => pure (lo, (-1 : Int), Builtin.Slice.slicePlaces lo hi (-1))) _ _ s
  rw [back_adjust]
  show wpAny _ _ (pure ((n : Int) - 1, (-1 : Int), Builtin.Slice.slicePlaces ((n : Int) - 1) (-1) (-1))) _ _ s
  rw [back_places]
  exact wpAny_pure h
theorem back_pick (xs : Array Value) : ((List.range xs.size).filterMap fun (m : Nat) => xs[(((xs.size : Int) - 1) + (m : Int) * (-1)).toNat]?).toArray = xs.toList.reverse.toArray := by
  have e : ∀ m ∈ List.range xs.size, xs[(((xs.size : Int) - 1) + (m : Int) * (-1)).toNat]? = xs[xs.size - 1 - m]? := fun m hm => by
    have := List.mem_range.mp hm
    have e2 : (((xs.size : Int) - 1) + (m : Int) * (-1)).toNat = xs.size - 1 - m := by omega
    rw [e2]
  have k := PySem.W.krv_range xs.size
  have a := PySem.W.krv_all xs
  have f : (List.range xs.size).filterMap (fun (m : Nat) => xs[(((xs.size : Int) - 1) + (m : Int) * (-1)).toNat]?) = (List.range xs.size).filterMap fun m => xs[xs.size - 1 - m]? := by
    have : ∀ (l : List Nat), (∀ m ∈ l, xs[(((xs.size : Int) - 1) + (m : Int) * (-1)).toNat]? = xs[xs.size - 1 - m]?) → l.filterMap (fun (m : Nat) => xs[(((xs.size : Int) - 1) + (m : Int) * (-1)).toNat]?) = l.filterMap fun m => xs[xs.size - 1 - m]? := by
      intro l
      induction l with
      | nil => intro _; rfl
      | cons y l ih => intro h; rw [List.filterMap_cons, List.filterMap_cons, h y (by simp), ih fun m hm => h m (by simp [hm])]
    exact this _ e
  have g : (List.range xs.size).filterMap (fun m => xs[xs.size - 1 - m]?) = ((List.range xs.size).map fun m => xs.size - 1 - m).filterMap (xs[·]?) := by
    rw [List.filterMap_map]
    rfl
  rw [f, g, k, List.filterMap_reverse, a]
theorem getItem_back {t sl : Addr} {items : Array Value} {vl vu vk : Value} {Q : Value → Shared → Prop} (ht : IsTup s.heap t items) (hs : s.heap.IsSliceOf sl vl vu vk) (pl : IsPart vl none) (pu : IsPart vu none) (pk : IsPart vk (some (-1)))
    (h : Q (.ref s.heap.objs.size) { s with heap := s.heap.push { cls := .type "tuple", data := .seq items.toList.reverse.toArray } }) (hz : items.size ≤ sizeLine) : wpAny (model P w) A (getItem (.ref t) (.ref sl)) Q E s := by
  have few : sizeOk (.seq items.toList.reverse.toArray) := by
    show items.toList.reverse.toArray.size ≤ sizeLine
    simpa using hz
  obtain ⟨ob, g1, g2, g3⟩ := id hs
  have ty : s.TypeIs (.ref sl) "slice" := ⟨ob, g1, g2⟩
  unfold getItem
  try with_reducible refine wpAny_holding ?_
  first | refine wpAny_bind (wpAny_pure ?_) | skip
  refine wpAny_bind (wpAny_sequenceKey ht.typeIs (by decide) (wpAny_bind (wpAny_callSpecial?_slot (name := Str.ofString "__getitem__") ht.typeIs PyProof.Rows.slot_tuple_getitem (wpAny_call_entry PyProof.Rows.slot_tuple_getitem ht.typeIs entry_tuple_getitem ?_ (args_tuple_getitem _ _)))))
  show wpAny _ _ (Builtin.Tuple.tupleItemsOf (.ref t) >>= _) _ _ s
  refine wpAny_bind (tupleItemsOf_ ht (wpAny_bind (wpAny_typeOf ty ?_)))
  rw [if_pos (by decide)]
  refine wpAny_bind (back_applied hs pl pu pk ?_)
  have no : ¬ ((((items.size : Int) - 1) == 0 && (-1 : Int) == 1 && items.size == items.size) = true) := by simp
  show wpAny _ _ (if (((items.size : Int) - 1) == 0 && (-1 : Int) == 1 && items.size == items.size) = true then _ else _) _ _ s
  rw [if_neg no, back_pick]
  first
    | exact wpAny_bind (m := Builtin.Tuple.tupleExact _) (wpAny_newObj_type (wpAny_pure ⟨_, rfl, wpAny_pure h⟩) few)
    | exact wpAny_bind (m := Builtin.Tuple.tupleExact _) (wpAny_newObj_type (wpAny_bind (wpAny_pure (wpAny_pure ⟨_, rfl, wpAny_pure h⟩))) few)
    | exact wpAny_bind (wpAny_bind (m := Builtin.Tuple.tupleExact _) (wpAny_newObj_type (wpAny_pure (wpAny_pure ⟨_, rfl, wpAny_pure h⟩)) few))
    | exact wpAny_bind (wpAny_bind (m := Builtin.Tuple.tupleExact _) (wpAny_newObj_type (wpAny_pure ⟨_, rfl, wpAny_pure h⟩) few))
end
section
variable {T : Tb} {E : XK} {X : Cx} {a : Expr} {f : EX} {p p2 q pos : Pos}
def tRevT (K : PySem.W.Frag) (te : TE) : TE := fun σ H Q => te σ H fun x H1 => ∃ a xs, x = .ref a ∧ SqT K H1 a xs ∧ ∀ p, H1 p = none → Q (.ref p) (upd H1 p (.tup xs.reverse))
theorem pe_revT {te : TE} {k : Nat} {p1 p2 p3 pos : Pos} (he : PE X a te) : PE X (.Subscript a (.Slice none none (some (.UnaryOp .USub (.Constant (.int 1) k p1) p2)) p3) pos) (tRevT X.K te) := by
  refine ⟨fun pins s σ H Q I h => Subscript_ (thn (he.run pins s σ H _ I h) fun v s1 ⟨x, H1, I1, r1, q1⟩ => ?_)⟩
  obtain ⟨t, xs, ex, hx, q⟩ := q1
  subst ex
  cases r1
  have st : PO X (some (.UnaryOp .USub (.Constant (.int 1) k p1) p2)) (tPart (tUn (rU fun i => .int (-i)) (tC (.int 1)))) := po_some (pe_un un_neg pe_int)
  refine wpAny_Slice (thn (po_none.run pins s1 σ H1 (fun o H2 => o = none ∧ H2 = H1) I1 ⟨rfl, rfl⟩) fun vl s2 ⟨l, H2, I2, pl, el, e2⟩ => ?_)
  subst el e2
  refine thn (po_none.run pins s2 σ H2 (fun o H3 => o = none ∧ H3 = H2) I2 ⟨rfl, rfl⟩) fun vu s3 ⟨u, H3, I3, pu, eu, e3⟩ => ?_
  subst eu e3
  refine thn (st.run pins s3 σ H3 (fun o H4 => o = some (-1) ∧ H4 = H3) I3 ⟨1, rfl, -1, rfl, rfl, rfl⟩) fun vs s4 ⟨o, H4, I4, ps, eo, e4⟩ => ?_
  subst eo e4
  obtain ⟨s5, e5⟩ : ∃ s5 : Shared, s5 = { s4 with heap := s4.heap.push { cls := .type "slice", data := .fields #[vl, vu, vs] } } := ⟨_, rfl⟩
  have I5 : Inv X pins σ H4 s5 := by rw [e5]; exact I4.kept (t' := s4.toks) fun b ob q => Heap.get?_push_of_some _ q
  have sl : s5.heap.IsSliceOf s4.heap.objs.size vl vu vs := by rw [e5]; exact Heap.IsSliceOf.new _ vl vu vs
  obtain ⟨its, r, ht, hz⟩ := I5.tuple hx
  have hlen := r.length
  show wpAny (model X.prog X.w) X.A (subscriptTail a (.Slice none none (some (.UnaryOp .USub (.Constant (.int 1) k p1) p2)) p3) (.ref t) (.ref s4.heap.objs.size)) (EP X pins σ Q) X.xe { s4 with heap := s4.heap.push { cls := .type "slice", data := .fields #[vl, vu, vs] } }
  rw [← e5]
  refine tail_any (ops := [.ref t, .ref s4.heap.objs.size]) ht.typeIs PyProof.Rows.slot_tuple_getitem.lookup ?_ (by with_unfolding_all rfl)
  refine getItem_back ht sl pl pu ps ?_ (by rw [List.size_toArray]; omega)
  refine ⟨.ref _, _, I5.laid (t' := s5.toks) (o := .tup xs.reverse) (fun b ob q => Heap.get?_push_of_some _ q) (Nat.le_refl _) ?_, rfl, q _ (I5.hok.fresh (Nat.le_refl _))⟩
  exact ⟨by rw [List.length_reverse]; exact hz, _, r.reverse, IsTup.new _ _⟩
theorem Reps.rev {w : Wd} : ∀ {l : List D} {vs : List V}, Reps T w l vs → Reps T w l.reverse vs.reverse
  | _, _, .nil => .nil
  | _, _, .cons q r => by
    rw [List.reverse_cons, List.reverse_cons]
    exact (Reps.rev r).append (.cons q .nil)
def revT : D → Option D
  | .tup l => some (.tup l.reverse)
  | _ => none
theorem ie_revT {k : Nat} {p1 p2 p3 pos : Pos} (hK : X.K = T.K) (ha : IE T E X a f) : IE T E X (.Subscript a (.Slice none none (some (.UnaryOp .USub (.Constant (.int 1) k p1) p2)) p3) pos) (eUn revT f) :=
  PE.mono (pe_revT ha) fun σ H Q ⟨w, env, S, r0, e, q⟩ => ⟨w, env, S, r0, e, (RP.bnd q).mono (fun x S1 h1 w1 H1 v l1 r1 p1 => by
    cases p1 with
    | tup h3 h4 =>
      refine ⟨_, _, rfl, by rw [hK]; exact sqt_sub r1 h3, fun r hr => ?_⟩
      obtain ⟨l2, r2⟩ := r1.new hr (.tup _)
      exact h1 _ _ _ (l1.trans l2) r2 (.tup (.inl (.inl upd_same)) ((Reps.rev h4).mono l2))
    | _ => exact (show False from h1).elim) fun _ _ _ x => x⟩
end
end Ro
end
section
set_option Elab.async false
set_option linter.all false
set_option maxRecDepth 100000
set_option maxHeartbeats 4000000
namespace Ro
open PySem PySem.Spec PyProof.Rows L2
variable {T : Tb} {E : XK} {X : Cx} {a b : Expr} {f g : EX} {pos : Pos}
def rLenO (T : Tb) (cn : String) (m : Fn) : List V → Hp → VK → Prop := fun vs H Q => ∃ (w : Wd) (S : Store) (l : List D) (p : Addr), WR T w S H ∧ vs = [.ref p] ∧ Rep T w (.obj cn l) (.ref p) ∧
  RP (m [.obj cn l] S) (fun d S' => ∃ n : Int, d = .int n ∧ (0 ≤ n ∧ n < 1000000000) ∧ ∀ w' H', w.le w' → WR T w' S' H' → Q (.int n) H') (fun _ _ _ => False)
theorem call_lenO {cn : String} {m : Fn} {k : Nat} {d : He.DefD} (hK : X.K = T.K) (ok : OkF T X.prog X.w X.mg X.base k d ["self"] m) (hr : RG k X.A.in1) (M : Meth T.K (He.ga T.K (cn : Str)) "__len__" (He.fAd T.K d.at_))
    (hb : ∀ fd, FunD T.K d.name d.qual d.params d.body d.scope (d.dvs T.K) [] (He.fAd T.K d.at_) fd → Binds T.K fd ["self"] []) : CallR X (.builtin "len") (rLenO T cn m) := by
  intro pins s σ H xs us Q I rv h
  obtain ⟨w, S, l, p, wr, rfl, rp, q⟩ := h
  obtain ⟨u, rfl, ru⟩ := Vals.one rv
  cases ru
  obtain ⟨fd, FD, FG⟩ := ok.ex
  have rp0 := rp
  cases rp with
  | obj hG hn hrs =>
    obtain ⟨mA, J, _⟩ := ins_get I.hok (wr.sub _ _ hG)
    obtain ⟨od, J, _⟩ := J.look
    obtain ⟨mf, hF⟩ := I.fr
    refine PySem.W.len_K (C := He.ga T.K (cn : Str)) (f := He.fAd T.K d.at_) hF I.ok.mod.kin J (by rw [hK]; exact M.at_) (by rw [hK]; exact M.fn) ?_
    have e0 : Env0 X.prog X.w T.K X.mg X.base X.A.in1 X.stack s H := by
      have e := I.env0
      rw [hK] at e
      exact ⟨e.frames, e.mod, e.bs, e.bsz, e.funs, e.frf, e.hok, e.bare⟩
    have hsp : spI T ["self"].length m [.ref p] H (fun v H' => ∃ n : Int, v = .int n ∧ (0 ≤ n ∧ n < 1000000000) ∧ Q (.int n) H') (fun _ _ _ => False) := ⟨rfl, w, [.obj cn l], S, wr, .cons rp0 .nil, q.mono (fun d' S' h => fun w' H' v l' r' p' => by
      obtain ⟨n, rfl, hn, h2⟩ := h
      cases p'
      exact ⟨n, rfl, hn, h2 w' H' l' r'⟩) fun c fs S' h => h.elim⟩
    have r2 : Vals [V.ref p] [Value.ref p] := .cons rfl .nil
    have hbd : BindsTo s fd ⟨[.ref p], []⟩ ((["self"] : List Str).zip [Value.ref p]) := by
      have := hb fd FD s [.ref p] (by rw [← hK]; exact I.kIn) rfl
      simpa using this
    refine wpAny_call (codeAny_mono (FG.run X.A.in1 X.stack s H ⟨[.ref p], []⟩ [.ref p] [.ref p] _ (fun _ _ _ => False) hr e0 hbd r2 hsp) fun r s' hq => ?_)
    cases r with
    | error e =>
      obtain ⟨_, _, _, _, _, _, _, _, _, _, _, _, z⟩ := hq
      exact z.elim
    | ok fl =>
      cases fl with
      | ret v =>
        obtain ⟨z, H', I', rz, n, en, hn, ex⟩ := I.after hq
        subst en
        obtain ⟨t, rfl⟩ := rz
        show (0 ≤ n ∧ n < 2 ^ 63) ∧ _
        exact ⟨⟨hn.1, by omega⟩, .int n, H', I'.tok _, ⟨_, rfl⟩, ex⟩
      | next => exact False.elim hq
      | brk => exact False.elim hq
      | cont => exact False.elim hq
def lenM (cn : String) (m : Fn) (x : D) (S1 : Store) : R D := match x with
  | .obj c l => if c = cn then (match m [.obj c l] S1 with
    | .ok (.int n) S2 => if 0 ≤ n ∧ n < 1000000000 then .ok (.int n) S2 else .bad
    | _ => .bad) else .bad
  | _ => .bad
def eLenO (cn : String) (m : Fn) (f : EX) : EX := fun env S => (f env S).bnd (lenM cn m)
theorem ie_lenO {p : Pos} {cn : String} {m : Fn} {k : Nat} {d : He.DefD} (hK : X.K = T.K) (ok : OkF T X.prog X.w X.mg X.base k d ["self"] m) (hr : RG k X.A.in1) (M : Meth T.K (He.ga T.K (cn : Str)) "__len__" (He.fAd T.K d.at_))
    (hb : ∀ fd, FunD T.K d.name d.qual d.params d.body d.scope (d.dvs T.K) [] (He.fAd T.K d.at_) fd → Binds T.K fd ["self"] []) (hg : Gl X "len") (hn : X.mg "len" = none) (ha : IA T E X [a] (aCons f aNil))
    (he : starEach [a] X.env = (false, eval a X.env) :: starEach [] X.env := by rfl) (hpl : (backTo pos (starEach [] X.env)).any (·.1) = false := by rfl) : IE T E X (.Call (.Name "len" p) [a] [] pos) (eLenO cn m f) :=
  PE.mono (pe_callB (call_lenO hK ok hr M hb) hg hn (by decide +kernel) ha (by decide +kernel) (by decide +kernel) he hpl) fun σ H Q ⟨w, env, S, r, e, q⟩ => by
    refine ⟨w, env, S, r, e, ?_⟩
    have q := RP.bnd q
    show RP ((f env S).bnd fun x S1 => (aNil env S1).bnd fun xs S2 => .ok (x :: xs) S2) _ _
    cases z : f env S with
    | bad => rw [z] at q; exact q
    | err c fs S1 => rw [z] at q; exact q
    | ok x S1 =>
      rw [z] at q
      rw [bnd_ok]
      show RP (R.ok [x] S1 : R (List D)) _ _
      intro w' H' vs l' r' p'
      have q : RP (lenM cn m x S1) (fun d S' => ∀ w' H' v, w.le w' → WR T w' S' H' → Rep T w' d v → Q v H') (XW T w E) := q
      unfold lenM at q
      cases x with
      | obj c l =>
        dsimp only at q
        by_cases hc : c = cn
        · subst hc
          rw [if_pos rfl] at q
          cases p' with
          | cons p1 p2 =>
            cases p2
            cases y : m [.obj c l] S1 with
            | bad => rw [y] at q; exact q.elim
            | err c' fs' S' => rw [y] at q; exact q.elim
            | ok d' S' =>
              rw [y] at q
              cases d' with
              | int n =>
                dsimp only at q
                split at q
                · rename_i hn
                  have p1' := p1
                  cases p1 with
                  | obj h1 h2 h3 => exact ⟨w', S1, l, _, r', rfl, p1', by rw [y]; exact ⟨n, rfl, hn, fun w2 H2 l2 r2 => q w2 H2 (.int n) (l'.trans l2) r2 (.int n)⟩⟩
                · exact q.elim
              | _ => exact q.elim
        · rw [if_neg hc] at q
          exact q.elim
      | _ => exact q.elim
end Ro
end
section
set_option Elab.async false
set_option linter.all false
set_option maxRecDepth 100000
set_option maxHeartbeats 4000000
namespace GQ
open PySem PySem.SeqAt
open AutoSeq1 (wpAny_loadPart')
open MeetsSeq MeetsSeq2 MeetsSeq3 SeqRoads2
section
variable {prog : Program} {w : World} {A : Around} {R : Result → Shared → Prop} {E : Value → Shared → Prop}
/-- two lists of N items lie there -/
def TwoL (l b : Addr) (N : Nat) (s : Shared) (items items2 : Array Value) : Prop := ∃ n n2 : Nat, s.heap.get? l = some { cls := .type "list", data := .seq items n } ∧ s.heap.get? b = some { cls := .type "list", data := .seq items2 n2 } ∧ items.size = N ∧ items2.size = N
def ListJ (prog : Program) (w : World) (A : Around) (E : Value → Shared → Prop) (l b : Addr) (N : Nat) (I : Nat → Shared → Prop) (Fl : Shared → Prop) : Prop :=
  ∀ i s, I i s → ∃ (items items2 : Array Value), TwoL l b N s items items2 ∧
    ∀ (h1 : i < items.size) (h2 : i < items2.size), wpAny (model prog w) A.in1 (eqBool items[i] items2[i]) (fun r s' => (r = true ∧ I (i + 1) s') ∨ (r = false ∧ Fl s' ∧ ∃ xs ys, TwoL l b N s' xs ys)) E s
theorem eq_loopJ (l b : Addr) (N : Nat) (I : Nat → Shared → Prop) (Fl : Shared → Prop) (hl : ListJ prog w A (fun e s' => R (.error e) s') l b N I Fl)
    (fin : ∀ s, I N s → R (.ok (.ret (.bool true))) s) (finF : ∀ s, Fl s → R (.ok (.ret (.bool false))) s) (k : Nat) :
    ∀ i : Nat, N - i = k → i ≤ N → ∀ s, I i s →
      wpAny (model prog w) A.in1 (Builtin.«list.__eq__.loop» ⟨[.ref l, .ref b, rawInt i, rawInt 2], []⟩) (FinOf prog w A R) (fun e s' => R (.error e) s') s := by
  induction k with
  | zero =>
    intro i hk hi s h
    obtain ⟨items, items2, ⟨n, n2, hl1, hb1, hs1, hs2⟩, _⟩ := hl _ _ h
    have hi' : i = N := by omega
    have hR : R (.ok (.ret (.bool true))) s := fin s (hi' ▸ h)
    obtain ⟨hp, g, d, tk, os⟩ := s
    wp_walk using wpAny_loadPart' hl1, wpAny_loadPart' hb1
    have hi1 : items[((i : Nat) : Int).toNat]? = none := by simp; omega
    have hi2 : items2[((i : Nat) : Int).toNat]? = none := by simp; omega
    rw [hi1, hi2]
    wp_walk using wpAny_loadPart' hl1, wpAny_loadPart' hb1
    show R (.ok (.ret (.bool (items.size == items2.size)))) _
    rw [hs1, hs2]
    simpa using hR
  | succ k ih =>
    intro i hk hi s h
    obtain ⟨items, items2, ⟨n, n2, hl1, hb1, hs1, hs2⟩, turn⟩ := hl _ _ h
    have hlt : i < items.size := by omega
    have hlt2 : i < items2.size := by omega
    have ht := turn hlt hlt2
    obtain ⟨hp, g, d, tk, os⟩ := s
    wp_walk using wpAny_loadPart' hl1, wpAny_loadPart' hb1
    have hi1 : items[((i : Nat) : Int).toNat]? = some items[i] := by simp [hlt]
    have hi2 : items2[((i : Nat) : Int).toNat]? = some items2[i] := by simp [hlt2]
    have hc : ((i : Int) + 1) = ((i + 1 : Nat) : Int) := by omega
    rw [hi1, hi2]
    refine wpAny_bind (wpAny_mono ht (fun r s2 h2 => ?_) fun _ _ x => x)
    rcases h2 with ⟨hr, h2⟩ | ⟨hr, hF, xs, ys, m, m2, hl2, hb2, hs3, hs4⟩
    · subst hr
      have hrec := ih (i + 1) (by omega) (by omega) s2 h2
      obtain ⟨hp2, g2, d2, tk2, os2⟩ := s2
      wp_walk
      rw [hc]
      exact ⟨plainId_quiet plain_eq_loop _, codeAny_builtin entry_eq_loop (by
        rw [Around.under_plainId plain_eq_loop _]
        exact hrec)⟩
    · subst hr
      have hR : R (.ok (.ret (.bool false))) s2 := finF s2 hF
      obtain ⟨hp2, g2, d2, tk2, os2⟩ := s2
      have hj : i < xs.size := by omega
      have hj2 : i < ys.size := by omega
      have hi3 : xs[((i : Nat) : Int).toNat]? = some xs[i] := by simp [hj]
      have hi4 : ys[((i : Nat) : Int).toNat]? = some ys[i] := by simp [hj2]
      wp_walk using wpAny_loadPart' hl2, wpAny_loadPart' hb2
      rw [hi3, hi4]
      wp_walk
      exact hR
theorem list_eqJ (l b : Addr) (N : Nat) (I : Nat → Shared → Prop) (Fl : Shared → Prop) (hl : ListJ prog w A (fun e s' => R (.error e) s') l b N I Fl)
    (fin : ∀ s, I N s → R (.ok (.ret (.bool true))) s) (finF : ∀ s, Fl s → R (.ok (.ret (.bool false))) s) {s : Shared} (h : I 0 s) :
    wpAny (model prog w) A.in1 (Builtin.«list.__eq__» ⟨[.ref l, .ref b], []⟩) (FinOf prog w A R) (fun e s' => R (.error e) s') s := by
  obtain ⟨items, items2, ⟨n, n2, hl1, hb1, hs1, hs2⟩, _⟩ := hl _ _ h
  have hrec := eq_loopJ (A := A) (R := R) l b N I Fl hl fin finF _ 0 rfl (Nat.zero_le _) s h
  obtain ⟨hp, g, d, tk, os⟩ := s
  have f3 := AutoSeq1.sub_list_list
  have hne : ¬ (items.size != items2.size) = true := by simp [hs1, hs2]
  wp_walk using wpAny_loadPart' hl1, wpAny_loadPart' hb1
  exact ⟨plainId_quiet plain_eq_loop _, codeAny_builtin entry_eq_loop (by
    rw [Around.under_plainId plain_eq_loop _]
    exact hrec)⟩
theorem rc_list_eqJ {l b : Addr} {N : Nat} {Q : Value → Shared → Prop} {s : Shared} (hu : A.units < cLine) (I : Nat → Shared → Prop) (Fl : Shared → Prop) (hl : ListJ prog w A E l b N I Fl)
    (fin : ∀ s, I N s → Q (.bool true) s) (finF : ∀ s, Fl s → Q (.bool false) s) (h : I 0 s) : wpAny (model prog w) A (richCompare .Eq (.ref l) (.ref b)) Q E s := by
  obtain ⟨items, items2, ⟨n, n2, hl1, hb1, _, _⟩, _⟩ := hl _ _ h
  refine wpAny_richCompare_same_room (op := .Eq) ⟨_, hl1, rfl⟩ ⟨_, hb1, rfl⟩ F.slot_list_eq (call_here F.slot_list_eq ⟨_, hl1, rfl⟩ F.entry_list_eq (F.args_list_eq_2 _ _) ?_) hu
  exact list_eqJ (R := wants (fun v s' => v ≠ .notImplemented ∧ Q v s') E) l b N I Fl hl (fun s' q => ⟨(fun x => nomatch x), fin s' q⟩) (fun s' q => ⟨(fun x => nomatch x), finF s' q⟩) h
theorem ne_loopJ (l b : Addr) (N : Nat) (I : Nat → Shared → Prop) (Fl : Shared → Prop) (hl : ListJ prog w A (fun e s' => R (.error e) s') l b N I Fl)
    (fin : ∀ s, I N s → R (.ok (.ret (.bool false))) s) (finF : ∀ s, Fl s → R (.ok (.ret (.bool true))) s) (k : Nat) :
    ∀ i : Nat, N - i = k → i ≤ N → ∀ s, I i s →
      wpAny (model prog w) A.in1 (Builtin.«list.__eq__.loop» ⟨[.ref l, .ref b, rawInt i, rawInt 3], []⟩) (FinOf prog w A R) (fun e s' => R (.error e) s') s := by
  induction k with
  | zero =>
    intro i hk hi s h
    obtain ⟨items, items2, ⟨n, n2, hl1, hb1, hs1, hs2⟩, _⟩ := hl _ _ h
    have hi' : i = N := by omega
    have hR : R (.ok (.ret (.bool false))) s := fin s (hi' ▸ h)
    obtain ⟨hp, g, d, tk, os⟩ := s
    wp_walk using wpAny_loadPart' hl1, wpAny_loadPart' hb1
    have hi1 : items[((i : Nat) : Int).toNat]? = none := by simp; omega
    have hi2 : items2[((i : Nat) : Int).toNat]? = none := by simp; omega
    rw [hi1, hi2]
    wp_walk using wpAny_loadPart' hl1, wpAny_loadPart' hb1
    show R (.ok (.ret (.bool (items.size != items2.size)))) _
    rw [hs1, hs2]
    simpa using hR
  | succ k ih =>
    intro i hk hi s h
    obtain ⟨items, items2, ⟨n, n2, hl1, hb1, hs1, hs2⟩, turn⟩ := hl _ _ h
    have hlt : i < items.size := by omega
    have hlt2 : i < items2.size := by omega
    have ht := turn hlt hlt2
    obtain ⟨hp, g, d, tk, os⟩ := s
    wp_walk using wpAny_loadPart' hl1, wpAny_loadPart' hb1
    have hi1 : items[((i : Nat) : Int).toNat]? = some items[i] := by simp [hlt]
    have hi2 : items2[((i : Nat) : Int).toNat]? = some items2[i] := by simp [hlt2]
    have hc : ((i : Int) + 1) = ((i + 1 : Nat) : Int) := by omega
    rw [hi1, hi2]
    refine wpAny_bind (wpAny_mono ht (fun r s2 h2 => ?_) fun _ _ x => x)
    rcases h2 with ⟨hr, h2⟩ | ⟨hr, hF, xs, ys, m, m2, hl2, hb2, hs3, hs4⟩
    · subst hr
      have hrec := ih (i + 1) (by omega) (by omega) s2 h2
      obtain ⟨hp2, g2, d2, tk2, os2⟩ := s2
      wp_walk
      rw [hc]
      exact ⟨plainId_quiet plain_eq_loop _, codeAny_builtin entry_eq_loop (by
        rw [Around.under_plainId plain_eq_loop _]
        exact hrec)⟩
    · subst hr
      have hR : R (.ok (.ret (.bool true))) s2 := finF s2 hF
      obtain ⟨hp2, g2, d2, tk2, os2⟩ := s2
      have hj : i < xs.size := by omega
      have hj2 : i < ys.size := by omega
      have hi3 : xs[((i : Nat) : Int).toNat]? = some xs[i] := by simp [hj]
      have hi4 : ys[((i : Nat) : Int).toNat]? = some ys[i] := by simp [hj2]
      wp_walk using wpAny_loadPart' hl2, wpAny_loadPart' hb2
      rw [hi3, hi4]
      wp_walk
      exact hR
theorem list_neJ (l b : Addr) (N : Nat) (I : Nat → Shared → Prop) (Fl : Shared → Prop) (hl : ListJ prog w A (fun e s' => R (.error e) s') l b N I Fl)
    (fin : ∀ s, I N s → R (.ok (.ret (.bool false))) s) (finF : ∀ s, Fl s → R (.ok (.ret (.bool true))) s) {s : Shared} (h : I 0 s) :
    wpAny (model prog w) A.in1 (Builtin.«list.__ne__» ⟨[.ref l, .ref b], []⟩) (FinOf prog w A R) (fun e s' => R (.error e) s') s := by
  obtain ⟨items, items2, ⟨n, n2, hl1, hb1, hs1, hs2⟩, _⟩ := hl _ _ h
  have hrec := ne_loopJ (A := A) (R := R) l b N I Fl hl fin finF _ 0 rfl (Nat.zero_le _) s h
  obtain ⟨hp, g, d, tk, os⟩ := s
  have f3 := AutoSeq1.sub_list_list
  have hne : ¬ (items.size != items2.size) = true := by simp [hs1, hs2]
  wp_walk using wpAny_loadPart' hl1, wpAny_loadPart' hb1
  exact ⟨plainId_quiet plain_eq_loop _, codeAny_builtin entry_eq_loop (by
    rw [Around.under_plainId plain_eq_loop _]
    exact hrec)⟩
theorem rc_list_neJ {l b : Addr} {N : Nat} {Q : Value → Shared → Prop} {s : Shared} (hu : A.units < cLine) (I : Nat → Shared → Prop) (Fl : Shared → Prop) (hl : ListJ prog w A E l b N I Fl)
    (fin : ∀ s, I N s → Q (.bool false) s) (finF : ∀ s, Fl s → Q (.bool true) s) (h : I 0 s) : wpAny (model prog w) A (richCompare .NotEq (.ref l) (.ref b)) Q E s := by
  obtain ⟨items, items2, ⟨n, n2, hl1, hb1, _, _⟩, _⟩ := hl _ _ h
  refine wpAny_richCompare_same_room (op := .NotEq) ⟨_, hl1, rfl⟩ ⟨_, hb1, rfl⟩ F.slot_list_ne (call_here F.slot_list_ne ⟨_, hl1, rfl⟩ F.entry_list_ne (F.args_list_ne_2 _ _) ?_) hu
  exact list_neJ (R := wants (fun v s' => v ≠ .notImplemented ∧ Q v s') E) l b N I Fl hl (fun s' q => ⟨(fun x => nomatch x), fin s' q⟩) (fun s' q => ⟨(fun x => nomatch x), finF s' q⟩) h
theorem tuple_eqJ (l b : Addr) (items items2 : Array Value) (n n2 : Nat) (dd dd2 : Option Addr) (sl sl2 : Array (Option Value)) (I : Nat → Shared → Prop) (Fl : Shared → Prop)
    (turn : ∀ i (h1 : i < items.size) (h2 : i < items2.size) s, I i s → wpAny (model prog w) A.in1 (eqBool items[i] items2[i]) (fun r s' => (r = true ∧ I (i + 1) s') ∨ (r = false ∧ Fl s')) (fun e s' => R (.error e) s') s)
    (fin : ∀ s, I (min items.size items2.size) s → R (.ok (.ret (.bool (items.size == items2.size)))) s) (finF : ∀ s, Fl s → R (.ok (.ret (.bool false))) s) {s : Shared} (hl1 : s.heap.get? l = some { cls := .type "tuple", dict := dd, data := .seq items n, slots := sl }) (hb1 : s.heap.get? b = some { cls := .type "tuple", dict := dd2, data := .seq items2 n2, slots := sl2 }) (h : I 0 s) :
    wpAny (model prog w) A.in1 (Builtin.«tuple.__eq__» ⟨[.ref l, .ref b], []⟩) (FinOf prog w A R) (fun e s' => R (.error e) s') s := by
  have f2 := AutoSeq1.sub_tuple_tuple
  have hZ : (items.toList.zip items2.toList).length = min items.size items2.size := by simp
  have h0 := h
  obtain ⟨hp, g, d, tk, os⟩ := s
  wp_walk using wpAny_loadPart' hl1, wpAny_loadPart' hb1, wpAny_forIn_list _ (fun rest b s' => b.1 = none ∧ ∃ i, rest = (items.toList.zip items2.toList).drop i ∧ i ≤ min items.size items2.size ∧ I i s') _
  case turn =>
    rintro ⟨y, x⟩ rest b s' ⟨hb', i, hz, hi, hI⟩
    have hlt : i < (items.toList.zip items2.toList).length := by
      rcases Nat.lt_or_ge i (items.toList.zip items2.toList).length with h' | h'
      · exact h'
      · rw [List.drop_of_length_le h'] at hz; cases hz
    have h1 : i < items.size := by omega
    have h2 : i < items2.size := by omega
    rw [List.drop_eq_getElem_cons hlt] at hz
    injection hz with hyx hrest
    have hy : y = items[i] := by have := congrArg Prod.fst hyx; simpa using this
    have hx : x = items2[i] := by have := congrArg Prod.snd hyx; simpa using this
    subst hy hx
    refine wpAny_bind (wpAny_mono (turn i h1 h2 s' hI) (fun r s2 q2 => ?_) fun _ _ x => x)
    rcases q2 with ⟨hr, q2⟩ | ⟨hr, q2⟩
    · subst hr
      wp_walk
      exact ⟨rfl, i + 1, hrest, by omega, q2⟩
    · subst hr
      wp_walk
      exact finF s2 q2
  case fin =>
    rintro ⟨b1, b2⟩ s' ⟨hb', i, hz, hi, hI⟩
    simp only at hb'
    subst hb'
    have hge : min items.size items2.size ≤ i := by
      rcases Nat.lt_or_ge i (items.toList.zip items2.toList).length with h' | h'
      · rw [List.drop_eq_getElem_cons h'] at hz; cases hz
      · exact hZ ▸ h'
    have hi' : i = min items.size items2.size := by omega
    have hR : R (.ok (.ret (.bool (items.size == items2.size)))) s' := fin s' (hi' ▸ hI)
    wp_walk
    simpa [Builtin.Tuple.tupleCompareSizes] using hR
  case h =>
    exact ⟨rfl, 0, rfl, Nat.zero_le _, h0⟩
theorem rc_tup_eqJ {l b : Addr} {items items2 : Array Value} {Q : Value → Shared → Prop} {s : Shared} (hu : A.units < cLine) (I : Nat → Shared → Prop) (Fl : Shared → Prop)
    (hl : s.heap.IsTuple l items) (hb : s.heap.IsTuple b items2)
    (turn : ∀ i (h1 : i < items.size) (h2 : i < items2.size) s, I i s → wpAny (model prog w) A.in1 (eqBool items[i] items2[i]) (fun r s' => (r = true ∧ I (i + 1) s') ∨ (r = false ∧ Fl s')) E s)
    (fin : ∀ s, I (min items.size items2.size) s → Q (.bool (items.size == items2.size)) s) (finF : ∀ s, Fl s → Q (.bool false) s) (h : I 0 s) : wpAny (model prog w) A (richCompare .Eq (.ref l) (.ref b)) Q E s := by
  obtain ⟨⟨cls, dd, data, sl⟩, ho, hc, n, hd⟩ := id hl
  obtain ⟨⟨cls2, dd2, data2, sl2⟩, ho2, hc2, n2, hd2⟩ := id hb
  simp only at hc hd hc2 hd2
  subst hc hd hc2 hd2
  refine wpAny_richCompare_same_room (op := .Eq) ⟨_, ho, rfl⟩ ⟨_, ho2, rfl⟩ F.slot_tuple_eq (call_here F.slot_tuple_eq ⟨_, ho, rfl⟩ F.entry_tuple_eq (F.args_tuple_eq_2 _ _) ?_) hu
  exact tuple_eqJ (R := wants (fun v s' => v ≠ .notImplemented ∧ Q v s') E) l b items items2 n n2 dd dd2 sl sl2 I Fl turn (fun s' q => ⟨(fun x => nomatch x), fin s' q⟩) (fun s' q => ⟨(fun x => nomatch x), finF s' q⟩) ho ho2 h
theorem tuple_neJ (l b : Addr) (items items2 : Array Value) (n n2 : Nat) (dd dd2 : Option Addr) (sl sl2 : Array (Option Value)) (I : Nat → Shared → Prop) (Fl : Shared → Prop)
    (turn : ∀ i (h1 : i < items.size) (h2 : i < items2.size) s, I i s → wpAny (model prog w) A.in1 (eqBool items[i] items2[i]) (fun r s' => (r = true ∧ I (i + 1) s') ∨ (r = false ∧ Fl s')) (fun e s' => R (.error e) s') s)
    (fin : ∀ s, I (min items.size items2.size) s → R (.ok (.ret (.bool (items.size != items2.size)))) s) (finF : ∀ s, Fl s → R (.ok (.ret (.bool true))) s) {s : Shared} (hl1 : s.heap.get? l = some { cls := .type "tuple", dict := dd, data := .seq items n, slots := sl }) (hb1 : s.heap.get? b = some { cls := .type "tuple", dict := dd2, data := .seq items2 n2, slots := sl2 }) (h : I 0 s) :
    wpAny (model prog w) A.in1 (Builtin.«tuple.__ne__» ⟨[.ref l, .ref b], []⟩) (FinOf prog w A R) (fun e s' => R (.error e) s') s := by
  have f2 := AutoSeq1.sub_tuple_tuple
  have hZ : (items.toList.zip items2.toList).length = min items.size items2.size := by simp
  have h0 := h
  obtain ⟨hp, g, d, tk, os⟩ := s
  wp_walk using wpAny_loadPart' hl1, wpAny_loadPart' hb1, wpAny_forIn_list _ (fun rest b s' => b.1 = none ∧ ∃ i, rest = (items.toList.zip items2.toList).drop i ∧ i ≤ min items.size items2.size ∧ I i s') _
  case turn =>
    rintro ⟨y, x⟩ rest b s' ⟨hb', i, hz, hi, hI⟩
    have hlt : i < (items.toList.zip items2.toList).length := by
      rcases Nat.lt_or_ge i (items.toList.zip items2.toList).length with h' | h'
      · exact h'
      · rw [List.drop_of_length_le h'] at hz; cases hz
    have h1 : i < items.size := by omega
    have h2 : i < items2.size := by omega
    rw [List.drop_eq_getElem_cons hlt] at hz
    injection hz with hyx hrest
    have hy : y = items[i] := by have := congrArg Prod.fst hyx; simpa using this
    have hx : x = items2[i] := by have := congrArg Prod.snd hyx; simpa using this
    subst hy hx
    refine wpAny_bind (wpAny_mono (turn i h1 h2 s' hI) (fun r s2 q2 => ?_) fun _ _ x => x)
    rcases q2 with ⟨hr, q2⟩ | ⟨hr, q2⟩
    · subst hr
      wp_walk
      exact ⟨rfl, i + 1, hrest, by omega, q2⟩
    · subst hr
      wp_walk
      exact finF s2 q2
  case fin =>
    rintro ⟨b1, b2⟩ s' ⟨hb', i, hz, hi, hI⟩
    simp only at hb'
    subst hb'
    have hge : min items.size items2.size ≤ i := by
      rcases Nat.lt_or_ge i (items.toList.zip items2.toList).length with h' | h'
      · rw [List.drop_eq_getElem_cons h'] at hz; cases hz
      · exact hZ ▸ h'
    have hi' : i = min items.size items2.size := by omega
    have hR : R (.ok (.ret (.bool (items.size != items2.size)))) s' := fin s' (hi' ▸ hI)
    wp_walk
    simpa [Builtin.Tuple.tupleCompareSizes] using hR
  case h =>
    exact ⟨rfl, 0, rfl, Nat.zero_le _, h0⟩
theorem rc_tup_neJ {l b : Addr} {items items2 : Array Value} {Q : Value → Shared → Prop} {s : Shared} (hu : A.units < cLine) (I : Nat → Shared → Prop) (Fl : Shared → Prop)
    (hl : s.heap.IsTuple l items) (hb : s.heap.IsTuple b items2)
    (turn : ∀ i (h1 : i < items.size) (h2 : i < items2.size) s, I i s → wpAny (model prog w) A.in1 (eqBool items[i] items2[i]) (fun r s' => (r = true ∧ I (i + 1) s') ∨ (r = false ∧ Fl s')) E s)
    (fin : ∀ s, I (min items.size items2.size) s → Q (.bool (items.size != items2.size)) s) (finF : ∀ s, Fl s → Q (.bool true) s) (h : I 0 s) : wpAny (model prog w) A (richCompare .NotEq (.ref l) (.ref b)) Q E s := by
  obtain ⟨⟨cls, dd, data, sl⟩, ho, hc, n, hd⟩ := id hl
  obtain ⟨⟨cls2, dd2, data2, sl2⟩, ho2, hc2, n2, hd2⟩ := id hb
  simp only at hc hd hc2 hd2
  subst hc hd hc2 hd2
  refine wpAny_richCompare_same_room (op := .NotEq) ⟨_, ho, rfl⟩ ⟨_, ho2, rfl⟩ F.slot_tuple_ne (call_here F.slot_tuple_ne ⟨_, ho, rfl⟩ F.entry_tuple_ne (F.args_tuple_ne_2 _ _) ?_) hu
  exact tuple_neJ (R := wants (fun v s' => v ≠ .notImplemented ∧ Q v s') E) l b items items2 n n2 dd dd2 sl sl2 I Fl turn (fun s' q => ⟨(fun x => nomatch x), fin s' q⟩) (fun s' q => ⟨(fun x => nomatch x), finF s' q⟩) ho ho2 h
end
end GQ
end
section
set_option Elab.async false
set_option linter.all false
set_option maxRecDepth 100000
set_option maxHeartbeats 4000000
namespace Ro
open PySem PySem.Spec PyProof.Rows L2
def atomB : D → Bool
  | .non => true
  | .bl _ => true
  | .int _ => true
  | .str _ => true
  | _ => false
def datN (cls : List String) : Nat → D → Bool
  | n + 1, .tup l => l.all (datN cls n)
  | n + 1, .lst l => l.all (datN cls n)
  | n + 1, .obj c l => cls.contains c && l.all (datN cls n)
  | _, d => atomB d
/-- what may stand behind an own == -/
def rhsB (cls : List String) : D → Bool
  | .non => true
  | .bl _ => true
  | .int _ => true
  | .str _ => true
  | .tup _ => true
  | .lst _ => true
  | .dct _ => true
  | .obj c _ => cls.contains c
  | _ => false
def zipA (e : D → D → Option Bool) : List D → List D → Option Bool
  | x :: l, y :: l' => match e x y with
    | some true => zipA e l l'
    | some false => some false
    | none => none
  | _, _ => some true
open Classical in
noncomputable def idA (cls : List String) (x y : D) (r : Option Bool) : Option Bool := match r with
  | some false => if datN cls 8 x = true ∧ datN cls 8 y = true ∧ x ≠ y then some false else none
  | r => r
open Classical in
noncomputable def methB (m : Fn) (x y : D) (S : Store) : Option Bool := match m [x, y] S with
  | .ok (.bl b) S' => if S' = S then some b else none
  | _ => none
abbrev ETab := String → Option Fn
open Classical in
noncomputable def shapeA (e : D → D → Option Bool) (tab : ETab) (cls : List String) (S : Store) (x y : D) : Option Bool := match x, y with
  | .lst l, .lst l' => if l.length = l'.length then zipA e l l' else some false
  | .tup l, .tup l' => (zipA e l l').map fun b => b && decide (l.length = l'.length)
  | .dct l, .dct l' => if l = l' ∧ l.length ≤ 1 ∧ (l.all fun p => atomB p.2) = true then some true else none
  | .obj c fx, y => if rhsB cls y then (match tab c with
    | some m => methB m (.obj c fx) y S
    | none => none) else none
  | x, .obj c fy => if rhsB cls x then (match tab c with
    | some m => methB m (.obj c fy) x S
    | none => none) else none
  | _, _ => none
mutual
noncomputable def eqA (tab : ETab) (cls : List String) (S : Store) : Nat → D → D → Option Bool
  | 0, _, _ => none
  | n + 1, x, y => if plN 8 x && plN 8 y then some (pyEq x y) else shapeA (eqE tab cls S n) tab cls S x y
noncomputable def eqE (tab : ETab) (cls : List String) (S : Store) : Nat → D → D → Option Bool
  | n, x, y => if plN 8 x && plN 8 y then some (pyEq x y) else match n with
    | 0 => none
    | n + 1 => idA cls x y (eqA tab cls S n x y)
end
structure SubG (X : Cx) (k : Nat) (A : Around) : Prop where
  rg : RG k A
  fr : ∀ s H, Env0 X.prog X.w X.K X.mg X.base X.A X.stack s H → Env0 X.prog X.w X.K X.mg X.base A X.stack s H
theorem SubG.in1 {X : Cx} {k : Nat} {A : Around} (h : SubG X (k + 1) A) : SubG X k A.in1 := ⟨h.rg.in1, fun s H e0 => by
  have e := h.fr s H e0
  exact ⟨e.frames, e.mod, e.bs, e.bsz, e.funs, e.frf, e.hok, e.bare⟩⟩
theorem SubG.mono {X : Cx} {k j : Nat} {A : Around} (h : SubG X k A) (l : j ≤ k) : SubG X j A := ⟨h.rg.mono l, h.fr⟩
theorem SubG.here {X : Cx} {k : Nat} (h : RG k X.A) : SubG X k X.A := ⟨h, fun _ _ e => e⟩
def tyNs : List String := ["NoneType", "bool", "int", "str", "tuple", "list", "dict"]
structure EqCl (T : Tb) (X : Cx) (kk : Nat) (cn : String) (m : Fn) : Prop where
  ex : ∃ (k : Nat) (d : He.DefD), k ≤ kk ∧ OkF T X.prog X.w X.mg X.base k d ["self", "other"] m ∧ Meth T.K (He.ga T.K (cn : Str)) "__eq__" (He.fAd T.K d.at_) ∧
    ∀ fd, FunD T.K d.name d.qual d.params d.body d.scope (d.dvs T.K) [] (He.fAd T.K d.at_) fd → Binds T.K fd ["self", "other"] []
  ne : PySem.W.findIn T.K (.ref (He.ga T.K (cn : Str))) "__ne__" = some (some (.builtin "object.__ne__"))
  mo : PySem.W.mroIn T.K (He.ga T.K (cn : Str)) (.type "object") = some true
structure EqH (T : Tb) (X : Cx) (tab : ETab) (cls : List String) (kk : Nat) : Prop where
  K : X.K = T.K
  cl : ∀ c m, tab c = some m → EqCl T X kk c m
  inj : ∀ c ∈ cls, ∀ c' ∈ cls, He.ga T.K (c : Str) = He.ga T.K (c' : Str) → c = c'
  nf : ∀ c m, tab c = some m → ∀ t ∈ tyNs, PySem.W.notFirst T.K (He.ga T.K (c : Str)) (.type t) = true
  sub : ∀ c m, tab c = some m → ∀ t ∈ tyNs, PySem.W.subIn T.K (.ref (He.ga T.K (c : Str))) (.type t) = some false
  nfo : ∀ c m, tab c = some m → ∀ c' ∈ cls, PySem.W.notFirst T.K (He.ga T.K (c : Str)) (.ref (He.ga T.K (c' : Str))) = true
def Post (X : Cx) (T : Tb) (pins : List (Addr × Obj)) (σ : L2.St) (w : Wd) (S : Store) (s' : Shared) : Prop := ∃ H' w', Inv X pins σ H' s' ∧ w.le w' ∧ WR T w' S H'
section
variable {T : Tb} {X : Cx} {tab : ETab} {cls : List String} {kk : Nat} {pins : List (Addr × Obj)} {σ : L2.St} {s : Shared} {H : Hp} {w : Wd} {S : Store}
theorem Post.le {w1 : Wd} {s' : Shared} (l : w.le w1) (h : Post X T pins σ w1 S s') : Post X T pins σ w S s' := by
  obtain ⟨H', w', I, l', r⟩ := h
  exact ⟨H', w', I, l.trans l', r⟩
theorem tup_cls (hK : X.K = T.K) (I : Inv X pins σ H s) (wr : WR T w S H) {a : Addr} {vs : List V} (h : SqT T.K w.G a vs) : ∃ o : Obj, s.heap.get? a = some o ∧ o.cls = .type "tuple" := by
  obtain ⟨its, r, ⟨o, e, c, _⟩, _⟩ := I.tuple (by rw [hK]; exact sqt_sub wr h)
  exact ⟨o, e, c⟩
theorem lst_cls (I : Inv X pins σ H s) (wr : WR T w S H) {a : Addr} {vs : List V} (h : w.G a = some (.lst vs)) : ∃ o : Obj, s.heap.get? a = some o ∧ o.cls = .type "list" := by
  obtain ⟨z, its, k, r, e⟩ := I.hok a _ (wr.sub _ _ h)
  exact ⟨_, e, rfl⟩
theorem ins_cls (I : Inv X pins σ H s) (wr : WR T w S H) {a C dx : Addr} {fs : List (Str × V)} (h : w.G a = some (.ins C dx fs)) : ∃ o : Obj, s.heap.get? a = some o ∧ o.cls = .ref C := by
  obtain ⟨mA, J, _⟩ := ins_get I.hok (wr.sub _ _ h)
  obtain ⟨od, J, _⟩ := J.look
  exact ⟨_, J.at_, J.cls⟩
theorem reps_inj {l l' : List D} {vs : List V} (h : ∀ x ∈ l, ∀ y ∈ l', ∀ v, Rep T w x v → Rep T w y v → x = y) (r : Reps T w l vs) (r' : Reps T w l' vs) : l = l' := by
  induction l generalizing l' vs with
  | nil => cases r; cases r'; rfl
  | cons x l ih =>
    cases r with
    | cons a b =>
      cases r' with
      | cons a' b' =>
        rw [h _ (by simp) _ (by simp) _ a a', ih (fun x hx y hy => h x (by simp [hx]) y (by simp [hy])) b b']
theorem rep_inj (h : EqH T X tab cls kk) (I : Inv X pins σ H s) (wr : WR T w S H) : ∀ (n : Nat) (x y : D) (v : V), datN cls n x = true → datN cls n y = true → Rep T w x v → Rep T w y v → x = y := by
  intro n
  induction n with
  | zero =>
    intro x y v hx hy rx ry
    cases x <;> simp [datN, atomB] at hx <;> cases rx <;> cases y <;> simp [datN, atomB] at hy <;> cases ry <;> rfl
  | succ n ih =>
    intro x y v hx hy rx ry
    cases rx with
    | non => cases ry; rfl
    | bl b => cases ry; rfl
    | int i => cases ry; rfl
    | str z => cases ry; rfl
    | scr => simp [datN, atomB] at hx
    | dct => simp [datN, atomB] at hx
    | ref => simp [datN, atomB] at hx
    | fn => simp [datN, atomB] at hx
    | xc0 => simp [datN, atomB] at hx
    | xc1 => simp [datN, atomB] at hx
    | tup q r =>
      obtain ⟨o, e, c⟩ := tup_cls h.K I wr q
      cases ry with
      | scr => simp [datN, atomB] at hy
      | dct => simp [datN, atomB] at hy
      | ref => simp [datN, atomB] at hy
      | fn => simp [datN, atomB] at hy
      | xc0 => simp [datN, atomB] at hy
      | xc1 => simp [datN, atomB] at hy
      | tup q' r' =>
        have e2 := I.tuple_inj (by rw [h.K]; exact sqt_sub wr q) (by rw [h.K]; exact sqt_sub wr q')
        subst e2
        simp only [datN, List.all_eq_true] at hx hy
        rw [reps_inj (fun x hx' y hy' v => ih x y v (hx x hx') (hy y hy')) r r']
      | lst q' r' =>
        obtain ⟨o', e', c'⟩ := lst_cls I wr q'
        rw [e] at e'
        cases e'
        rw [c] at c'
        exact absurd c' (by decide)
      | obj q' _ r' =>
        obtain ⟨o', e', c'⟩ := ins_cls I wr q'
        rw [e] at e'
        cases e'
        rw [c] at c'
        cases c'
    | lst q r =>
      obtain ⟨o, e, c⟩ := lst_cls I wr q
      cases ry with
      | scr => simp [datN, atomB] at hy
      | dct => simp [datN, atomB] at hy
      | ref => simp [datN, atomB] at hy
      | fn => simp [datN, atomB] at hy
      | xc0 => simp [datN, atomB] at hy
      | xc1 => simp [datN, atomB] at hy
      | lst q' r' =>
        rw [q] at q'
        cases q'
        simp only [datN, List.all_eq_true] at hx hy
        rw [reps_inj (fun x hx' y hy' v => ih x y v (hx x hx') (hy y hy')) r r']
      | tup q' r' =>
        obtain ⟨o', e', c'⟩ := tup_cls h.K I wr q'
        rw [e] at e'
        cases e'
        rw [c] at c'
        exact absurd c' (by decide)
      | obj q' _ r' =>
        rw [q] at q'
        cases q'
    | obj q nm r =>
      obtain ⟨o, e, c⟩ := ins_cls I wr q
      cases ry with
      | scr => simp [datN, atomB] at hy
      | dct => simp [datN, atomB] at hy
      | ref => simp [datN, atomB] at hy
      | fn => simp [datN, atomB] at hy
      | xc0 => simp [datN, atomB] at hy
      | xc1 => simp [datN, atomB] at hy
      | lst q' r' =>
        rw [q] at q'
        cases q'
      | tup q' r' =>
        obtain ⟨o', e', c'⟩ := tup_cls h.K I wr q'
        rw [e] at e'
        cases e'
        rw [c] at c'
        cases c'
      | obj q' nm' r' =>
        rw [q] at q'
        simp only [datN, Bool.and_eq_true, List.all_eq_true, List.contains_iff_mem] at hx hy
        simp only [Option.some.injEq, HO.ins.injEq] at q'
        obtain ⟨h1, h2, h3⟩ := q'
        subst h3
        rw [h.inj _ hx.1 _ hy.1 h1, reps_inj (fun x hx' y hy' v => ih x y v (hx.2 x hx') (hy.2 y hy')) r r']
end
end Ro
end
section
set_option Elab.async false
set_option linter.all false
set_option maxRecDepth 100000
set_option maxHeartbeats 4000000
namespace GQ
open PySem PySem.SeqAt
open AutoSeq1 (wpAny_loadPart')
open MeetsSeq MeetsSeq2 MeetsSeq3 SeqRoads2
section
variable {prog : Program} {w : World} {A : Around} {R : Result → Shared → Prop} {E : Value → Shared → Prop}
theorem int_eq_own (b : Int) (u : Tok) (l C dx : Addr) :
    Meets (Builtin.«int.__eq__» ⟨[.int b u, .ref l], []⟩) (fun _ R s => s.heap.get? l = some (PySem.W.instObj C dx) ∧ R (.ok (.ret .notImplemented)) s) :=
  .of_wp fun prog w A R s h => by obtain ⟨hp, g, d, tk, os⟩ := s; obtain ⟨hl, h⟩ := h; wp_walk using wpAny_loadPart' hl, wpAny_load hl; exact ⟨_, rfl, h⟩
theorem bool_eq_own (b : Bool) (l C dx : Addr) :
    Meets (Builtin.«int.__eq__» ⟨[.bool b, .ref l], []⟩) (fun _ R s => s.heap.get? l = some (PySem.W.instObj C dx) ∧ R (.ok (.ret .notImplemented)) s) :=
  .of_wp fun prog w A R s h => by obtain ⟨hp, g, d, tk, os⟩ := s; obtain ⟨hl, h⟩ := h; wp_walk using wpAny_loadPart' hl, wpAny_load hl; exact ⟨_, rfl, h⟩
theorem str_eq_own (b : Str) (u : Tok) (l C dx : Addr) :
    Meets (Builtin.«str.__eq__» ⟨[.str b u, .ref l], []⟩) (fun _ R s => s.heap.get? l = some (PySem.W.instObj C dx) ∧ R (.ok (.ret .notImplemented)) s) :=
  .of_wp fun prog w A R s h => by obtain ⟨hp, g, d, tk, os⟩ := s; obtain ⟨hl, h⟩ := h; wp_walk using wpAny_loadPart' hl, wpAny_load hl; exact ⟨_, rfl, h⟩
theorem list_eq_own (l p C dx : Addr) (items : Array Value) (n : Nat) (dd : Option Addr) (sl : Array (Option Value)) {s : Shared} (hl : s.heap.get? l = some { cls := .type "list", dict := dd, data := .seq items n, slots := sl }) (hp : s.heap.get? p = some (PySem.W.instObj C dx))
    (hs : PySem.W.Looks (model prog w) s.heap (isSubtype (.ref C) (.type "list")) false) (h : R (.ok (.ret .notImplemented)) s) :
    wpAny (model prog w) A.in1 (Builtin.«list.__eq__» ⟨[.ref l, .ref p], []⟩) (FinOf prog w A R) (fun e s' => R (.error e) s') s := by
  have hi : PySem.W.Looks (model prog w) s.heap (isInstance (.ref p) (.type "list")) false := (PySem.W.Looks.ld hp).andThen hs
  obtain ⟨hp', g, d, tk, os⟩ := s
  wp_walk using wpAny_loadPart' hl
  refine hs.here ?_
  wp_walk
  exact h
theorem tup_eq_own (l p C dx : Addr) (items : Array Value) (n : Nat) (dd : Option Addr) (sl : Array (Option Value)) {s : Shared} (hl : s.heap.get? l = some { cls := .type "tuple", dict := dd, data := .seq items n, slots := sl }) (hp : s.heap.get? p = some (PySem.W.instObj C dx))
    (hs : PySem.W.Looks (model prog w) s.heap (isSubtype (.ref C) (.type "tuple")) false) (h : R (.ok (.ret .notImplemented)) s) :
    wpAny (model prog w) A.in1 (Builtin.«tuple.__eq__» ⟨[.ref l, .ref p], []⟩) (FinOf prog w A R) (fun e s' => R (.error e) s') s := by
  have hi : PySem.W.Looks (model prog w) s.heap (isInstance (.ref p) (.type "tuple")) false := (PySem.W.Looks.ld hp).andThen hs
  obtain ⟨hp', g, d, tk, os⟩ := s
  wp_walk using wpAny_loadPart' hl
  refine hs.here ?_
  wp_walk
  exact h
theorem dict_eq_own (l p C dx : Addr) (o : Obj) (ho : o.cls = .type "dict") {s : Shared} (hl : s.heap.get? l = some o) (hd : ∃ es ep, o.data = .dict es ep) (hp : s.heap.get? p = some (PySem.W.instObj C dx))
    (hs : PySem.W.Looks (model prog w) s.heap (isSubtype (.ref C) (.type "dict")) false) (h : R (.ok (.ret .notImplemented)) s) :
    wpAny (model prog w) A.in1 (Builtin.«dict.__eq__» ⟨[.ref l, .ref p], []⟩) (FinOf prog w A R) (fun e s' => R (.error e) s') s := by
  have hi : PySem.W.Looks (model prog w) s.heap (isInstance (.ref p) (.type "dict")) false := (PySem.W.Looks.ld hp).andThen hs
  obtain ⟨es, ep, hd⟩ := hd
  obtain ⟨cls, dd, data, sl⟩ := o
  simp only at ho hd
  subst ho hd
  obtain ⟨hp', g, d, tk, os⟩ := s
  wp_walk using wpAny_loadPart' hl
  refine hs.here ?_
  wp_walk
  exact h
end
end GQ
namespace Ro
open PySem PySem.Spec PyProof.Rows L2
section
variable {prog : Program} {w : World} {A : Around} {E : Value → Shared → Prop}
theorem rc_right {a : Value} {Ta ida : String} {C p dx L f : Addr} {K : PySem.W.Frag} {h₀ : Heap} {m : Str → Option Value} {od : Option Obj} {s : Shared} {Q : Value → Shared → Prop} (hu : A.units < cLine) (F : Fr h₀ L s.heap m) (X₀ : K.In h₀) (I : PySem.W.InstAt s.heap p (PySem.W.instObj C dx) C od)
    (ha : s.TypeIs a Ta) (hsub : PySem.W.subIn K (.ref C) (.type Ta) = some false) (h1 : Slot Ta "__eq__" ida)
    (hc : ∀ Q' : Value → Shared → Prop, Q' .notImplemented s → wpAny (model prog w) A (call (.builtin ida) [a, .ref p]) Q' E s)
    (hs : PySem.W.findIn K (.ref C) "__eq__" = some (some (.ref f))) (hf : PySem.W.isFn K (.ref f) = true)
    (h : wpAny (model prog w) A (call (.ref f) [.ref p, a]) (PySem.W.CmpBack Q) E s) : wpAny (model prog w) A (richCompare .Eq a (.ref p)) Q E s := by
  have X := X₀.keeps F.keep
  have one : wpAny (model prog w) A (tryCompare (.ref p) (cmpInfo .Eq).2.2 a) (fun r s' => ∃ v, r = some v ∧ Q v s') E s := by
    unfold tryCompare
    refine wpAny_bind (PySem.W.ifBound_K X I hs hf (wpAny_mono h (fun v s' hv => ?_) fun _ _ e => e))
    cases v <;> first | exact hv.elim | exact wpAny_pure ⟨_, rfl, hv⟩
  simp only [richCompare, ha.oneThing_none]
  refine wpAny_holding (wpAny_bind (wpAny_cRoomFor hu ?_))
  refine wpAny_bind (wpAny_typeOf ha (wpAny_bind (I.type.here ?_)))
  have hne : (Value.type Ta != Value.ref C) = true := rfl
  simp only [hne, if_true]
  refine wpAny_bind ((PySem.W.looks_subIn X hsub).here ?_)
  simp only [Bool.false_eq_true, if_false, Bool.not_false, if_true]
  refine wpAny_bind (m := tryCompare a _ (.ref p)) (wpAny_tryCompare_declines ha h1 (hc _ ⟨rfl, ?_⟩))
  refine wpAny_bind (wpAny_mono one (fun r s' z => ?_) fun _ _ e => e)
  obtain ⟨v, rfl, hq⟩ := z
  exact wpAny_pure hq
end
section
variable {T : Tb} {X : Cx} {tab : ETab} {cls : List String} {kk : Nat} {pins : List (Addr × Obj)} {σ : L2.St} {s : Shared} {H : Hp} {w : Wd} {S : Store}
/-- what stands ahead of an own == declines -/
theorem decl_of (hK : X.K = T.K) (I : Inv X pins σ H s) (wr : WR T w S H) {x : D} {vx : V} {v : Value} (rx : Rep T w x vx) (qx : RelV vx v) (hx : rhsB [] x = true) {A : Around} {E : Value → Shared → Prop} :
    ∃ (Ta ida : String), s.TypeIs v Ta ∧ Ta ∈ tyNs ∧ Slot Ta "__eq__" ida ∧ ∀ (p C dx : Addr), s.heap.get? p = some (PySem.W.instObj C dx) → PySem.W.Looks (model X.prog X.w) s.heap (isSubtype (.ref C) (.type Ta)) false →
      ∀ Q' : Value → Shared → Prop, Q' .notImplemented s → wpAny (model X.prog X.w) A (call (.builtin ida) [v, .ref p]) Q' E s := by
  cases rx with
  | non =>
    cases qx
    exact ⟨"NoneType", _, rfl, by decide, F.slot_NoneType_eq, fun p C dx hp _ Q' h => call_gives F.slot_NoneType_eq rfl F.entry_NoneType_eq (F.args_NoneType_eq_2 _ _) (SeqAt.NoneType___eq___none_ref_0 p) h⟩
  | bl b =>
    cases qx
    exact ⟨"bool", _, rfl, by decide, F.slot_bool_eq, fun p C dx hp _ Q' h => call_meets F.slot_bool_eq rfl F.entry_int_eq (F.args_int_eq_2 _ _) (GQ.bool_eq_own b p C dx) ⟨hp, h⟩⟩
  | int i =>
    obtain ⟨t, rfl⟩ := qx
    exact ⟨"int", _, typeIs_int s i t, by decide, F.slot_int_eq, fun p C dx hp _ Q' h => call_meets F.slot_int_eq (typeIs_int s i t) F.entry_int_eq (F.args_int_eq_2 _ _) (GQ.int_eq_own i t p C dx) ⟨hp, h⟩⟩
  | str z =>
    obtain ⟨t, rfl⟩ := qx
    exact ⟨"str", _, typeIs_str s z t, by decide, F.slot_str_eq, fun p C dx hp _ Q' h => call_meets F.slot_str_eq (typeIs_str s z t) F.entry_str_eq (F.args_str_eq_2 _ _) (GQ.str_eq_own z t p C dx) ⟨hp, h⟩⟩
  | tup q r =>
    cases qx
    obtain ⟨its, r', ⟨⟨cl, dd, data, sl⟩, ho, hc, n, hd⟩, _⟩ := I.tuple (by rw [hK]; exact sqt_sub wr q)
    simp only at hc hd
    subst hc hd
    refine ⟨"tuple", _, ⟨_, ho, rfl⟩, by decide, F.slot_tuple_eq, fun p C dx hp hs Q' h => ?_⟩
    exact GQ.call_here F.slot_tuple_eq ⟨_, ho, rfl⟩ F.entry_tuple_eq (F.args_tuple_eq_2 _ _) (GQ.tup_eq_own (R := wants Q' E) _ p C dx _ n dd sl ho hp hs h)
  | lst q r =>
    cases qx
    obtain ⟨z, its, k, r', e⟩ := I.hok _ _ (wr.sub _ _ q)
    refine ⟨"list", _, ⟨_, e, rfl⟩, by decide, F.slot_list_eq, fun p C dx hp hs Q' h => ?_⟩
    exact GQ.call_here F.slot_list_eq ⟨_, e, rfl⟩ F.entry_list_eq (F.args_list_eq_2 _ _) (GQ.list_eq_own (R := wants Q' E) _ p C dx _ _ _ _ e hp hs h)
  | dct q r =>
    cases qx
    obtain ⟨_, _, vs, _, o, es, ep, e, ed, dt, _⟩ := I.hok _ _ (wr.sub _ _ q)
    refine ⟨"dict", _, ⟨_, e, ed.1⟩, by decide, F.slot_dict_eq, fun p C dx hp hs Q' h => ?_⟩
    exact GQ.call_here F.slot_dict_eq ⟨_, e, ed.1⟩ F.entry_dict_eq (F.args_dict_eq_2 _ _) (GQ.dict_eq_own (R := wants Q' E) _ p C dx o ed.1 e ⟨_, _, dt⟩ hp hs h)
  | _ => cases hx
end
end Ro
end
section
set_option Elab.async false
set_option linter.all false
set_option maxRecDepth 100000
set_option maxHeartbeats 4000000
namespace Ro
open PySem PySem.Spec PyProof.Rows L2
section
variable {T : Tb} {X : Cx} {tab : ETab} {cls : List String} {kk : Nat} {pins : List (Addr × Obj)} {σ : L2.St} {s : Shared} {H : Hp} {w : Wd} {S : Store}
def SRep (T : Tb) (w : Wd) (S : Store) (x : D) (v : V) : Prop := ∃ d, x = seeD d S ∧ Rep T w d v
theorem srep_of {d : D} {v : V} (h : Rep T w d v) (hd : ∀ n, d ≠ .ref n) : SRep T w S d v := ⟨d, by cases d <;> first | rfl | exact absurd rfl (hd _), h⟩
theorem SRep.sees {d : D} {v : V} (h : Rep T w d v) : SRep T w S (seeD d S) v := ⟨d, rfl, h⟩
theorem lst_at {l : List D} {v : V} (h : SRep T w S (.lst l) v) : ∃ a, v = .ref a ∧ ∀ w' H', w.le w' → WR T w' S H' → ∃ vs, H' a = some (.lst vs) ∧ Reps T w' l vs := by
  obtain ⟨d, e, r⟩ := h
  cases r with
  | lst q r =>
    cases e
    exact ⟨_, rfl, fun w' H' le wr => ⟨_, wr.sub _ _ (le.tosb.G _ _ q), r.monoS le.tosb⟩⟩
  | ref hn =>
    rename_i n a
    unfold seeD at e
    dsimp only at e
    cases z : S[n]? with
    | none => rw [z] at e; cases e
    | some c =>
      rw [z] at e
      cases c with
      | lst m =>
        cases e
        refine ⟨_, rfl, fun w' H' le wr => ?_⟩
        obtain ⟨vs, h1, h2⟩ := wr.cell n _ _ z (le.tosb.at hn)
        exact ⟨vs, h1, h2⟩
      | _ => cases e
  | _ => cases e
theorem tup_at {l : List D} {v : V} (h : SRep T w S (.tup l) v) : ∃ a vs, v = .ref a ∧ SqT T.K w.G a vs ∧ Reps T w l vs := by
  obtain ⟨d, e, r⟩ := h
  cases r with
  | tup q r => cases e; exact ⟨_, _, rfl, q, r⟩
  | ref hn =>
    rename_i n a
    unfold seeD at e
    dsimp only at e
    cases z : S[n]? with
    | none => rw [z] at e; cases e
    | some c => rw [z] at e; cases c <;> cases e
  | _ => cases e
theorem dct_at {l : List (D × D)} {v : V} (h : SRep T w S (.dct l) v) (wr : WR T w S H) : ∃ a kvs, v = .ref a ∧ H a = some (.dK kvs) ∧ RepK T w l kvs := by
  obtain ⟨d, e, r⟩ := h
  cases r with
  | dct q r =>
    cases e
    exact ⟨_, _, rfl, wr.sub _ _ q, r⟩
  | ref hn =>
    rename_i n a
    unfold seeD at e
    dsimp only at e
    cases z : S[n]? with
    | none => rw [z] at e; cases e
    | some c =>
      rw [z] at e
      cases c <;> cases e
  | _ => cases e
theorem one_eq {l : List (D × D)} {kvs kvs' : List (Key × V)} (hl : l.length ≤ 1) (ha : (l.all fun p => atomB p.2) = true) (r : RepK T w l kvs) (r' : RepK T w l kvs') :
    kvs.length = kvs'.length ∧ ∀ p ∈ kvs, ∃ u, valV kvs' p.1 = some u ∧ EqV T.K H 1 p.2 u := by
  have at1 : ∀ {d : D} {v v' : V}, atomB d = true → Rep T w d v → Rep T w d v' → EqV T.K H 1 v v' := fun {d v v'} h q q' => by
    refine .inl ?_
    cases q <;> cases q' <;> first | exact ⟨rfl, rfl⟩ | cases h
  match l, hl with
  | [], _ => cases r; cases r'; exact ⟨rfl, fun p hp => by cases hp⟩
  | [(k, d)], _ =>
    have h1 : atomB d = true := by simpa using ha
    cases r with
    | int q r =>
      cases r; cases r' with
      | int q' r' =>
        cases r'
        refine ⟨rfl, fun p hp => ?_⟩
        obtain rfl := List.mem_singleton.mp hp
        exact ⟨_, by simp [valV], at1 h1 q q'⟩
    | str q r =>
      cases r; cases r' with
      | str q' r' =>
        cases r'
        refine ⟨rfl, fun p hp => ?_⟩
        obtain rfl := List.mem_singleton.mp hp
        exact ⟨_, by simp [valV], at1 h1 q q'⟩
theorem obj_at {c : String} {l : List D} {v : V} (h : SRep T w S (.obj c l) v) : Rep T w (.obj c l) v := by
  obtain ⟨d, e, r⟩ := h
  cases r with
  | obj q n r => cases e; exact .obj q n r
  | ref hn =>
    rename_i n a
    unfold seeD at e
    dsimp only at e
    cases z : S[n]? with
    | none => rw [z] at e; cases e
    | some c => rw [z] at e; cases c <;> cases e
  | _ => cases e
theorem dp_s (wr : WR T w S H) {x : D} {v : V} (h : plN 8 x = true) (q : SRep T w S x v) : Dp T.K H v (toPy x) := by
  obtain ⟨d, rfl, r⟩ := q
  exact dp_see wr h r
/-- elements within a builtin -/
def ElR (T : Tb) (X : Cx) (tab : ETab) (cls : List String) (n : Nat) (A : Around) : Prop := ∀ (pins : List (Addr × Obj)) (σ : L2.St) (s : Shared) (H : Hp) (w : Wd) (S : Store) (x y : D) (vx vy : V) (v u : Value) (b : Bool),
  Inv X pins σ H s → WR T w S H → Rep T w x vx → RelV vx v → Rep T w y vy → RelV vy u → eqE tab cls S n x y = some b → ∀ E, wpAny (model X.prog X.w) A (eqBool v u) (fun r s' => r = b ∧ Post X T pins σ w S s') E s
theorem reps_get {l : List D} {vs : List V} (r : Reps T w l vs) {its : List Value} (q : Vals vs its) {i : Nat} (h : i < l.length) (hi : i < its.toArray.size) : ∃ vx, Rep T w l[i] vx ∧ RelV vx its.toArray[i] := by
  induction l generalizing vs its i with
  | nil => simp at h
  | cons x l ih =>
    cases r with
    | cons a b =>
    cases q with
    | cons p q =>
      cases i with
      | zero => exact ⟨_, a, by simpa using p⟩
      | succ i =>
        obtain ⟨vx, h1, h2⟩ := ih b q (i := i) (by simpa using h) (by simpa using hi)
        exact ⟨vx, by simpa using h1, by simpa using h2⟩
theorem seq_turn {n : Nat} {A : Around} (he : ElR T X tab cls n A) (I : Inv X pins σ H s) (wr : WR T w S H) {l l' : List D} {vs vs' : List V} {its its' : List Value} (r : Reps T w l vs) (r' : Reps T w l' vs') (q : Vals vs its) (q' : Vals vs' its') {i : Nat} {b : Bool}
    (h1 : i < its.toArray.size) (h2 : i < its'.toArray.size) (hz : zipA (eqE tab cls S n) (l.drop i) (l'.drop i) = some b) (E : Value → Shared → Prop) :
    wpAny (model X.prog X.w) A (eqBool its.toArray[i] its'.toArray[i]) (fun k s' => (k = true ∧ zipA (eqE tab cls S n) (l.drop (i + 1)) (l'.drop (i + 1)) = some b ∧ Post X T pins σ w S s') ∨ (k = false ∧ b = false ∧ Post X T pins σ w S s')) E s := by
  have hl : i < l.length := by rw [r.length, q.length]; simpa using h1
  have hl' : i < l'.length := by rw [r'.length, q'.length]; simpa using h2
  obtain ⟨vx, p1, p2⟩ := reps_get r q hl h1
  obtain ⟨vy, p3, p4⟩ := reps_get r' q' hl' h2
  rw [List.drop_eq_getElem_cons hl, List.drop_eq_getElem_cons hl', zipA] at hz
  cases z : eqE tab cls S n l[i] l'[i] with
  | none => rw [z] at hz; cases hz
  | some k =>
    rw [z] at hz
    refine wpAny_mono (he pins σ s H w S _ _ vx vy _ _ k I wr p1 p2 p3 p4 z E) (fun k' s' hk => ?_) fun _ _ e => e
    obtain ⟨rfl, hP⟩ := hk
    cases k' with
    | true => exact .inl ⟨rfl, hz, hP⟩
    | false =>
      have : b = false := by injection hz with e; exact e.symm
      exact .inr ⟨rfl, this, hP⟩
/-- two lists, item by item -/
theorem list_J {n : Nat} {A : Around} (he : ElR T X tab cls n A.in1) (wr0 : WR T w S H) {l l' : List D} {a a' : Addr} (hlen : l.length = l'.length) (h1 : ∀ w' H', w.le w' → WR T w' S H' → ∃ vs, H' a = some (.lst vs) ∧ Reps T w' l vs) (h2 : ∀ w' H', w.le w' → WR T w' S H' → ∃ vs, H' a' = some (.lst vs) ∧ Reps T w' l' vs) {b : Bool} (E : Value → Shared → Prop) :
    GQ.ListJ X.prog X.w A E a a' l.length (fun i s' => zipA (eqE tab cls S n) (l.drop i) (l'.drop i) = some b ∧ Post X T pins σ w S s') (fun s' => b = false ∧ Post X T pins σ w S s') := by
  have rd : ∀ s', Post X T pins σ w S s' → ∃ (w' : Wd) (H' : Hp) (vs vs' : List V) (its its' : List Value), Inv X pins σ H' s' ∧ w.le w' ∧ WR T w' S H' ∧ Reps T w' l vs ∧ Reps T w' l' vs' ∧ Vals vs its ∧ Vals vs' its' ∧ GQ.TwoL a a' l.length s' its.toArray its'.toArray := by
    intro s' ⟨H', w', I, le, wr⟩
    obtain ⟨vs, e1, r1⟩ := h1 w' H' le wr
    obtain ⟨vs', e2, r2⟩ := h2 w' H' le wr
    obtain ⟨z, its, k, r, e⟩ := I.hok a _ e1
    obtain ⟨z2, its2, k2, r', e'⟩ := I.hok a' _ e2
    exact ⟨w', H', vs, vs', its, its2, I, le, wr, r1, r2, r, r', k, k2, e, e', by rw [List.size_toArray, ← r.length, ← r1.length], by rw [List.size_toArray, ← r'.length, ← r2.length, hlen]⟩
  intro i s' ⟨hz, hP⟩
  obtain ⟨w', H', vs, vs', its, its', I, le, wr, r1, r2, v1, v2, tw⟩ := rd s' hP
  refine ⟨_, _, tw, fun k1 k2 => ?_⟩
  refine wpAny_mono (seq_turn he I wr r1 r2 v1 v2 k1 k2 hz E) (fun k s2 hk => ?_) fun _ _ e => e
  rcases hk with ⟨rfl, hz2, hP2⟩ | ⟨rfl, hb, hP2⟩
  · exact .inl ⟨rfl, hz2, hP2.le le⟩
  · obtain ⟨w2, H2, us, us', ts, ts', I2, le2, wr2, q1, q2, x1, x2, tw2⟩ := rd s2 (hP2.le le)
    exact .inr ⟨rfl, ⟨hb, hP2.le le⟩, _, _, tw2⟩
theorem meth2_runG {cn : String} {m : Fn} {k : Nat} {d : He.DefD} {A : Around} {l : List D} {y : D} {p : Addr} {vy : V} {u : Value} {b : Bool} {E : Value → Shared → Prop} (hK : X.K = T.K) (ok : OkF T X.prog X.w X.mg X.base k d ["self", "other"] m) (hr : RG k A)
    (hb : ∀ fd, FunD T.K d.name d.qual d.params d.body d.scope (d.dvs T.K) [] (He.fAd T.K d.at_) fd → Binds T.K fd ["self", "other"] []) (I : Inv X pins σ H s) (he : Env0 X.prog X.w T.K X.mg X.base A X.stack s H) (wr : WR T w S H) (r1 : Rep T w (.obj cn l) (.ref p)) (r2 : Rep T w y vy) (ru : RelV vy u)
    (q : m [.obj cn l, y] S = .ok (.bl b) S) :
    wpAny (model X.prog X.w) A (call (.ref (He.fAd T.K d.at_)) [.ref p, u]) (fun v s' => v = .bool b ∧ Post X T pins σ w S s') E s := by
  obtain ⟨fd, FD, FG⟩ := ok.ex
  have hsp : spI T ["self", "other"].length m [.ref p, vy] H (fun v H' => v = .bl b ∧ ∃ w', w.le w' ∧ WR T w' S H') (fun _ _ _ => False) := ⟨rfl, w, [.obj cn l, y], S, wr, .cons r1 (.cons r2 .nil), by
    rw [q]
    exact fun w' H' v l' r' p' => by
      cases p'
      exact ⟨rfl, w', l', r'⟩⟩
  have rv : Vals [V.ref p, vy] [Value.ref p, u] := .cons rfl (.cons ru .nil)
  have hbd : BindsTo s fd ⟨[.ref p, u], []⟩ ((["self", "other"] : List Str).zip [Value.ref p, u]) := by
    have := hb fd FD s [.ref p, u] (by rw [← hK]; exact I.kIn) rfl
    simpa using this
  refine wpAny_call (codeAny_mono (FG.run A X.stack s H ⟨[.ref p, u], []⟩ [.ref p, u] [.ref p, vy] _ (fun _ _ _ => False) hr he hbd rv hsp) fun r s' hq => ?_)
  cases r with
  | error e =>
    obtain ⟨_, _, _, _, _, _, _, _, _, _, _, _, z⟩ := hq
    exact z.elim
  | ok fl =>
    cases fl with
    | ret v =>
      obtain ⟨z, H', I', rz, ec, w', le, wr'⟩ := I.after hq
      subst ec
      obtain rfl : v = Value.bool b := rz
      exact ⟨rfl, H', w', I', le, wr'⟩
    | next => exact False.elim hq
    | brk => exact False.elim hq
    | cont => exact False.elim hq
/-- the type of what stands behind -/
theorem ty_rhs (h : EqH T X tab cls kk) (I : Inv X pins σ H s) (wr : WR T w S H) {c : String} {m : Fn} (hm : tab c = some m) {y : D} {vy : V} {u : Value} (ry : Rep T w y vy) (ru : RelV vy u) (hy : rhsB cls y = true) :
    ∃ tb, PySem.W.Looks (model X.prog X.w) s.heap (typeOf u) tb ∧ PySem.W.notFirst T.K (He.ga T.K (c : Str)) tb = true := by
  have ld : ∀ {a : Addr} {tb : Value}, (∃ o : Obj, s.heap.get? a = some o ∧ o.cls = tb) → PySem.W.Looks (model X.prog X.w) s.heap (typeOf (.ref a)) tb := fun ⟨o, e, ec⟩ => ec ▸ (PySem.W.Looks.ld e).andThen .now
  cases ry with
  | non => cases ru; exact ⟨_, PySem.W.Looks.of_pure rfl, h.nf c m hm "NoneType" (by decide)⟩
  | bl b => cases ru; exact ⟨_, PySem.W.Looks.of_pure rfl, h.nf c m hm "bool" (by decide)⟩
  | int i => obtain ⟨t, rfl⟩ := ru; exact ⟨_, PySem.W.Looks.of_pure rfl, h.nf c m hm "int" (by decide)⟩
  | str z => obtain ⟨t, rfl⟩ := ru; exact ⟨_, PySem.W.Looks.of_pure rfl, h.nf c m hm "str" (by decide)⟩
  | tup q r => cases ru; exact ⟨_, ld (tup_cls h.K I wr q), h.nf c m hm "tuple" (by decide)⟩
  | lst q r => cases ru; exact ⟨_, ld (lst_cls I wr q), h.nf c m hm "list" (by decide)⟩
  | obj q n r =>
    rename_i c' _ _ _ _
    cases ru
    refine ⟨_, ld (ins_cls I wr q), h.nfo c m hm c' ?_⟩
    simpa [rhsB] using hy
  | dct q r =>
    cases ru
    obtain ⟨o, e, ec⟩ : ∃ o : Obj, s.heap.get? _ = some o ∧ o.cls = .type "dict" := by
      obtain ⟨_, _, vs, _, o, _, _, e, ed, _⟩ := I.hok _ _ (wr.sub _ _ q)
      exact ⟨o, e, ed.1⟩
    exact ⟨_, ld ⟨o, e, ec⟩, h.nf c m hm "dict" (by decide)⟩
  | _ => cases hy
theorem eqBool_L {prog : Program} {wd : World} {A : Around} {E : Value → Shared → Prop} {a : Addr} {u : Value} {Q : Bool → Shared → Prop} (hne : Value.ref a ≠ u) (h : wpAny (model prog wd) A (richCompare .Eq (.ref a) u) (fun v s' => ∃ r, v = .bool r ∧ Q r s') E s) : wpAny (model prog wd) A (eqBool (.ref a) u) Q E s := by
  unfold eqBool
  refine wpAny_holding ?_
  refine wpAny_ite_split (fun hab => absurd (eq_of_beq hab) hne) (fun _ => ?_)
  refine wpAny_bind (wpAny_mono h (fun v s' hv => ?_) fun _ _ x => x)
  obtain ⟨r, rfl, q⟩ := hv
  exact wpAny_truthy_bool q
theorem eqBool_R {prog : Program} {wd : World} {A : Around} {E : Value → Shared → Prop} {a : Value} {p : Addr} {Q : Bool → Shared → Prop} (hf : ∀ f t, a ≠ .float f t) (hne : a ≠ .ref p) (h : wpAny (model prog wd) A (richCompare .Eq a (.ref p)) (fun v s' => ∃ r, v = .bool r ∧ Q r s') E s) : wpAny (model prog wd) A (eqBool a (.ref p)) Q E s := by
  unfold eqBool
  refine wpAny_holding ?_
  refine wpAny_ite_split (fun hab => absurd (eq_of_beq hab) hne) (fun _ => ?_)
  have fin : wpAny (model prog wd) A (richCompare .Eq a (.ref p) >>= fun v => truthOfDropped v) Q E s := by
    refine wpAny_bind (wpAny_mono h (fun v s' hv => ?_) fun _ _ x => x)
    obtain ⟨r, rfl, q⟩ := hv
    exact wpAny_truthy_bool q
  cases a <;> first | exact fin | exact absurd rfl (hf _ _)
theorem eqBool_S {prog : Program} {wd : World} {A : Around} {E : Value → Shared → Prop} {a : Addr} {Q : Bool → Shared → Prop} (h : Q true s) : wpAny (model prog wd) A (eqBool (.ref a) (.ref a)) Q E s := by
  unfold eqBool
  refine wpAny_holding ?_
  refine wpAny_ite_split (fun _ => ?_) (fun hab => absurd (beq_self_eq_true _) hab)
  exact wpAny_bind (wpAny_rule (wpAny_pure h))
theorem eqE_z {x y : D} : eqE tab cls S 0 x y = if plN 8 x && plN 8 y then some (pyEq x y) else none := by rw [eqE]
theorem eqE_s {n : Nat} {x y : D} : eqE tab cls S (n + 1) x y = if plN 8 x && plN 8 y then some (pyEq x y) else idA cls x y (eqA tab cls S n x y) := by rw [eqE]
theorem eqA_z {x y : D} : eqA tab cls S 0 x y = none := by rw [eqA]
theorem eqA_s {n : Nat} {x y : D} : eqA tab cls S (n + 1) x y = if plN 8 x && plN 8 y then some (pyEq x y) else shapeA (eqE tab cls S n) tab cls S x y := by rw [eqA]
theorem eqA_nref {n : Nat} {x y : D} {b : Bool} (h : eqA tab cls S n x y = some b) : (∀ k, x ≠ .ref k) ∧ ∀ k, y ≠ .ref k := by
  cases n with
  | zero => rw [eqA_z] at h; cases h
  | succ n =>
    rw [eqA_s] at h
    split at h
    · rename_i q
      obtain ⟨q1, q2⟩ := Bool.and_eq_true_iff.mp q
      exact ⟨fun k e => by subst e; simp [plN] at q1, fun k e => by subst e; simp [plN] at q2⟩
    · constructor
      · intro k e
        subst e
        cases y <;> simp [shapeA, rhsB] at h
      · intro k e
        subst e
        cases x <;> simp [shapeA, rhsB] at h
theorem eqE_nref {n : Nat} {x y : D} {b : Bool} (h : eqE tab cls S n x y = some b) : (∀ k, x ≠ .ref k) ∧ ∀ k, y ≠ .ref k := by
  have pl : (plN 8 x && plN 8 y) = true → (∀ k, x ≠ .ref k) ∧ ∀ k, y ≠ .ref k := fun q => by
    obtain ⟨q1, q2⟩ := Bool.and_eq_true_iff.mp q
    exact ⟨fun k e => by subst e; simp [plN] at q1, fun k e => by subst e; simp [plN] at q2⟩
  cases n with
  | zero =>
    rw [eqE_z] at h
    split at h
    · rename_i q; exact pl q
    · cases h
  | succ n =>
    rw [eqE_s] at h
    split at h
    · rename_i q; exact pl q
    · cases z : eqA tab cls S n x y with
      | none => rw [z] at h; cases h
      | some b => exact eqA_nref z
theorem eqA_run (h : EqH T X tab cls kk) : ∀ (n : Nat),
    (∀ A, SubG X (kk + n) A → ElR T X tab cls n A) ∧
    (∀ A, SubG X (kk + n) A → ∀ (pins : List (Addr × Obj)) (σ : L2.St) (s : Shared) (H : Hp) (w : Wd) (S : Store) (x y : D) (vx vy : V) (v u : Value) (b : Bool), Inv X pins σ H s → WR T w S H → SRep T w S x vx → RelV vx v → SRep T w S y vy → RelV vy u → ((∃ c l, x = .obj c l) → Rep T w y vy) → ((∃ c l, y = .obj c l) → Rep T w x vx) → eqA tab cls S n x y = some b →
      ∀ E, wpAny (model X.prog X.w) A (richCompare .Eq v u) (fun r s' => r = .bool b ∧ Post X T pins σ w S s') E s) := by
  have plain : ∀ (A : Around), A.units + 64 < cLine → ∀ (pins : List (Addr × Obj)) (σ : L2.St) (s : Shared) (H : Hp) (w : Wd) (S : Store) (x y : D) (vx vy : V) (v u : Value), Inv X pins σ H s → WR T w S H → SRep T w S x vx → RelV vx v → SRep T w S y vy → RelV vy u → plN 8 x = true → plN 8 y = true →
      (∀ E, wpAny (model X.prog X.w) A (richCompare .Eq v u) (fun r s' => r = .bool (pyEq x y) ∧ Post X T pins σ w S s') E s) ∧ (∀ E, wpAny (model X.prog X.w) A (eqBool v u) (fun r s' => r = pyEq x y ∧ Post X T pins σ w S s') E s) := by
    intro A hu pins σ s H w S x y vx vy v u I wr rx qx ry qy p1 p2
    obtain ⟨as, r1⟩ := Dp.reads I _ vx v (by rw [h.K]; exact dp_s wr p1 rx) qx
    obtain ⟨bs, r2⟩ := Dp.reads I _ vy u (by rw [h.K]; exact dp_s wr p2 ry) qy
    obtain ⟨k1, k2⟩ := toPy_ok 8 _ p1
    obtain ⟨k3, k4⟩ := toPy_ok 8 _ p2
    have hP : Post X T pins σ w S s := ⟨H, w, I, Wd.le.refl _, wr⟩
    constructor
    · intro E
      refine SeqAt.rcAt_plain r1 r2 k1 k3 (by omega) _ _ E _ ?_
      rw [eqv_py 8 _ _ p1 p2]
      exact ⟨rfl, hP⟩
    · intro E
      refine SeqAt.eqAt_plain _ _ A s _ _ _ _ r1 r2 k1 k3 (by omega) _ _ E _ ?_
      rw [eqv_py 8 _ _ p1 p2]
      exact ⟨rfl, hP⟩
  intro n
  induction n with
  | zero =>
    refine ⟨fun A sb pins σ s H w S x y vx vy v u b I wr rx qx ry qy hz E => ?_, fun A sb pins σ s H w S x y vx vy v u b I wr rx qx ry qy hyr hxr hz E => by rw [eqA_z] at hz; cases hz⟩
    obtain ⟨n1, n2⟩ := eqE_nref hz
    rw [eqE_z] at hz
    split at hz
    · rename_i q
      obtain ⟨q1, q2⟩ := Bool.and_eq_true_iff.mp q
      cases hz
      exact (plain A (by have := hu65 sb.rg; omega) pins σ s H w S x y vx vy v u I wr (srep_of rx n1) qx (srep_of ry n2) qy q1 q2).2 E
    · cases hz
  | succ n ih =>
    constructor
    · intro A sb pins σ s H w S x y vx vy v u b I wr rx qx ry qy hz E
      obtain ⟨n1, n2⟩ := eqE_nref hz
      rw [eqE_s] at hz
      split at hz
      · rename_i q
        obtain ⟨q1, q2⟩ := Bool.and_eq_true_iff.mp q
        cases hz
        exact (plain A (by have := hu65 sb.rg; omega) pins σ s H w S x y vx vy v u I wr (srep_of rx n1) qx (srep_of ry n2) qy q1 q2).2 E
      · rename_i hnp
        cases z : eqA tab cls S n x y with
        | none => rw [z] at hz; cases hz
        | some k =>
          rw [z] at hz
          have run := ih.2 A (sb.mono (by omega)) pins σ s H w S x y vx vy v u k I wr (srep_of rx n1) qx (srep_of ry n2) qy (fun _ => ry) (fun _ => rx) z
          have hb : k = b := by
            cases k with
            | true => injection hz
            | false =>
              unfold idA at hz
              dsimp only at hz
              split at hz
              · injection hz
              · cases hz
          subst hb
          -- x is of the heap, or y is
          have side : (∃ a, v = .ref a) ∨ ((∃ p, u = .ref p) ∧ (∀ f t, v ≠ .float f t) ∧ ∀ a, v ≠ .ref a) := by
            cases n with
            | zero => rw [eqA_z] at z; cases z
            | succ n =>
              rw [eqA_s, if_neg hnp] at z
              have yo : ∀ {x : D}, shapeA (eqE tab cls S n) tab cls S x y = some k → (∀ l, x ≠ .lst l) → (∀ l, x ≠ .tup l) → (∀ c l, x ≠ .obj c l) → ∃ p, u = .ref p := fun {x} hz h1 h2 h3 => by
                cases y with
                | obj c l => cases ry; cases qy; exact ⟨_, rfl⟩
                | dct l => cases ry; cases qy; exact ⟨_, rfl⟩
                | _ => cases x <;> first | cases hz | exact absurd rfl (h1 _) | exact absurd rfl (h2 _) | exact absurd rfl (h3 _ _)
              cases x with
              | lst l => cases rx; cases qx; exact .inl ⟨_, rfl⟩
              | tup l => cases rx; cases qx; exact .inl ⟨_, rfl⟩
              | obj c l => cases rx; cases qx; exact .inl ⟨_, rfl⟩
              | dct l => cases rx; cases qx; exact .inl ⟨_, rfl⟩
              | non => cases rx; cases qx; exact .inr ⟨yo z (by simp) (by simp) (by simp), by simp, by simp⟩
              | bl b => cases rx; cases qx; exact .inr ⟨yo z (by simp) (by simp) (by simp), by simp, by simp⟩
              | int i => cases rx; obtain ⟨t, rfl⟩ := qx; exact .inr ⟨yo z (by simp) (by simp) (by simp), by simp, by simp⟩
              | str i => cases rx; obtain ⟨t, rfl⟩ := qx; exact .inr ⟨yo z (by simp) (by simp) (by simp), by simp, by simp⟩
              | _ => cases y <;> simp [shapeA, rhsB] at z
          rcases side with ⟨a, rfl⟩ | ⟨⟨p, rfl⟩, hfl, hnr⟩
          rotate_left
          · exact eqBool_R hfl (hnr p) (wpAny_mono (run E) (fun r s' q => ⟨k, q.1, rfl, q.2⟩) fun _ _ e => e)
          by_cases hv : Value.ref a = u
          · subst hv
            refine eqBool_S ⟨?_, H, w, I, Wd.le.refl _, wr⟩
            cases k with
            | true => rfl
            | false =>
              exfalso
              unfold idA at hz
              dsimp only at hz
              split at hz
              · rename_i hd
                have e1 : vx = .ref a := by
                  cases vx <;> simp [L2.RelV] at qx
                  rw [qx]
                have e2 : vy = .ref a := by
                  cases vy <;> simp [L2.RelV] at qy
                  rw [qy]
                subst e1 e2
                exact hd.2.2 (rep_inj h I wr 8 x y _ hd.1 hd.2.1 rx ry)
              · cases hz
          · exact eqBool_L hv (wpAny_mono (run E) (fun r s' q => ⟨k, q.1, rfl, q.2⟩) fun _ _ e => e)
    · intro A sb pins σ s H w S x y vx vy v u b I wr rx qx ry qy hyr hxr hz E
      rw [eqA_s] at hz
      split at hz
      · rename_i q
        obtain ⟨q1, q2⟩ := Bool.and_eq_true_iff.mp q
        cases hz
        exact (plain A (by have := hu65 sb.rg; omega) pins σ s H w S x y vx vy v u I wr rx qx ry qy q1 q2).1 E
      · rename_i hnp
        have hu : A.units < cLine := by have := hu65 sb.rg; omega
        unfold shapeA at hz
        split at hz
        · rename_i l l'
          obtain ⟨a, rfl, h1⟩ := lst_at rx
          obtain ⟨a', rfl, h2⟩ := lst_at ry
          cases qx
          cases qy
          split at hz
          · rename_i hlen
            refine GQ.rc_list_eqJ hu _ _ (list_J (ih.1 A.in1 (SubG.in1 (sb.mono (by omega)))) wr hlen h1 h2 E (b := b)) (fun s' q => ?_) (fun s' q => ?_) ⟨by simpa using hz, H, w, I, Wd.le.refl _, wr⟩
            · obtain ⟨q1, q2⟩ := q
              rw [List.drop_of_length_le (Nat.le_refl _), List.drop_of_length_le (by omega), zipA] at q1
              · injection q1 with q1
                exact ⟨by rw [q1], q2⟩
              · intros; simp_all
            · obtain ⟨rfl, q2⟩ := q
              exact ⟨rfl, q2⟩
          · rename_i hlen
            cases hz
            obtain ⟨vs, e1, r1⟩ := h1 w H (Wd.le.refl _) wr
            obtain ⟨vs', e2, r2⟩ := h2 w H (Wd.le.refl _) wr
            obtain ⟨z, its, k, r, e⟩ := I.hok a _ e1
            obtain ⟨z2, its2, k2, r', e'⟩ := I.hok a' _ e2
            refine SeqAt.RcAt.lists_lengths (items := its.toArray) (items2 := its2.toArray) ⟨_, e, rfl, _, rfl⟩ ⟨_, e', rfl, _, rfl⟩ ?_ hu _ _ E _ ⟨rfl, H, w, I, Wd.le.refl _, wr⟩
            rw [List.size_toArray, List.size_toArray, ← r.length, ← r'.length, ← r1.length, ← r2.length]
            simpa using hlen
        · rename_i l l'
          obtain ⟨a, vs, rfl, q1, r1⟩ := tup_at rx
          obtain ⟨a', vs', rfl, q2, r2⟩ := tup_at ry
          cases qx
          cases qy
          obtain ⟨its, v1, e1, _⟩ := I.tuple (by rw [h.K]; exact sqt_sub wr q1)
          obtain ⟨its', v2, e2, _⟩ := I.tuple (by rw [h.K]; exact sqt_sub wr q2)
          cases zz : zipA (eqE tab cls S n) l l' with
          | none => rw [zz] at hz; cases hz
          | some k =>
            rw [zz] at hz
            have hb : (k && decide (l.length = l'.length)) = b := by injection hz
            have s1 : its.toArray.size = l.length := by rw [List.size_toArray, ← v1.length, ← r1.length]
            have s2 : its'.toArray.size = l'.length := by rw [List.size_toArray, ← v2.length, ← r2.length]
            refine GQ.rc_tup_eqJ hu (fun i s' => zipA (eqE tab cls S n) (l.drop i) (l'.drop i) = some k ∧ Post X T pins σ w S s') (fun s' => k = false ∧ Post X T pins σ w S s') e1 e2 (fun i k1 k2 s' q => ?_) (fun s' q => ?_) (fun s' q => ?_) ⟨by simpa using zz, H, w, I, Wd.le.refl _, wr⟩
            · obtain ⟨z1, H', w', I', le, wr'⟩ := q
              refine wpAny_mono (seq_turn (ih.1 A.in1 (SubG.in1 (sb.mono (by omega)))) I' wr' (r1.monoS le.tosb) (r2.monoS le.tosb) v1 v2 k1 k2 z1 E) (fun r s2 hk => ?_) fun _ _ e => e
              rcases hk with ⟨rfl, hz2, hP2⟩ | ⟨rfl, hb, hP2⟩
              · exact .inl ⟨rfl, hz2, hP2.le le⟩
              · exact .inr ⟨rfl, hb, hP2.le le⟩
            · obtain ⟨z1, hP⟩ := q
              have : k = true := by
                rw [s1, s2] at z1
                rcases Nat.le_total l.length l'.length with g | g
                · rw [Nat.min_eq_left g, List.drop_of_length_le (Nat.le_refl _), zipA] at z1
                  · injection z1 with z1; exact z1.symm
                  · intros; simp_all
                · rw [Nat.min_eq_right g, List.drop_of_length_le (l := l') (Nat.le_refl _), zipA] at z1
                  · injection z1 with z1; exact z1.symm
                  · intros; simp_all
              subst this
              rw [s1, s2]
              refine ⟨?_, hP⟩
              rw [← hb]
              congr 1
            · obtain ⟨rfl, hP⟩ := q
              exact ⟨by rw [← hb]; rfl, hP⟩
        · rename_i l l'
          obtain ⟨a, kvs, rfl, e1, r1⟩ := dct_at rx wr
          obtain ⟨a', kvs', rfl, e2, r2⟩ := dct_at ry wr
          split at hz
          · rename_i hc
            obtain ⟨hc1, hc2, hc3⟩ := hc
            cases hz
            subst hc1
            obtain ⟨g1, g2⟩ := one_eq (H := H) hc2 hc3 r1 r2
            have sm : A.units + 64 < cLine := by have := hu65 sb.rg; omega
            exact eqR_run I hu (eqV_run I 1 A.in1 (by show A.units + 1 + 1 < cLine; omega)) (.inr ⟨a, a', kvs, kvs', rfl, rfl, e1, e2, g1, by rw [h.K]; exact g2⟩) qx qy E _ ⟨rfl, H, w, I, Wd.le.refl _, wr⟩
          · cases hz
        · rename_i c fx
          split at hz
          · rename_i hrhs
            split at hz
            · rename_i m hm
              have rx := obj_at rx
              obtain ⟨k, d, hk, ok, M, hbd⟩ := (h.cl c m hm).ex
              have hq : m [.obj c fx, y] S = .ok (.bl b) S := by
                unfold methB at hz
                split at hz
                · split at hz
                  · rename_i b' S' e1 e2
                    injection hz with e3
                    rw [e1, e2, e3]
                  · cases hz
                · cases hz
              have ry' : Rep T w y vy := hyr ⟨_, _, rfl⟩
              obtain ⟨tb, L, nf⟩ := ty_rhs h I wr hm ry' qy hrhs
              have rx0 := rx
              cases rx with
              | obj hG hn hrs =>
                cases qx
                obtain ⟨mA, J, _⟩ := ins_get I.hok (wr.sub _ _ hG)
                obtain ⟨od, J, _⟩ := J.look
                obtain ⟨mf, hF⟩ := I.fr
                have e0 : Env0 X.prog X.w T.K X.mg X.base A X.stack s H := by
                  have e := sb.fr s H I.env0
                  rw [h.K] at e
                  exact e
                refine PySem.W.cmp_K (op := .Eq) (tb := tb) sb.rg.rm.units0 hF I.ok.mod.kin J L (by rw [h.K]; exact nf) (by rw [h.K]; exact M.at_) (by rw [h.K]; exact M.fn) ?_
                refine wpAny_mono (meth2_runG h.K ok (sb.rg.mono (by omega)) hbd I e0 wr rx0 ry' qy hq) (fun r s' q => ?_) fun _ _ e => e
                obtain ⟨rfl, hP⟩ := q
                exact ⟨rfl, hP⟩
            · cases hz
          · cases hz
        · rename_i c fy hno
          split at hz
          · rename_i hrhs
            split at hz
            · rename_i m hm
              have ry := obj_at ry
              obtain ⟨k, d, hk, ok, M, hbd⟩ := (h.cl c m hm).ex
              have hq : m [.obj c fy, x] S = .ok (.bl b) S := by
                unfold methB at hz
                split at hz
                · split at hz
                  · rename_i b' S' e1 e2
                    injection hz with e3
                    rw [e1, e2, e3]
                  · cases hz
                · cases hz
              have rx' : Rep T w x vx := hxr ⟨_, _, rfl⟩
              have hrhs2 : rhsB [] x = true := by
                cases x <;> first | rfl | cases hrhs | exact absurd rfl (fun e => hno _ _ e)
              have ry0 := ry
              cases ry with
              | obj hG hn hrs =>
                cases qy
                obtain ⟨mA, J, _⟩ := ins_get I.hok (wr.sub _ _ hG)
                have hge := J.1
                obtain ⟨od, J, _⟩ := J.look
                obtain ⟨mf, hF⟩ := I.fr
                obtain ⟨Ta, ida, ha, hTa, h1, hdec⟩ := decl_of h.K I wr rx' qx hrhs2 (A := A) (E := E)
                have e0 : Env0 X.prog X.w T.K X.mg X.base A X.stack s H := by
                  have e := sb.fr s H I.env0
                  rw [h.K] at e
                  exact e
                have hsub := h.sub c m hm Ta hTa
                refine rc_right (ida := ida) sb.rg.rm.units0 hF I.ok.mod.kin J ha (by rw [h.K]; exact hsub) h1 (fun Q' hQ => hdec _ _ _ hge (PySem.W.looks_subIn (I.ok.mod.kin.keeps hF.keep) (by rw [h.K]; exact hsub)) Q' hQ) (by rw [h.K]; exact M.at_) (by rw [h.K]; exact M.fn) ?_
                refine wpAny_mono (meth2_runG h.K ok (sb.rg.mono (by omega)) hbd I e0 wr ry0 rx' qx hq) (fun r s' q => ?_) fun _ _ e => e
                obtain ⟨rfl, hP⟩ := q
                exact ⟨rfl, hP⟩
            · cases hz
          · cases hz
        · cases hz
end
end Ro
end
section
set_option Elab.async false
set_option linter.all false
set_option maxRecDepth 100000
set_option maxHeartbeats 4000000
namespace Ro
open PySem PySem.Spec PyProof.Rows L2
section
variable {T : Tb} {E : XK} {X : Cx} {tab : ETab} {cls : List String} {kk : Nat} {a b : Expr} {f g : EX} {pos : Pos}
theorem neA_run (h : EqH T X tab cls kk) (n : Nat) (A : Around) (sb : SubG X (kk + n + 2) A) (pins : List (Addr × Obj)) (σ : L2.St) (s : Shared) (H : Hp) (w : Wd) (S : Store) (x y : D) (vx vy : V) (v u : Value) (b : Bool) (I : Inv X pins σ H s) (wr : WR T w S H) (rx : SRep T w S x vx) (qx : RelV vx v) (ry : SRep T w S y vy) (qy : RelV vy u) (hyr : (∃ c l, x = .obj c l) → Rep T w y vy) (hno : (∃ c l, y = .obj c l) → ∃ c l, x = .obj c l) (hnd : ∀ l, x ≠ .dct l)
    (hz : eqA tab cls S n x y = some b) (E : Value → Shared → Prop) : wpAny (model X.prog X.w) A (richCompare .NotEq v u) (fun r s' => r = .bool (!b) ∧ Post X T pins σ w S s') E s := by
  have hu : A.units < cLine := by have := hu65 sb.rg; omega
  cases n with
  | zero => rw [eqA_z] at hz; cases hz
  | succ n =>
    have el := (eqA_run h n).1 A.in1 (SubG.in1 (sb.mono (by omega)))
    rw [eqA_s] at hz
    split at hz
    · rename_i q
      obtain ⟨p1, p2⟩ := Bool.and_eq_true_iff.mp q
      cases hz
      obtain ⟨as, r1⟩ := Dp.reads I _ vx v (by rw [h.K]; exact dp_s wr p1 rx) qx
      obtain ⟨bs, r2⟩ := Dp.reads I _ vy u (by rw [h.K]; exact dp_s wr p2 ry) qy
      obtain ⟨k1, k2⟩ := toPy_ok 8 _ p1
      obtain ⟨k3, k4⟩ := toPy_ok 8 _ p2
      refine SeqAt.rcNe_plain r1 r2 k1 k3 (by have := hu65 sb.rg; omega) _ _ E _ ?_
      rw [eqv_py 8 _ _ p1 p2]
      exact ⟨rfl, H, w, I, Wd.le.refl _, wr⟩
    · rename_i hnp
      unfold shapeA at hz
      split at hz
      · rename_i l l'
        obtain ⟨a, rfl, h1⟩ := lst_at rx
        obtain ⟨a', rfl, h2⟩ := lst_at ry
        cases qx
        cases qy
        split at hz
        · rename_i hlen
          refine GQ.rc_list_neJ hu _ _ (list_J el wr hlen h1 h2 E (b := b)) (fun s' q => ?_) (fun s' q => ?_) ⟨by simpa using hz, H, w, I, Wd.le.refl _, wr⟩
          · obtain ⟨q1, q2⟩ := q
            rw [List.drop_of_length_le (Nat.le_refl _), List.drop_of_length_le (by omega), zipA] at q1
            · injection q1 with q1
              exact ⟨by rw [← q1]; rfl, q2⟩
            · intros; simp_all
          · obtain ⟨rfl, q2⟩ := q
            exact ⟨rfl, q2⟩
        · rename_i hlen
          cases hz
          obtain ⟨vs, e1, r1⟩ := h1 w H (Wd.le.refl _) wr
          obtain ⟨vs', e2, r2⟩ := h2 w H (Wd.le.refl _) wr
          obtain ⟨z, its, k, r, e⟩ := I.hok a _ e1
          obtain ⟨z2, its2, k2, r', e'⟩ := I.hok a' _ e2
          refine SeqAt.RcNeAt.lists_lengths (items := its.toArray) (items2 := its2.toArray) ⟨_, e, rfl, _, rfl⟩ ⟨_, e', rfl, _, rfl⟩ ?_ hu _ _ E _ ⟨rfl, H, w, I, Wd.le.refl _, wr⟩
          rw [List.size_toArray, List.size_toArray, ← r.length, ← r'.length, ← r1.length, ← r2.length]
          simpa using hlen
      · rename_i l l'
        obtain ⟨a, vs, rfl, q1, r1⟩ := tup_at rx
        obtain ⟨a', vs', rfl, q2, r2⟩ := tup_at ry
        cases qx
        cases qy
        obtain ⟨its, v1, e1, _⟩ := I.tuple (by rw [h.K]; exact sqt_sub wr q1)
        obtain ⟨its', v2, e2, _⟩ := I.tuple (by rw [h.K]; exact sqt_sub wr q2)
        cases zz : zipA (eqE tab cls S n) l l' with
        | none => rw [zz] at hz; cases hz
        | some k =>
          rw [zz] at hz
          have hb : (k && decide (l.length = l'.length)) = b := by injection hz
          have s1 : its.toArray.size = l.length := by rw [List.size_toArray, ← v1.length, ← r1.length]
          have s2 : its'.toArray.size = l'.length := by rw [List.size_toArray, ← v2.length, ← r2.length]
          refine GQ.rc_tup_neJ hu (fun i s' => zipA (eqE tab cls S n) (l.drop i) (l'.drop i) = some k ∧ Post X T pins σ w S s') (fun s' => k = false ∧ Post X T pins σ w S s') e1 e2 (fun i k1 k2 s' q => ?_) (fun s' q => ?_) (fun s' q => ?_) ⟨by simpa using zz, H, w, I, Wd.le.refl _, wr⟩
          · obtain ⟨z1, H', w', I', le, wr'⟩ := q
            refine wpAny_mono (seq_turn el I' wr' (r1.monoS le.tosb) (r2.monoS le.tosb) v1 v2 k1 k2 z1 E) (fun r s2 hk => ?_) fun _ _ e => e
            rcases hk with ⟨rfl, hz2, hP2⟩ | ⟨rfl, hb, hP2⟩
            · exact .inl ⟨rfl, hz2, hP2.le le⟩
            · exact .inr ⟨rfl, hb, hP2.le le⟩
          · obtain ⟨z1, hP⟩ := q
            have : k = true := by
              rw [s1, s2] at z1
              rcases Nat.le_total l.length l'.length with g | g
              · rw [Nat.min_eq_left g, List.drop_of_length_le (Nat.le_refl _), zipA] at z1
                · injection z1 with z1; exact z1.symm
                · intros; simp_all
              · rw [Nat.min_eq_right g, List.drop_of_length_le (l := l') (Nat.le_refl _), zipA] at z1
                · injection z1 with z1; exact z1.symm
                · intros; simp_all
            subst this
            rw [s1, s2]
            refine ⟨?_, hP⟩
            rw [← hb, Bool.true_and]
            congr 1
          · obtain ⟨rfl, hP⟩ := q
            exact ⟨by rw [← hb]; rfl, hP⟩
      · exact absurd rfl (hnd _)
      · rename_i c fx
        split at hz
        · rename_i hrhs
          split at hz
          · rename_i m hm
            have rx := obj_at rx
            have C := h.cl c m hm
            obtain ⟨k, d, hk, ok, M, hbd⟩ := C.ex
            have hq : m [.obj c fx, y] S = .ok (.bl b) S := by
              unfold methB at hz
              split at hz
              · split at hz
                · rename_i b' S' e1 e2
                  injection hz with e3
                  rw [e1, e2, e3]
                · cases hz
              · cases hz
            have ry' : Rep T w y vy := hyr ⟨_, _, rfl⟩
            obtain ⟨tb, L, nf⟩ := ty_rhs h I wr hm ry' qy hrhs
            have rx0 := rx
            cases rx with
            | obj hG hn hrs =>
              cases qx
              obtain ⟨mA, J, _⟩ := ins_get I.hok (wr.sub _ _ hG)
              obtain ⟨od, J, _⟩ := J.look
              obtain ⟨mf, hF⟩ := I.fr
              have sb1 := SubG.in1 (k := kk + n + 2) (sb.mono (by omega))
              have e0 : Env0 X.prog X.w T.K X.mg X.base A.in1 X.stack s H := by
                have e := sb1.fr s H I.env0
                rw [h.K] at e
                exact e
              have hu1 : A.in1.units + 1 < cLine := by have := hu65 sb1.rg; omega
              refine cmpNe_K (tb := tb) hu1 hF I.ok.mod.kin J L (by rw [h.K]; exact nf) (by rw [h.K]; exact C.ne) (by rw [h.K]; exact C.mo) (by rw [h.K]; exact M.at_) (by rw [h.K]; exact M.fn) (fun _ => rfl) ?_
              refine wpAny_mono (meth2_runG h.K ok (sb1.rg.mono (by omega)) hbd I e0 wr rx0 ry' qy hq) (fun r s' q => ?_) fun _ _ e => e
              obtain ⟨rfl, hP⟩ := q
              exact ⟨b, rfl, rfl, hP⟩
          · cases hz
        · cases hz
      · rename_i c fy hn
        obtain ⟨c', l', e⟩ := hno ⟨_, _, rfl⟩
        exact absurd e (fun e => hn _ _ e)
      · cases hz
def isObj : D → Bool
  | .obj _ _ => true
  | _ => false
def isDct : D → Bool
  | .dct _ => true
  | _ => false
def neBad (x y : D) : Bool := (isObj y && !isObj x) || isDct x
/-- what is compared: objects as they are, lists that are being made as they stand -/
noncomputable def eqAP (tab : ETab) (cls : List String) (x y : D) (S : Store) : Option Bool := if isObj x || isObj y then eqA tab cls S 6 x y else eqA tab cls S 6 (seeD x S) (seeD y S)
noncomputable def eqAM (tab : ETab) (cls : List String) (op : Bool → Bool) (x y : D) (S : Store) : R D := if !(op true) && neBad x y then .bad else match eqAP tab cls x y S with
  | some b => .ok (.bl (op b)) S
  | none => .bad
def rEqA (T : Tb) (tab : ETab) (cls : List String) (op : Bool → Bool) : R2 := fun x y H Q => ∃ w S d e b, WR T w S H ∧ Rep T w d x ∧ Rep T w e y ∧ (!(op true) && neBad d e) = false ∧ eqAP tab cls d e S = some b ∧ ∀ w' H', w.le w' → WR T w' S H' → Q (.bl (op b)) H'
theorem see_nobj {d : D} {S : Store} (hd : isObj d = false) : ∀ c l, seeD d S ≠ .obj c l := by
  intro c l z
  unfold seeD at z
  split at z
  · split at z <;> cases z
  · rw [z] at hd; cases hd
theorem see_ndct {d : D} {S : Store} (hd : isDct d = false) : ∀ l, seeD d S ≠ .dct l := by
  intro l z
  unfold seeD at z
  split at z
  · split at z <;> cases z
  · rw [z] at hd; cases hd
theorem isObj_of {d : D} (h : isObj d = true) : ∃ c l, d = .obj c l := by
  cases d with
  | obj c l => exact ⟨_, _, rfl⟩
  | _ => cases h
theorem pair_s {w : Wd} {S : Store} {d e : D} {x y : V} (p : Rep T w d x) (q : Rep T w e y) {b : Bool} (h : eqAP tab cls d e S = some b) :
    ∃ d' e', SRep T w S d' x ∧ SRep T w S e' y ∧ ((∃ c l, d' = .obj c l) → Rep T w e' y) ∧ ((∃ c l, e' = .obj c l) → Rep T w d' x) ∧ (neBad d e = false → ((∃ c l, e' = .obj c l) → ∃ c l, d' = .obj c l) ∧ ∀ l, d' ≠ .dct l) ∧ eqA tab cls S 6 d' e' = some b := by
  unfold eqAP at h
  cases hd : isObj d || isObj e with
  | true =>
    rw [hd, if_pos rfl] at h
    obtain ⟨n1, n2⟩ := eqA_nref h
    refine ⟨d, e, srep_of p n1, srep_of q n2, fun _ => q, fun _ => p, fun g => ?_, h⟩
    obtain ⟨g, g2⟩ := Bool.or_eq_false_iff.mp g
    refine ⟨fun ⟨c, l, z⟩ => ?_, fun l z => ?_⟩
    · subst z
      have : isObj d = true := by simpa [isObj] using g
      exact isObj_of this
    · subst z
      cases g2
  | false =>
    rw [hd, if_neg Bool.false_ne_true] at h
    obtain ⟨h1, h2⟩ := Bool.or_eq_false_iff.mp hd
    exact ⟨_, _, SRep.sees p, SRep.sees q, fun ⟨c, l, z⟩ => absurd z (see_nobj h1 c l), fun ⟨c, l, z⟩ => absurd z (see_nobj h2 c l), fun g => ⟨fun ⟨c, l, z⟩ => absurd z (see_nobj h2 c l), see_ndct (Bool.or_eq_false_iff.mp g).2⟩, h⟩
theorem oi_eqA (h : EqH T X tab cls kk) (hr : RG (kk + 8) X.A) : OpR X (compareOp .Eq) (rEqA T tab cls id) := by
  intro pins s σ H x y v u Q I rx ry q
  obtain ⟨w, S, d, e, b, wr, p1, p2, hg, hz, hQ⟩ := q
  obtain ⟨d', e', s1, s2, s3, s3', s5, s4⟩ := pair_s p1 p2 hz
  refine wpAny_mono ((eqA_run h 6).2 X.A (SubG.here (hr.mono (by omega))) pins σ s H w S d' e' x y v u b I wr s1 rx s2 ry s3 s3' s4 X.xe) (fun r s' hk => ?_) fun _ _ e => e
  obtain ⟨rfl, H', w', I', le, wr'⟩ := hk
  exact ⟨.bl b, H', I', rfl, hQ w' H' le wr'⟩
theorem oi_neA (h : EqH T X tab cls kk) (hr : RG (kk + 8) X.A) : OpR X (compareOp .NotEq) (rEqA T tab cls not) := by
  intro pins s σ H x y v u Q I rx ry q
  obtain ⟨w, S, d, e, b, wr, p1, p2, hg, hz, hQ⟩ := q
  obtain ⟨d', e', s1, s2, s3, s3', s5, s4⟩ := pair_s p1 p2 hz
  refine wpAny_mono (neA_run h 6 X.A (SubG.here (hr.mono (by omega))) pins σ s H w S d' e' x y v u b I wr s1 rx s2 ry s3 (s5 (by simpa using hg)).1 (s5 (by simpa using hg)).2 s4 X.xe) (fun r s' hk => ?_) fun _ _ e => e
  obtain ⟨rfl, H', w', I', le, wr'⟩ := hk
  exact ⟨.bl (!b), H', I', rfl, hQ w' H' le wr'⟩
noncomputable def eEqA (tab : ETab) (cls : List String) (op : Bool → Bool) (f g : EX) : EX := fun env S => (f env S).bnd fun x S1 => (g env S1).bnd fun y S2 => eqAM tab cls op x y S2
theorem eqAM_of {op : Bool → Bool} {w : Wd} {d e : D} {S : Store} {x y : V} {H : Hp} {Q : VK} (r : WR T w S H) (p : Rep T w d x) (q : Rep T w e y) (h : RP (eqAM tab cls op d e S) (fun d S' => ∀ w' H' v, w.le w' → WR T w' S' H' → Rep T w' d v → Q v H') (XW T w E)) : rEqA T tab cls op x y H Q := by
  unfold eqAM at h
  split at h
  · exact h.elim
  · rename_i hg
    split at h
    · rename_i b hb
      exact ⟨w, S, d, e, b, r, p, q, by simpa using hg, hb, fun w' H' l r' => h w' H' _ l r' (.bl _)⟩
    · exact h.elim
theorem ie_eqA {o : CmpOp} {op : Bool → Bool} (ho : OpR X (compareOp o) (rEqA T tab cls op)) (ha : IE T E X a f) (hb : IE T E X b g) (hm : behindInMarks o b = false) : IE T E X (.Compare a [o] [b] pos) (eEqA tab cls op f g) :=
  PE.mono (pe_cmpR ho ha hb hm) fun σ H Q q => by
    have q2 := tI_two (k := fun x y S => eqAM tab cls op x y S) q
    obtain ⟨w, env, S, r, e, h⟩ := q2
    refine ⟨w, env, S, r, e, h.mono (fun d S1 h1 w1 H1 x l1 r1 p1 => ?_) fun _ _ _ x => x⟩
    obtain ⟨w2, env2, S2, r2, e2, h2⟩ := h1 w1 H1 x l1 r1 p1
    refine ⟨w2, env2, S2, r2, e2, h2.mono (fun d S1 h1 w1 H1 x l1 r1 p1 => ?_) fun _ _ _ x => x⟩
    obtain ⟨w3, d3, e3, S3, r3, p3, q3, h3⟩ := h1 w1 H1 x l1 r1 p1
    exact eqAM_of r3 p3 q3 h3
theorem ib_eqA {o : CmpOp} {op : Bool → Bool} (ho : OpR X (compareOp o) (rEqA T tab cls op)) (ha : IE T E X a f) (hb : IE T E X b g) (hm : behindInMarks o b = false) : IB T E X (.Compare a [o] [b] pos) (bVal (eEqA tab cls op f g)) :=
  PT.mono (pt_cmpR ho ha hb hm) fun σ H Q q => by
    have q2 := tI_two (k := fun x y S => eqAM tab cls op x y S) (tI_bVal q)
    obtain ⟨w, env, S, r, e, h⟩ := q2
    refine ⟨w, env, S, r, e, h.mono (fun d S1 h1 w1 H1 x l1 r1 p1 => ?_) fun _ _ _ x => x⟩
    obtain ⟨w2, env2, S2, r2, e2, h2⟩ := h1 w1 H1 x l1 r1 p1
    refine ⟨w2, env2, S2, r2, e2, h2.mono (fun d S1 h1 w1 H1 x l1 r1 p1 => ?_) fun _ _ _ x => x⟩
    obtain ⟨w3, d3, e3, S3, r3, p3, q3, h3⟩ := h1 w1 H1 x l1 r1 p1
    exact eqAM_of r3 p3 q3 h3
end
end Ro
end
section
set_option Elab.async false
set_option linter.all false
set_option maxRecDepth 100000
set_option maxHeartbeats 4000000
namespace Ro
open PySem PySem.Spec PyProof.Rows L2 LamX
section
variable {M : Model} {K : PySem.W.Frag}
theorem exm_five {c1 c2 c3 c4 c5 cls : Value} {tp ex : Addr} {h : Heap} (kin : K.In h) (lt : PySem.W.Looks M h (typeOf (.ref ex)) cls) (ht : h.get? tp = some { cls := .type "tuple", data := .seq [c1, c2, c3, c4, c5].toArray })
    (hx : PySem.W.exmAny K cls [c1, c2, c3, c4, c5] = some true) : PySem.W.Looks M h (excMatches (.ref ex) (.ref tp)) true := by
  intro A Q E s up q
  obtain ⟨hp, gens, dd, toks, os⟩ := s
  have up : ∀ b o, h.get? b = some o → hp.get? b = some o := up
  have isT : PySem.W.Looks M h (isInstance (.ref tp) (.type "tuple")) true := ((PySem.W.Looks.ld ht).andThen .now).andThen (PySem.W.Looks.of_pure isSubtype_tuple_tuple)
  obtain ⟨b1, r1, x1, y1, z1⟩ := PySem.W.exmAny_cons hx
  obtain ⟨b2, r2, x2, y2, z2⟩ := PySem.W.exmAny_cons y1
  obtain ⟨b3, r3, x3, y3, z3⟩ := PySem.W.exmAny_cons y2
  obtain ⟨b4, r4, x4, y4, z4⟩ := PySem.W.exmAny_cons y3
  obtain ⟨b5, r5, x5, y5, z5⟩ := PySem.W.exmAny_cons y4
  have y5 : some false = some r5 := y5
  cases y5
  obtain ⟨i1, j1⟩ := PySem.W.exm_cls (M := M) kin x1
  obtain ⟨i2, j2⟩ := PySem.W.exm_cls (M := M) kin x2
  obtain ⟨i3, j3⟩ := PySem.W.exm_cls (M := M) kin x3
  obtain ⟨i4, j4⟩ := PySem.W.exm_cls (M := M) kin x4
  obtain ⟨i5, j5⟩ := PySem.W.exm_cls (M := M) kin x5
  replace i1 := i1.keeps up; replace j1 := j1.keeps up
  replace i2 := i2.keeps up; replace j2 := j2.keeps up
  replace i3 := i3.keeps up; replace j3 := j3.keeps up
  replace i4 := i4.keeps up; replace j4 := j4.keeps up
  replace i5 := i5.keeps up; replace j5 := j5.keeps up
  replace lt := lt.keeps up
  replace isT := isT.keeps up
  have ht' := up _ _ ht
  unfold excMatches
  apply wpAny_bind
  apply isT.at
  dsimp only
  rw [if_pos rfl]
  first
    | refine wpAny_bind (wpAny_seqItems ht' rfl ?_)
    | refine wpAny_bind (wpAny_bind (wpAny_seqItems ht' rfl (wpAny_pure ?_)))
  dsimp only [Option.getD_some, Option.getD]
  cases b1 with
  | true => (repeat (first | simp only [List.forIn_cons, List.forIn_nil, Bool.not_true, Bool.false_eq_true, if_false, if_true] | lk)); exact q
  | false =>
  cases b2 with
  | true => (repeat (first | simp only [List.forIn_cons, List.forIn_nil, Bool.not_true, Bool.false_eq_true, if_false, if_true] | lk)); exact q
  | false =>
  cases b3 with
  | true => (repeat (first | simp only [List.forIn_cons, List.forIn_nil, Bool.not_true, Bool.false_eq_true, if_false, if_true] | lk)); exact q
  | false =>
  cases b4 with
  | true => (repeat (first | simp only [List.forIn_cons, List.forIn_nil, Bool.not_true, Bool.false_eq_true, if_false, if_true] | lk)); exact q
  | false =>
  cases b5 with
  | true => (repeat (first | simp only [List.forIn_cons, List.forIn_nil, Bool.not_true, Bool.false_eq_true, if_false, if_true] | lk)); exact q
  | false => simp at z1 z2 z3 z4 z5; subst z2 z3 z4 z5; simp at z1
end
/-- what the clause wishes -/
def wTup (K : PySem.W.Frag) (i : Nat) (D : Ends) (cs : List Value) (ts : Addr → Value → Option Addr → TS) : WX := fun cls d σ H => PySem.W.exmAny K cls cs = some true ∧ ∀ a, H a = none → ts a cls d (offN i D) (σ.set i (some (.ref a))) H
section
variable {X : Cx} {n x1 x2 x3 x4 x5 : Str} {c1 c2 c3 c4 c5 : Value} {i kk : Nat} {q1 q2 q3 q4 q5 tpos pos' pos : Pos} {body : List Stmt} {b₀ : Stmt} {suite : List Stmt} {tb : WX → TS} {ts : Addr → Value → Option Addr → TS}
theorem ps_try_tup (hst : X.stack = X.env :: X.outer) (hfm : X.env.frame = some X.env.locals) (hN : X.N.Nodup) (hi : X.N[i]? = some n) (hln : X.env.kindOf n = some .local)
    (hb : ∀ (W : WX) (pn : List (Addr × Obj)) (xe : Value → Shared → Prop), L2N.Takes (X.tr pn xe) W → PassesOwn (model X.prog X.w) X.A X.env xe → PSs (X.tr pn xe) body (tb W))
    (n1 : Names X x1 c1) (n2 : Names X x2 c2) (n3 : Names X x3 c3) (n4 : Names X x4 c4) (n5 : Names X x5 c5)
    (hsu : ∀ (a : Addr) (oe : Obj) (cls : Value) (d : Option Addr) (pn : List (Addr × Obj)), L2N.Zn cls d oe → (∃ vs, oe.data = .fields vs) → PSs (X.suite a ((a, oe) :: pn)) (b₀ :: suite) (ts a cls d)) :
    PS X (.Try body [.ExceptHandler (some (.Tuple [.Name x1 q1, .Name x2 q2, .Name x3 q3, .Name x4 q4, .Name x5 q5] kk tpos)) (some n) (b₀ :: suite) pos'] [] [] pos) (fun D σ H => tb (wTup X.K i D [c1, c2, c3, c4, c5] ts) D σ H) := by
  constructor
  intro pins s σ H D I h
  have okX := I.ok
  have frames : X.A.frames = some (X.env :: X.outer) := by rw [okX.frames, hst]
  have locN : Loc X.env.scope n := Or.inl hln
  let hds : List ExceptHandler := [.ExceptHandler (some (.Tuple [.Name x1 q1, .Name x2 q2, .Name x3 q3, .Name x4 q4, .Name x5 q5] kk tpos)) (some n) (b₀ :: suite) pos']
  apply wpAny_Try_except
  refine wpAny_mono ((hb (wTup X.K i D [c1, c2, c3, c4, c5] ts) (X.pn ++ pins) (fun e s1 => wpAny (model X.prog X.w) X.A (noteFrame e X.env) (fun _ s2 => wpAny (model X.prog X.w) X.A (setFlight e none) (fun _ s3 =>
    wpAny (model X.prog X.w) X.A (handleBy e X.env hds) (SP X pins D) X.xe s3) X.xe s2) X.xe s1) (fun u s' caught => ?_) PassesOwn.looking).run [] s σ H D (I.toTry _) h) (fun f s1 ended => ?_) (fun e s1 he => he)
  · obtain ⟨a, B, sI, pins', σ', H', cls, d, rfl, J', nb, up, sky, na, os, ag, wish⟩ := caught
    have J : Inv X pins σ' H' sI := J'.ofTry okX
    have sky1 : Sky B (X.env :: X.outer) a (L2N.Zn cls d) X.env.locals s'.heap := by rw [← hst]; exact sky
    show wpAny (model X.prog X.w) X.A (noteFrame (.ref a) X.env) _ _ _
    refine L2N.Sky.land L2N.Zn.steady frames hfm sky1 fun h3 fl3 up3 => ?_
    have J3 : Inv X pins σ' H' { s' with heap := h3 } := J.landed nb fl3.1 (up.trans up3) os ag
    obtain ⟨oe3, vs3, he3, hz3, hd3⟩ := fl3.there
    have apart : ∀ {h : Heap} {o : Obj} {vs : Array Value}, h.FunFrames B (X.env :: X.outer) → h.get? a = some o → o.data = .fields vs → a ∉ frs (X.env :: X.outer) := by
      intro h o vs ff e dd hm
      obtain ⟨_, o', e', hnf⟩ := ff.mem hm
      rw [e] at e'
      cases e'
      exact hnf _ dd
    have nfr := apart fl3.2.2.1 he3 hd3
    have neL : a ≠ X.env.locals := fun y => nfr (List.mem_filterMap.mpr ⟨X.env, List.mem_cons_self, by rw [hfm, y]⟩)
    have notF : a ∉ X.fs := by
      intro hm
      obtain ⟨e, he, q⟩ := List.mem_filterMap.mp hm
      exact nfr (List.mem_filterMap.mpr ⟨e, List.mem_cons_of_mem _ he, q⟩)
    have S3 := J3.suite he3 hd3 na neL notF
    obtain ⟨hany, hyes⟩ := wish
    refine wpAny_handleBy_cons (codeAny_handlers_test ?_) (by intro q; cases q)
    have asked : ∀ {x : Str} {c : Value} {np : Pos} {Q : Value → Shared → Prop} {E : Value → Shared → Prop}, Names X x c → Q c { s' with heap := h3 } → wpAny (model X.prog X.w) (X.A.mark (some (.ref a))) (eval (.Name x np) X.env) Q E { s' with heap := h3 } := by
      intro x c np Q E hc q
      obtain ⟨hg, hdbg, hm | ⟨hm, hv, hnn⟩⟩ := hc
      · exact ld_glob (X := X.suite a ((a, oe3) :: (X.pn ++ pins))) S3 hg hm q hdbg
      · exact ld_blt (X := X.suite a ((a, oe3) :: (X.pn ++ pins))) S3 hg hm hv q hnn hdbg
    refine wpAny_Tuple ?_
    refine wpAny_items_cons (asked n1 ?_)
    refine wpAny_items_cons (asked n2 ?_)
    refine wpAny_items_cons (asked n3 ?_)
    refine wpAny_items_cons (asked n4 ?_)
    refine wpAny_items_cons (asked n5 ?_)
    refine wpAny_items_nil ⟨by size_fits, ?_⟩
    have kp : ∀ q o, h3.get? q = some o → (h3.push { cls := .type "tuple", data := .seq [c1, c2, c3, c4, c5].toArray }).get? q = some o := fun _ _ z => Heap.get?_push_of_some _ z
    have LT : PySem.W.Looks (model X.prog X.w) h3 (typeOf (.ref a)) cls := fun A Q E s k q => wpAny_typeOf_ref (k _ _ he3) (by rw [hz3.1]; exact q)
    have fl3' : HandSPX.FlyingZ B (X.env :: X.outer) a (L2N.Zn cls d) (h3.push { cls := .type "tuple", data := .seq [c1, c2, c3, c4, c5].toArray }) := by
      obtain ⟨f1, f2, f3, oe, vs, T', oT, ts', he, hz, hd, h1, hn, hne, hT, hdT, ht⟩ := fl3
      exact ⟨fun b o q => kp b o (f1 b o q), f2, f3.of_keeps fun b o q _ => ⟨o, kp b o q, rfl⟩, oe, vs, T', oT, ts', kp _ _ he, hz, hd, h1, hn, hne, kp _ _ hT, hdT, ht⟩
    refine ((exm_five (M := model X.prog X.w) (J3.kIn.keeps kp) (LT.keeps kp) (Heap.get?_push_size h3 rfl) hany).here ?_)
    apply codeAny_handlers_suite_as
    refine HandSPX.lands_againZ fl3' fun h4 fl4 up4 => ?_
    have J4 : Inv X pins σ' H' { s' with heap := h4 } := J.landed nb fl4.1 (((up.trans up3).trans (Heap.UpToSlots.of_keeps kp)).trans up4) os ag
    obtain ⟨oe4, vs4, he4, hz4, hd4⟩ := fl4.there
    have S4 := J4.suite he4 hd4 na neL notF
    refine store_ok (X := X.suite a ((a, oe4) :: (X.pn ++ pins))) (v := .ref a) S4 hN hi locN rfl (fun s5 S5 => ?_) (Or.inr hln)
    refine wpAny_mono ((hsu a oe4 cls d (X.pn ++ pins) hz4 ⟨_, hd4⟩).run [] s5 _ H' _ S5 (hyes a na)) (fun f s6 q6 => ?_) (fun _ _ y => y.elim)
    have off : ∀ {σ6 : L2.St} {H6 : Hp} {Q : Shared → Prop}, Inv (X.suite a ((a, oe4) :: (X.pn ++ pins))) [] σ6 H6 s6 → (∀ s7, Inv X pins (σ6.set i none) H6 s7 → Q s7) →
        wpAny (model X.prog X.w) X.A (do bindName X.env n .none; unbindBehindTheSuite X.env n pos') (fun _ s7 => Q s7) X.xe s6 := by
      intro σ6 H6 Q S6 hq
      exact gone_ok (S6.unsuite okX) hN hi hln hq
    cases f with
    | next =>
      obtain ⟨_, _, S6, q7⟩ := q6
      exact off S6 fun s7 J7 => ⟨_, _, J7, q7⟩
    | brk =>
      obtain ⟨_, _, S6, q7⟩ := q6
      exact off S6 fun s7 J7 => ⟨_, _, J7, q7⟩
    | cont =>
      obtain ⟨_, _, S6, q7⟩ := q6
      exact off S6 fun s7 J7 => ⟨_, _, J7, q7⟩
    | ret u =>
      obtain ⟨_, _, _, S6, r6, q7⟩ := q6
      exact off S6 fun s7 J7 => ⟨_, _, _, J7, r6, q7⟩
  · cases f with
    | next =>
      obtain ⟨_, _, J', q⟩ := ended
      exact wpAny_execs_nil ⟨_, _, J'.ofTry okX, q⟩
    | brk =>
      obtain ⟨_, _, J', q⟩ := ended
      exact ⟨_, _, J'.ofTry okX, q⟩
    | cont =>
      obtain ⟨_, _, J', q⟩ := ended
      exact ⟨_, _, J'.ofTry okX, q⟩
    | ret u =>
      obtain ⟨_, _, _, J', r, q⟩ := ended
      exact ⟨_, _, _, J'.ofTry okX, r, q⟩
end
end Ro
end
section
set_option Elab.async false
set_option linter.all false
set_option maxRecDepth 100000
set_option maxHeartbeats 4000000
namespace Ro
open PySem PySem.Spec PyProof.Rows L2 LamX
variable {T : Tb} {E : XK} {X : Cx}
theorem pe_up {e : Expr} {t : TE} (h : PE X e t) : PE X e fun σ H Q => ∃ Q0 : VK, t σ H Q0 ∧ ∀ v H', Q0 v H' → Q v H' :=
  ⟨fun pins s σ H Q I ⟨Q0, q, k⟩ => wpAny_mono (h.run pins s σ H Q0 I q) (fun _ _ ⟨v, H', J, r, z⟩ => ⟨v, H', J, r, k v H' z⟩) fun _ _ z => z⟩
/-- the exception as the suite finds it -/
theorem exc_in (hx0 : T.xc = none) {n i : Nat} {cns : List String} {hp : String → List D → Option D} {cls : Value} {d : Option Addr} {H' : Hp} {σ' : St} {Q : VK} {sx : String → ES} {D0 : Ends}
    (hnt : ∀ cn fs r, hp cn fs = some r → noThks fs = true → noThk r = true) (hQ : D0.rt = Q) (hσ : σ'.length = n) (hE : EchS T hp cns Q cls d H') (b : Addr)
    (hs2 : ∀ cn ∈ cns, ∀ fs r S, hp cn fs = some r → sx cn ((List.replicate n none).set i (some (.thk 0 fs))) S = .ok (.rt r) S) :
    ∃ cn ∈ cns, cls = .ref (He.ga T.K (cn : Str)) ∧ tIs (T.at (some ⟨b, d, cn⟩)) E00 (sx cn) (offN i D0) (σ'.set i (some (.ref b))) H' := by
  obtain ⟨cn, hcn, w, fs, r, S', rfl, wr, xr, hr, hq⟩ := hE
  refine ⟨cn, hcn, rfl, ?_⟩
  have hfs : noThks fs = true := by
    rcases xr.2 with ⟨rfl, _⟩ | ⟨_, _, _, _, _, q⟩
    · rfl
    · exact q.noThk hx0
  have cl0 := wr.clean hx0
  have T0 : T = T.at none := by
    cases T
    cases hx0
    rfl
  obtain ⟨w2, l2, wr2, hz⟩ : ∃ w2, w.le w2 ∧ WR T w2 S' H' ∧ Rep (T.at (some ⟨b, d, cn⟩)) w2 (.thk 0 fs) (.ref b) := by
    rcases xr.2 with ⟨rfl, rfl⟩ | ⟨dd, gs, rfl, q1, q2, q3⟩
    · exact ⟨w, Wd.le.refl _, wr, .xc0 (z := ⟨b, none, cn⟩) rfl rfl⟩
    · obtain ⟨w2, l2, wr2, hg⟩ := lookup_none_ok wr q1
      refine ⟨w2, l2, wr2, .xc1 (z := ⟨b, some dd, cn⟩) rfl rfl hg q2 ?_⟩
      have q4 := q3.mono l2
      rw [T0] at q4
      exact q4.at hfs
  have cl2 : Clean S' w2.hid := by rw [l2.hid]; exact cl0
  have wr3 : WR (T.at (some ⟨b, d, cn⟩)) w2 S' H' := by
    rw [T0] at wr2
    exact wr2.at cl2
  have er : ER (T.at (some ⟨b, d, cn⟩)) w2 ((List.replicate n none).set i (some (.thk 0 fs))) (σ'.set i (some (.ref b))) := by
    have base : ER (T.at (some ⟨b, d, cn⟩)) w2 (List.replicate n none) σ' := ⟨by rw [List.length_replicate]; exact hσ.symm, fun j y e => by
      rw [List.getElem?_replicate] at e
      split at e <;> cases e⟩
    exact base.set hz i
  refine ⟨w2, _, S', wr3, er, ?_⟩
  rw [hs2 cn hcn fs r S' hr]
  show ∀ w' H' v, w2.le w' → WR (T.at (some ⟨b, d, cn⟩)) w' S' H' → Rep (T.at (some ⟨b, d, cn⟩)) w' r v → D0.rt v H'
  intro w' H2 v l3 wr4 pr
  have cl4 : Clean S' w'.hid := by rw [l3.hid]; exact cl2
  rw [hQ]
  refine hq w' H2 v (l2.trans l3) ?_ ?_
  · rw [T0]
    exact wr4.at cl4
  · rw [T0]
    exact pr.at (hnt cn fs r hr hfs)
theorem said2_makes (hK : X.K = T.K) (hx0 : T.xc = none) {k i jf j0 kk kt : Nat} {Ng : List Str} {qg a e fn told : Str} {sg : Scope} {g : Addr} {cdg : Value} {p0 p1 p2 p3 p4 p5 pa pf pg tp ph q1 q2 q3 q4 q5 : Pos} {b₀ : Stmt} {suite : List Stmt} {cns : List String} {sx : String → ES} {hp : String → List D → Option D}
    {x1 x2 x3 x4 x5 : Str} {c1 c2 c3 c4 c5 : Value}
    (hN : Ng.Nodup) (hi : Ng[i]? = some e) (hln : (envOfC qg sg 0 g cdg).kindOf e = some .local) (hj : Ng[jf]? = some fn) (hfl : sg.names.lookup fn = some .local)
    (hn : ∀ (s : Shared) (H : Hp), Names (cxOf (L2N.CX X.prog X.w) X.prog X.w X.K X.mg X.base Ng qg sg g cdg X.A X.stack s H E00) x1 c1 ∧ Names (cxOf (L2N.CX X.prog X.w) X.prog X.w X.K X.mg X.base Ng qg sg g cdg X.A X.stack s H E00) x2 c2 ∧ Names (cxOf (L2N.CX X.prog X.w) X.prog X.w X.K X.mg X.base Ng qg sg g cdg X.A X.stack s H E00) x3 c3
      ∧ Names (cxOf (L2N.CX X.prog X.w) X.prog X.w X.K X.mg X.base Ng qg sg g cdg X.A X.stack s H E00) x4 c4 ∧ Names (cxOf (L2N.CX X.prog X.w) X.prog X.w X.K X.mg X.base Ng qg sg g cdg X.A X.stack s H E00) x5 c5)
    (hsu : ∀ (s : Shared) (H : Hp), RG k (X.A.deeper (envOfC qg sg s.heap.objs.size g cdg)) → ∀ (a : Addr) (oe : Obj) (cls : Value) (d : Option Addr) (pn : List (Addr × Obj)), L2N.Zn cls d oe → (∃ vs, oe.data = .fields vs) →
      PSs ((cxOf (L2N.CX X.prog X.w) X.prog X.w X.K X.mg X.base Ng qg sg g cdg X.A X.stack s H E00).suite a ((a, oe) :: pn)) (b₀ :: suite) (tsX T sx cns a cls d))
    (hnt : ∀ cn fs r, hp cn fs = some r → noThks fs = true → noThk r = true)
    (hpk : ∀ cn ∈ cns, PySem.W.exmAny T.K (.ref (He.ga T.K (cn : Str))) [c1, c2, c3, c4, c5] = some true ∧ ∀ fs r S, hp cn fs = some r → sx cn ((List.replicate Ng.length none).set i (some (.thk 0 fs))) S = .ok (.rt r) S)
    (hd : (fn == ("__debug__" : Str)) = false := by decide +kernel) (hcd : (fn == ("__classdict__" : Str)) = false := by decide +kernel) :
    Makes X k Ng qg sg g cdg [.Try [.Assign [.Name fn pf] (.Call (.Name a p1) [] [] p2) pa] [.ExceptHandler (some (.Tuple [.Name x1 q1, .Name x2 q2, .Name x3 q3, .Name x4 q4, .Name x5 q5] kt tp)) (some e) (b₀ :: suite) ph] [] [] p5,
      .Return (some (.Tuple [.Constant (.str told) j0 p0, .Name fn pg] kk p3)) p4] a (TTsaid T hp cns told) := by
  intro f c' s H Q q tl hr act hc h
  have h0 : (L2.start Ng [V.ref f])[0]? = some (some (V.ref f)) := rfl
  obtain ⟨n1, n2, n3, n4, n5⟩ := hn s H
  refine ⟨_, pss_cons (ps_try_tup (X := cxOf (L2N.CX X.prog X.w) X.prog X.w X.K X.mg X.base Ng qg sg g cdg X.A X.stack s H E00) (i := i)
    (tb := fun W D σ H => ∃ (Ech : XK) (Q0 : VK), (∀ cls d σ' H', σ'.length = Ng.length → Ech cls d H' → W cls d σ' H') ∧ (σ[0]? = some (some (.ref f)) ∧ H c' = some (CodeO c' q) ∧ tl Ech H Q0) ∧ ∀ v H', Q0 v H' → D.nx (σ.set jf (some v)) H')
    rfl rfl hN hi hln (fun W pn xe tk _ => ?_) n1 n2 n3 n4 n5 (hsu s H hr))
    (pss_one (ps_ret (pos := p4) (pe_tup (x1 := kk) (pos := p3) (pa_cons (pe_str (x := told) (j := j0) (pos := p0)) (pa_cons (pe_var (pos := pg) hj (.inl hfl) hd hcd) pa_nil))))), ?_⟩
  · constructor
    intro pins s' σ H D I ⟨Ech, Q0, hW, h1, h2⟩
    have hp := act _ pn xe Ech p1 p2 (takes_len tk) fun cls d σ' H' q hl => hW cls d σ' H' hl q
    have st := ps_set (pos := pa) (pos' := pf) hN hj (.inl hfl) (pe_up hp) (by rfl) (Or.inr hfl)
    exact (pss_one st).run pins s' σ H D I ⟨Q0, h1, h2⟩
  · refine ⟨EchS T hp cns Q, fun v H' => 2 ≤ sizeLine ∧ ∀ p, H' p = none → Q (.ref p) (upd H' p (.tup [.str told, v])), fun cls d σ' H' hσ hE => ?_, ⟨h0, hc, h⟩, fun v H' hv => ?_⟩
    · obtain ⟨cn, hcn, _⟩ := id hE
      refine ⟨?_, fun b hb => ?_⟩
      · obtain ⟨cn, hcn, _, _, _, _, rfl, _⟩ := hE
        show PySem.W.exmAny X.K _ _ = _
        rw [hK]
        exact (hpk cn hcn).1
      · exact exc_in hx0 hnt rfl hσ hE b fun cn hcn => (hpk cn hcn).2
    · refine ⟨v, ?_, hv⟩
      have hl : jf < (L2.start Ng [V.ref f]).length := by
        have e1 := (List.getElem?_eq_some_iff.mp hj).1
        have e2 := (List.getElem?_eq_some_iff.mp hi).1
        simp [L2.start]
        omega
      rw [List.getElem?_set]
      simp [hl]
theorem ie_said2 {x a e fn told : Str} {k i jf j0 kk kt : Nat} {d : He.DefD} {Ng : List Str} {b₀ : Stmt} {suite : List Stmt} {params : Arguments} {body : Expr} {scope : Scope} {p lpos pos p0 p1 p2 p3 p4 p5 pa pf pg tp ph q1 q2 q3 q4 q5 : Pos} {cns : List String} {sx : String → ES} {hp : String → List D → Option D} {m : EX} {c P : Addr}
    {x1 x2 x3 x4 x5 : Str} {c1 c2 c3 c4 c5 : Value}
    (hK : X.K = T.K) (hx0 : T.xc = none) (hg : Gl X x) (hm : X.mg x = some (.ref (He.fAd T.K d.at_))) (hFd : ∃ fd, FunD T.K d.name d.qual d.params d.body d.scope (d.dvs T.K) [] (He.fAd T.K d.at_) fd) (hnm : d.name = x) (hdv : d.dvs T.K = [])
    (hbd : d.body = [.Try [.Assign [.Name fn pf] (.Call (.Name a p1) [] [] p2) pa] [.ExceptHandler (some (.Tuple [.Name x1 q1, .Name x2 q2, .Name x3 q3, .Name x4 q4, .Name x5 q5] kt tp)) (some e) (b₀ :: suite) ph] [] [] p5,
      .Return (some (.Tuple [.Constant (.str told) j0 p0, .Name fn pg] kk p3)) p4])
    (hbi : ∀ fd, FunD T.K d.name d.qual d.params d.body d.scope (d.dvs T.K) [] (He.fAd T.K d.at_) fd → L2.Binds T.K fd [a] []) (Sg : FnScope Ng [a] d.scope) (hNg : Ng[0]? = some a) (hva : Vis d.scope a)
    (hN : Ng.Nodup) (hi : Ng[i]? = some e) (hln : d.scope.names.lookup e = some .local) (hj : Ng[jf]? = some fn) (hfl : d.scope.names.lookup fn = some .local)
    (hn : ∀ (cdv : Value) (s : Shared) (H : Hp), Names (cxOf (L2N.CX X.prog X.w) X.prog X.w X.K X.mg X.base Ng d.qual d.scope (He.fAd T.K d.at_) cdv X.A X.stack s H E00) x1 c1 ∧ Names (cxOf (L2N.CX X.prog X.w) X.prog X.w X.K X.mg X.base Ng d.qual d.scope (He.fAd T.K d.at_) cdv X.A X.stack s H E00) x2 c2 ∧ Names (cxOf (L2N.CX X.prog X.w) X.prog X.w X.K X.mg X.base Ng d.qual d.scope (He.fAd T.K d.at_) cdv X.A X.stack s H E00) x3 c3
      ∧ Names (cxOf (L2N.CX X.prog X.w) X.prog X.w X.K X.mg X.base Ng d.qual d.scope (He.fAd T.K d.at_) cdv X.A X.stack s H E00) x4 c4 ∧ Names (cxOf (L2N.CX X.prog X.w) X.prog X.w X.K X.mg X.base Ng d.qual d.scope (He.fAd T.K d.at_) cdv X.A X.stack s H E00) x5 c5)
    (hsu : ∀ (cdv : Value) (s : Shared) (H : Hp), RG (k + 1) (X.A.deeper (envOfC d.qual d.scope s.heap.objs.size (He.fAd T.K d.at_) cdv)) → ∀ (a : Addr) (oe : Obj) (cls : Value) (dd : Option Addr) (pn : List (Addr × Obj)), L2N.Zn cls dd oe → (∃ vs, oe.data = .fields vs) →
      PSs ((cxOf (L2N.CX X.prog X.w) X.prog X.w X.K X.mg X.base Ng d.qual d.scope (He.fAd T.K d.at_) cdv X.A X.stack s H E00).suite a ((a, oe) :: pn)) (b₀ :: suite) (tsX T sx cns a cls dd))
    (hnt : ∀ cn fs r, hp cn fs = some r → noThks fs = true → noThk r = true) (hcn : ∀ c fs r, hp c fs = some r → c ∈ cns)
    (hpk : ∀ cn ∈ cns, PySem.W.exmAny T.K (.ref (He.ga T.K (cn : Str))) [c1, c2, c3, c4, c5] = some true ∧ ∀ fs r S, hp cn fs = some r → sx cn ((List.replicate Ng.length none).set i (some (.thk 0 fs))) S = .ok (.rt r) S)
    (TB : TabB X.base X.mg c P) (hcode : X.env.code = .ref c) (hmT : (P, X.env.qual ++ "<lambda>") ∈ T.tabs) (hu : ∀ p ∈ T.tabs, p.1 = P → p.2 = X.env.qual ++ "<lambda>") (hr : RG (k + 2) X.A) (L : LamS X.env.scope scope) (hdef : defaultsOf params X.env = ([], []))
    (hbind : ∀ (q : Str) (cl : List (Str × Addr)) (pm cv ctv : Value), bindArgs (PySem.W.kla_fn "<lambda>" q params body scope cl pm cv ctv) ⟨[], []⟩ = pure [])
    (hbody : ∀ (A : Around) (outer : List PySem.Env) (s : Shared) (H : Hp) (E' : XK) (f c' : Addr), RG k (A.deeper (lamEnv X scope s.heap.objs.size f c')) → IE T E' (lamN X A outer s H E' scope f c') body m)
    (hdb : (x == ("__debug__" : Str)) = false := by decide +kernel) (hd : (a == ("__debug__" : Str)) = false := by decide +kernel) (hcd : (a == ("__classdict__" : Str)) = false := by decide +kernel)
    (hfd : (fn == ("__debug__" : Str)) = false := by decide +kernel) (hfcd : (fn == ("__classdict__" : Str)) = false := by decide +kernel) :
    IE T E X (.Call (.Name x p) [.Lambda params body scope lpos] [] pos) (eSaid told hp m) := by
  obtain ⟨fd, FD⟩ := hFd
  have B := hbi fd FD
  have kp := FD.kp
  obtain ⟨oc, od, dV, kV, doc, pm, an, cdv, ct, osl, rfl, lk, hcdv, _, _⟩ := FD.ex
  have lk' := lk
  rw [hnm] at lk' B
  have kp2 : PySem.W.keepIn X.K (.ref (He.fAd T.K d.at_)) = true := by rw [hK]; exact kp
  have lk2 := lk'
  rw [← show X.K.lookup (He.fAd T.K d.at_) = T.K.lookup (He.fAd T.K d.at_) from by rw [hK]] at lk2
  have B2 : L2.Binds X.K (PySem.W.fnOf x d.qual d.params d.body d.scope dV kV doc pm an cdv ct) [a] [] := by rw [hK]; exact B
  have cd2 : PySem.W.codeIn X.K cdv d.qual = true := by rw [hK]; exact hcdv
  refine PE.mono (lam_call (qg := d.qual) (bg := d.body) (TT := TTsaid T hp cns told) (t := fun E' => tI T E' m) hg hm kp2 lk2 cd2 B2 Sg hNg hva ?_ TB hcode hmT hu hr L hdef hbind hbody takes0N hdb hd hcd) fun σ H Q q => said_read hcn q
  rw [hbd]
  exact said2_makes hK hx0 hN hi hln hj hfl (hn cdv) (hsu cdv) hnt hpk hfd hfcd
end Ro
end
section
set_option Elab.async false
set_option linter.all false
set_option maxRecDepth 100000
set_option maxHeartbeats 4000000
namespace Ro
open PySem PySem.Spec PyProof.Rows L2 L2H
variable {T : Tb} {E : XK} {X : Cx} {a b c e : Expr} {es : List Expr} {f g h : EX} {fa ga fk : AX} {pos : Pos}
structure FnP2 (P : Program) (w : World) (T : Tb) (mg : Str → Option Value) (base : Heap) (k : Nat) (fp : Addr) (fd : FuncData) (ps : List Str) (cn : String) (m : Fn) : Prop where
  run : ∀ (A : Around) (below : List PySem.Env) (s : Shared) (H : Hp) (ar : Args) (Q : VK) (p : Addr × Obj) (z : XC) (fs : List D) (dy : D) (vy : V) (uy : Value) (w0 : Wd) (S : Store), RGH k A → PinOk below H s p → XHand T z p → A.handled = some (.ref z.a) → z.c = cn → Env0 P w T.K mg base A below s H → BindsTo s fd ar (ps.zip [.ref p.1, uy]) → RelV vy uy →
    WR (T.at (some z)) w0 S H → Rep (T.at (some z)) w0 (.thk 0 fs) (.ref z.a) → Rep (T.at (some z)) w0 dy vy → RP (m [.thk 0 fs, dy] S) (Pk (T.at (some z)) w0 Q) (XW (T.at (some z)) w0 E00) → codeAny (model P w) A (.call (.ref fp) ar) (CR (L2N.CX P w) below P w H s Q E00) s
structure OkP2 (T : Tb) (P : Program) (w : World) (mg : Str → Option Value) (base : Heap) (k : Nat) (d : He.DefD) (ps : List Str) (cn : String) (m : Fn) : Prop where
  ex : ∃ fd, FunD T.K d.name d.qual d.params d.body d.scope (d.dvs T.K) [] (He.fAd T.K d.at_) fd ∧ FnP2 P w T mg base k (He.fAd T.K d.at_) fd ps cn m
theorem OkP2.mk' {P : Program} {w : World} {mg : Str → Option Value} {base : Heap} {k : Nat} {d : He.DefD} {x y : Str} {N : List Str} {body : ES} {fd : FuncData} {cn : String}
    (F : FunD T.K d.name d.qual d.params d.body d.scope (d.dvs T.K) [] (He.fAd T.K d.at_) fd) (Sc : FnScope N [x, y] d.scope)
    (h : ∀ (cdv : Value) (A : Around) (outer : List PySem.Env) (s : Shared) (H : Hp) (p : Addr × Obj) (z : XC), XHand T z p → (A.deeper (envOfC d.qual d.scope s.heap.objs.size (He.fAd T.K d.at_) cdv)).handled = some (.ref z.a) → z.c = cn → RGH k (A.deeper (envOfC d.qual d.scope s.heap.objs.size (He.fAd T.K d.at_) cdv)) →
      ISs (T.at (some z)) E00 (cxP P w T.K mg base N d.qual d.scope (He.fAd T.K d.at_) cdv A outer s H p) d.body body) : OkP2 T P w mg base (k + 1) d [x, y] cn (fnM N.length body) := by
  refine ⟨fd, F, ?_⟩
  obtain ⟨oc, od, dV, kV, doc, pm, an, cdv, ct, osl, rfl, lk, hcd, _, _⟩ := F.ex
  constructor
  intro A below s H ar Q p z fs dy vy uy w0 S hr hp hx hA hcn env0 hbd ruy wr hz hy hm
  have inK : T.K.In s.heap := env0.mod.kin.keeps fun b o q => (env0.bs b o q).1
  have noLim : s.heap.NoLimit := env0.mod.nolimit.keeps fun b o q => (env0.bs b o q).1
  have kinds : ∀ z ∈ [x, y].zip [Value.ref p.1, uy], d.scope.names.lookup z.1 = some .local ∨ (d.scope.names.lookup z.1 = some .cell ∧ ((cellsFrom (s.heap.objs.size + 1) d.scope.names []).lookup z.1).isSome = true) := by
    rintro ⟨n, v⟩ hz
    rcases Sc.par n (List.of_mem_zip hz).1 with k1 | k1
    · exact Or.inl k1
    · exact Or.inr ⟨k1, PySem.W.cellsFrom_some _ _ _ (Or.inl k1)⟩
  refine codeAny_call_function hr.rm.depth (inK _ _ lk) rfl Sc.co Sc.gen rfl (PySem.W.codeRec_of inK hcd) (hbd _ _ _ _ ?_)
  refine wpAny_newFunctionEnv_cells Sc.kind kinds fun en hen st hx2 => ?_
  subst hen
  have rv : Vals [V.ref p.1, vy] [Value.ref p.1, uy] := .cons rfl (.cons ruy .nil)
  have J0 : Inv (cxP P w T.K mg base N d.qual d.scope (He.fAd T.K d.at_) cdv A below s H p) [] (L2.start N [V.ref p.1, vy]) H st := inv_startH Sc hp env0 rfl rv hx2
  have ends : tIs (T.at (some z)) E00 body { nx := fun _ H' => Q .non H', rt := Q } (L2.start N [V.ref p.1, vy]) H := by
    have px : Reps (T.at (some z)) w0 [.thk 0 fs, dy] [V.ref p.1, vy] := by
      rw [hx.at_]
      exact .cons hz (.cons hy .nil)
    refine ⟨w0, _, S, wr, er_start px, (RP.bnd hm).mono (fun c S1 h1 => ?_) fun _ _ _ z => z⟩
    cases c with
    | rt d => exact h1
    | nx e => exact fun w' H' σ' l r' q' => h1 w' H' .non l r' .non
    | bk e => exact (show False from h1).elim
    | ct e => exact (show False from h1).elim
  refine ⟨noLim.keeps hx2.toInCall.keep, codeAny_func (wpAny_mono ((h cdv A below s H p z hx hA hcn (hr.deeper _)).run [] st (L2.start N [V.ref p.1, vy]) H _ J0 ends) (fun fl st' hs => ?_) fun e st' hs => hs)⟩
  cases fl with
  | ret u =>
    obtain ⟨v, _, H', J, r1, q⟩ := hs
    exact ⟨v, H', J.os, J.bare, J.base, J.hok, r1, q⟩
  | next =>
    obtain ⟨_, H', J, q⟩ := hs
    exact ⟨V.non, H', J.os, J.bare, J.base, J.hok, rfl, q⟩
  | brk => exact hs.elim fun _ z => z.elim fun _ z => z.2.elim
  | cont => exact hs.elim fun _ z => z.elim fun _ z => z.2.elim
/-- a call that hands it on, with one thing more -/
def eFnP2 (m : Fn) (f g : EX) : EX := fun env S => (f env S).bnd fun x S1 => (g env S1).bnd fun y S2 => if isHand x then m [x, y] S2 else .bad
theorem ie_fnP2 {k : Nat} {d : He.DefD} {x y1 y2 : Str} {q : Pos} {p : Addr × Obj} {z : XC} {cn : String} {m : Fn} (hp : p ∈ X.pn) (hx : XHand T z p) (hA : X.A.handled = some (.ref z.a)) (hcn : z.c = cn) (F : OkP2 T X.prog X.w X.mg X.base k d [y1, y2] cn m) (hK : X.K = T.K) (hr : RGH k X.A) (hg : Gl X x) (hm : X.mg x = some (.ref (He.fAd T.K d.at_)))
    (hb : ∀ fd, FunD T.K d.name d.qual d.params d.body d.scope (d.dvs T.K) [] (He.fAd T.K d.at_) fd → L2.Binds T.K fd [y1, y2] []) (tk : L2N.Takes X fun c d _ H => E00 c d H) (ha : IE (T.at (some z)) E00 X a f) (hb2 : IE (T.at (some z)) E00 X b g) (hdb : (x == ("__debug__" : Str)) = false := by decide +kernel)
    (he : starEach [a, b] X.env = (false, eval a X.env) :: starEach [b] X.env := by rfl) (he2 : starEach [b] X.env = (false, eval b X.env) :: starEach [] X.env := by rfl) (hpl : (backTo pos (starEach [b] X.env)).any (·.1) = false := by rfl) :
    IE (T.at (some z)) E00 X (.Call (.Name x q) [a, b] [] pos) (eFnP2 m f g) := by
  obtain ⟨fd, FD, FO⟩ := F.ex
  refine ⟨fun pins s σ H Q I h => ?_⟩
  obtain ⟨w, env, S, r, e, qq⟩ := h
  refine wpAny_Call_Name_kw (ld_glob I hg hm ?_ hdb)
  have hone : PA X [a, b] (tIa (T.at (some z)) E00 (aCons f (aCons g aNil))) := ia_cons ha (ia_cons hb2 ia_nil he2) he
  refine PySem.W.callWith_K (h₀ := X.base) I.ok.mod.kin (by rw [hK]; exact FD.kp) (thn (hone.run pos pins s σ H (fun vs H1 => ∃ w1 S1 fs dy vy, w.le w1 ∧ vs = [.ref z.a, vy] ∧ WR (T.at (some z)) w1 S1 H1 ∧ Rep (T.at (some z)) w1 (.thk 0 fs) (.ref z.a) ∧ Rep (T.at (some z)) w1 dy vy ∧ RP (m [.thk 0 fs, dy] S1) (Pk (T.at (some z)) w1 Q) (XW (T.at (some z)) w1 E00)) I ⟨w, env, S, r, e, ?_⟩) fun us s1 ⟨vs, H1, I1, rv, w1, S1, fs, dy, vy, l1, ev, r1, z1, y1', q1⟩ => ⟨I1.kIn, ?_⟩) he hpl
  · show RP ((f env S).bnd fun x S1 => (aCons g aNil env S1).bnd fun xs S2 => .ok (x :: xs) S2) _ _
    have qq : RP ((f env S).bnd fun x S1 => (g env S1).bnd fun y S2 => if isHand x then m [x, y] S2 else .bad) (Pk (T.at (some z)) w Q) (XW (T.at (some z)) w E00) := qq
    cases zz : f env S with
    | ok x S1 =>
      rw [zz] at qq
      rw [bnd_ok] at qq ⊢
      show RP (((g env S1).bnd fun x S1 => (aNil env S1).bnd fun xs S2 => .ok (x :: xs) S2).bnd fun xs S2 => .ok (x :: xs) S2) _ _
      cases zg : g env S1 with
      | ok y S2 =>
        rw [zg] at qq
        rw [bnd_ok] at qq ⊢
        show ∀ w' H' vs, w.le w' → WR (T.at (some z)) w' S2 H' → Reps (T.at (some z)) w' [x, y] vs → _
        intro w' H' vs l r' rx
        by_cases hh : isHand x = true
        · rw [if_pos hh] at qq
          cases rx with
          | cons q1 q2 =>
            cases q2 with
            | cons q3 q4 =>
            cases q4
            obtain ⟨fs, rfl, rfl⟩ := hand_rep hh q1
            exact ⟨w', S2, fs, y, _, l, rfl, r', q1, q3, qq.mono (fun d S' q w2 H2 v l2 => q w2 H2 v (l.trans l2)) fun _ _ _ x => x.le l⟩
        · rw [if_neg hh] at qq
          exact qq.elim
      | err c fs S1 => rw [zg] at qq; exact qq
      | bad => rw [zg] at qq; exact qq.elim
    | err c fs S1 => rw [zz] at qq; exact qq
    | bad => rw [zz] at qq; exact qq.elim
  · subst ev
    obtain ⟨u, u2, rfl, ru, ru2⟩ : ∃ u u2, us = [u, u2] ∧ RelV (V.ref z.a) u ∧ RelV vy u2 := by
      cases rv with
      | cons ra rb => cases rb with
        | cons rc rd => cases rd; exact ⟨_, _, rfl, ra, rc⟩
    obtain rfl : u = Value.ref z.a := ru
    · skip
      have P1 := I1.pin p (List.mem_append_left _ hp)
      have hpin : PinOk X.stack H1 s1 p := ⟨P1.1, P1.2.1, fun hm => (List.mem_cons.mp (I1.stkSub p.1 hm)).elim P1.2.2.1 P1.2.2.2.1, P1.2.2.2.2⟩
      have bt := hb fd FD s1 [.ref z.a, u2] (by rw [← hK]; exact I1.kIn) rfl
      have env0 : Env0 X.prog X.w T.K X.mg X.base X.A X.stack s1 H1 := by rw [← hK]; exact I1.env0
      refine wpAny_call (codeAny_mono (FO.run X.A X.stack s1 H1 ⟨[.ref z.a, u2], []⟩ Q p z fs dy vy u2 w1 S1 hr hpin hx hA hcn env0 (by rw [hx.at_]; exact bt) ru2 r1 z1 y1' q1) fun r s' hq => ?_)
      cases r with
      | error e => exact L2N.passes_call tk (fun _ _ _ _ h => h) pins σ H1 s1 e s' I1 hq
      | ok fl =>
        cases fl with
        | ret u => exact I1.after hq
        | next => exact False.elim hq
        | brk => exact False.elim hq
        | cont => exact False.elim hq
end Ro
end
section
set_option Elab.async false
set_option linter.all false
set_option maxRecDepth 100000
set_option maxHeartbeats 4000000
namespace Ro
open PySem PySem.Spec PyProof.Rows L2
variable {T : Tb} {E : XK} {X : Cx} {a b c e : Expr} {es rest : List Expr} {f g h : EX} {fa ga fk : AX} {pos : Pos}
theorem truth_tru {w : Wd} {S : Store} {H : Hp} {d : D} {v : V} {k : Bool} (r : WR T w S H) (p : Rep T w d v) (h : truth d = some k) : TruV T.K v H k := by
  cases p with
  | non => cases h; rfl
  | bl b => cases h; rfl
  | int i =>
    cases h
    show _ = (i != 0)
    by_cases h : i = 0 <;> simp [h]
  | str s =>
    have h : (if s.length ≤ LINE then some (decide (s.length ≠ 0)) else none) = some k := h
    split at h
    · cases h
      rename_i hl
      refine ⟨by rw [sizeLine_eq]; exact hl, ?_⟩
      by_cases h : s.length = 0 <;> simp [h]
    · cases h
  | tup q2 r2 =>
    cases h
    refine .inr (.inl ⟨_, sqt_sub r q2, ?_⟩)
    cases r2 <;> rfl
  | lst q2 r2 =>
    cases h
    refine .inl ⟨_, .inl (.inl (r.sub _ _ q2)), ?_⟩
    cases r2 <;> rfl
  | dct q2 r2 =>
    cases h
    refine .inr (.inr ⟨_, r.sub _ _ q2, ?_⟩)
    cases r2 <;> rfl
  | _ => cases h
theorem pe_orT {ta tb : TE} (ha : PE X a ta) (hb : PE X (.BoolOp .Or (b :: rest) pos) tb) : PE X (.BoolOp .Or (a :: b :: rest) pos) (fun σ H Q => ta σ H fun x H1 => ∃ k, TruV X.K x H1 k ∧ if k = true then Q x H1 else tb σ H1 Q) := by
  constructor
  intro pins s σ H Q I h
  refine BoolOp_or (thn (ha.run pins s σ H _ I h) fun v s1 ⟨x, H1, I1, r1, k, q1, q2⟩ => ?_)
  refine thn (tru_ok pins s1 σ H1 x v (fun k2 H2 => k2 = k ∧ H2 = H1) I1 r1 ⟨k, q1, rfl, rfl⟩) fun k2 s2 ⟨H2, I2, e1, e2⟩ => ?_
  subst e1 e2
  cases k2 with
  | true => exact ⟨x, H2, I2, r1, q2⟩
  | false => exact hb.run pins s2 σ H2 Q I2 q2
def eOrT (a b : EX) : EX := fun env S => (a env S).bnd fun x S1 => match truth x with
  | some true => .ok x S1
  | some false => b env S1
  | none => .bad
theorem ie_orT (hK : X.K = T.K) (h : IE T E X a f) (h2 : IE T E X (.BoolOp .Or (b :: es) pos) g) : IE T E X (.BoolOp .Or (a :: b :: es) pos) (eOrT f g) :=
  PE.mono (pe_orT h h2) fun σ H Q ⟨w, env, S, r, e, q⟩ => ⟨w, env, S, r, e, (RP.bnd q).mono (fun d S1 h1 w1 H1 x l1 r1 p1 => by
    cases z : truth d with
    | none => rw [z] at h1; exact (show False from h1).elim
    | some k =>
      refine ⟨k, by rw [hK]; exact truth_tru r1 p1 z, ?_⟩
      rw [z] at h1
      cases k with
      | true => exact h1 w1 H1 x l1 r1 p1
      | false => exact ⟨w1, env, S1, r1, e.mono l1, RP.mono h1 (fun k2 S2 h2 w2 H2 v l2 r2 => h2 w2 H2 v (l1.trans l2) r2) fun _ _ _ x => x.le l1⟩) fun _ _ _ x => x⟩
theorem pe_xfP {X : Cx} {p : Addr × Obj} {C : Addr} {cls : Value} {dx : Option Addr} {e : Expr} {te : TE} {pos : Pos} {n : Str} (hp : p ∈ X.pn) (xf : XfC X.K C) (nof : PySem.W.findIn X.K (.ref C) n = some none) (hz : Zc cls dx p.2) (hf : ∃ vs, p.2.data = .fields vs) (he : PE X e te)
    (hb : attributeBase e n X.env (eval e X.env) = eval e X.env := by rfl) : PE X (.Attribute e n pos) (tXf p.1 cls dx C n te) := by
  constructor
  intro pins s σ H Q I h
  refine attr_of hb (thn (he.run pins s σ H _ I h) fun u s1 ⟨x, H1, I1, rx, ex, ec, dd, fs, v, ed, ea, l, q⟩ => ?_)
  subst ex ec ed
  obtain rfl : u = Value.ref p.1 := rx
  have there := (I1.pin p (List.mem_append_left _ hp)).1
  obtain ⟨vs, hd⟩ := hf
  obtain ⟨mA, hns, hr⟩ := (show ObjOk X.prog X.w H1 s1.heap dd (.xd fs) from I1.hok dd _ ea)
  obtain ⟨od, ho, hl⟩ := lookIn_ns hns
  obtain ⟨uv, hu, ru⟩ := RelO.some_of (v := v) (o := mA n) (by rw [← l]; exact hr n)
  have inst : PySem.W.InstAt s1.heap p.1 p.2 C (some od) := ⟨there, hz.1, by unfold PySem.W.notCls; rw [hd] <;> rfl, by rw [hz.2]; exact ho⟩
  exact HandSPX.exc_get I1.kIn inst xf.ga xf.gg xf.exC (PySem.W.findObj_own xf.hdC nof rfl (by rw [hl, hu])) (handed_of ru) ⟨v, H1, I1.tok _, ru, q⟩
theorem ie_xfP {T : Tb} {X : Cx} {cf : String → List String} {fn cn : String} {p : Addr × Obj} {z : XC} {a : Expr} {f : EX} {pos : Pos} (hp : p ∈ X.pn) (hx : XHand T z p) (hz : z.c = cn) (hcf : T.cf = cf) (hK : X.K = T.K)
    (hf : fn ∈ cf cn → XfC T.K (He.ga T.K (cn : Str)) ∧ PySem.W.findIn T.K (.ref (He.ga T.K (cn : Str))) (fn : Str) = some none) (ha : IE (T.at (some z)) E00 X a f)
    (hb : attributeBase a (fn : Str) X.env (eval a X.env) = eval a X.env := by rfl) :
    IE (T.at (some z)) E00 X (.Attribute a (fn : Str) pos) (eXf cf cn fn f) := by
  refine ⟨fun pins s σ H Q I h => ?_⟩
  obtain ⟨w, env, S, r, e, q⟩ := h
  by_cases hm : fn ∈ cf cn
  · obtain ⟨h1, h2⟩ := hf hm
    obtain ⟨pa, po⟩ := p
    obtain rfl : pa = z.a := hx.at_
    rw [← hz] at h1 h2
    have h3 : XfC X.K (He.ga T.K (z.c : Str)) := by rw [hK]; exact h1
    have h4 : PySem.W.findIn X.K (.ref (He.ga T.K (z.c : Str))) (fn : Str) = some none := by rw [hK]; exact h2
    refine (pe_xfP (dx := z.dx) (cls := .ref (He.ga T.K (z.c : Str))) hp h3 h4 hx.zc hx.fl ha hb).run pins s σ H Q I ⟨w, env, S, r, e, (RP.bnd q).mono (fun d S1 k1 w1 H1 x l1 r1 p1 => ?_) fun _ _ _ x => x⟩
    split at k1
    · rename_i fs
      obtain ⟨hv, hc⟩ := hand_inv p1
      subst hv
      refine ⟨rfl, rfl, ?_⟩
      cases y : ((cf cn).zip fs).lookup fn with
      | none => rw [y] at k1; exact (show False from k1).elim
      | some d =>
        rw [y] at k1
        rcases hc with ⟨_, rfl⟩ | ⟨dd, gs, c1, c2, c3, c4⟩
        · rw [List.zip_nil_right] at y
          cases y
        · have ecf : T.cf z.c = cf cn := by rw [hcf, hz]
          rw [ecf] at c3 c4
          obtain ⟨_, v, g1, g2⟩ := zip_look y c3 c4
          exact ⟨dd, gs, v, c1, r1.sub _ _ c2, g1, k1 w1 H1 v l1 r1 g2⟩
    · exact (show False from k1).elim
  · refine attr_of hb (thn (ha.run pins s σ H (fun _ _ => False) I ⟨w, env, S, r, e, (RP.bnd q).mono (fun d S1 k1 w1 H1 x l1 r1 p1 => ?_) fun _ _ _ x => x⟩) fun u s1 ⟨v, H1, I1, rv, hh⟩ => hh.elim)
    split at k1
    · rename_i fs
      cases y : ((cf cn).zip fs).lookup fn with
      | none => rw [y] at k1; exact (show False from k1).elim
      | some d =>
        exact hm (look_in y)
    · exact (show False from k1).elim
end Ro
end
section
set_option Elab.async false
set_option linter.all false
set_option maxRecDepth 100000
set_option maxHeartbeats 4000000
namespace Ro
open PySem PySem.Spec PyProof.Rows L2
section
variable {prog : Program} {w : World} {A : Around} {E : Value → Shared → Prop} {s : Shared}
theorem tup_end_hot {it t xa : Addr} {i : Nat} {items : Array Value} {Q : Option Value → Shared → Prop} (hot : HotX.HotAt A xa s.heap) (hi : IsTupIter s.heap it t i) (ht : IsTup s.heap t items) (he : items[i]? = none) (hne : xa ≠ it)
    (hQ : ∀ h', Heap.ExtBut it s.heap h' → Q none { s with heap := h' }) : wpAny (model prog w) A (pyNext (.ref it)) Q E s := by
  obtain ⟨oi, hoi, hci, hdi⟩ := id hi
  obtain ⟨ot, hot2, _, nt, hdt⟩ := ht
  obtain ⟨hh, ox, vx, hx1, hx2, hx3⟩ := hot
  unfold pyNext
  apply wpAny_bind
  apply wpAny_attempt
  refine wpAny_callSpecial?_slot (name := Str.ofString "__next__") hi.typeIs slot_tupleiter_next (wpAny_call_entry slot_tupleiter_next hi.typeIs entry_tupleiter_next ?_ (args_tupleiter_next _))
  show wpAny _ _ (field (.ref it) 0 >>= _) _ _ s
  apply wpAny_bind
  refine wpAny_field hoi hdi (x := .ref t) rfl ?_
  show wpAny _ _ (if (Value.ref t == Value.none) = true then _ else _) _ _ s
  rw [if_neg (show ¬ ((Value.ref t == Value.none) = true) from Bool.false_ne_true)]
  show wpAny _ _ (field (.ref it) 1 >>= _) _ _ s
  apply wpAny_bind
  refine wpAny_field hoi hdi (x := .int i 0) rfl ?_
  show wpAny _ _ (seqItems? (.ref t) >>= _) _ _ s
  apply wpAny_bind
  refine wpAny_seqItems hot2 hdt ?_
  simp only [Int.toNat_natCast, he]
  apply wpAny_bind
  apply wpAny_rule
  apply wpAny_bind
  refine wpAny_setField hoi hdi (by simp) ?_
  show wpAny _ _ (newExc (.type "StopIteration") [] >>= _) _ _ _
  apply wpAny_bind
  simp only [newExc, newTuple]
  apply wpAny_bind
  refine wpAny_newObj_type ?_ (by size_fits)
  refine wpAny_bind (m := firstArgMember _ _) (wpAny_of_eq (a := Value.none) (by first | rfl | (simp only [firstArgMember]; rfl)) ?_)
  refine wpAny_newObj_type ?_ (by size_fits)
  have hx1' : ∀ f, (s.heap.update it f).get? xa = some ox := fun f => by rw [Heap.get?_update_other _ _ (Ne.symm hne)]; exact hx1
  refine HotX.raiseNew_hot (x1 := xa) ⟨hh, ox, vx, Heap.get?_push_of_some _ (Heap.get?_push_of_some _ (hx1' _)), hx2, hx3⟩ (Nat.ne_of_lt (Heap.lt_size (Heap.get?_push_of_some _ (hx1' _)))) (Heap.get?_push_size _ rfl) rfl (by first | (simp; done) | (simp; omega)) ?_
  apply wpAny_bind
  refine wpAny_isInstance (T := "StopIteration") (b := true) ⟨_, Heap.get?_update_self _ (Heap.get?_push_size _ rfl) rfl, rfl⟩ isSubtype_stop ?_
  refine wpAny_pure (hQ _ fun b o hb e => ?_)
  have e1 : (s.heap.update it (Obj.mapFields (·.setIfInBounds 0 Value.none))).get? b = some o := by rw [Heap.get?_update_other _ _ (Ne.symm hb)]; exact e
  rw [Heap.get?_update_other _ _ (Nat.ne_of_gt (Heap.lt_size (Heap.get?_push_of_some _ e1)))]
  exact Heap.get?_push_of_some _ (Heap.get?_push_of_some _ e1)
theorem unpack_hot {t xa : Addr} {items : Array Value} {Q : List Value → Shared → Prop} (hot : HotX.HotAt A xa s.heap) (ht : IsTup s.heap t items)
    (hQ : ∀ h', Heap.ExtBut s.heap.objs.size s.heap h' → Q items.toList { s with heap := h' }) : wpAny (model prog w) A (unpackItems (.ref t) items.size none) Q E s := by
  have apart : t ≠ s.heap.objs.size := by
    obtain ⟨o, ho, _⟩ := ht
    exact Nat.ne_of_lt (Heap.lt_size ho)
  obtain ⟨hh, ox, vx, hx1, hx2, hx3⟩ := hot
  have apartX : xa ≠ s.heap.objs.size := Nat.ne_of_lt (Heap.lt_size hx1)
  unfold unpackItems
  apply wpAny_bind
  unfold notIterableAtAll
  apply wpAny_bind
  refine wpAny_specialOf ht.typeIs slot_tuple_iter.lookup ?_
  apply wpAny_pure
  simp only [Bool.false_eq_true, if_false]
  apply wpAny_bind
  apply wpAny_holding
  refine iter_tuple ht ?_
  apply wpAny_bind
  apply wpAny_holding
  refine draw_tuple apart items.size 0 _ _ ⟨_, Heap.get?_push_size _ rfl, rfl, rfl⟩ (ht.push _) (by omega) fun h1 hi1 hs1 => ?_
  have whole : List.take items.size (List.drop 0 items.toList) = items.toList := by rw [List.drop_zero]; exact List.take_of_length_le (by simp)
  rw [whole, if_neg (by simp)]
  have ht1 : IsTup h1 t items := (ht.push _).extBut hs1.extBut apart
  apply wpAny_bind
  apply wpAny_holding
  refine tup_end_hot ⟨hh, ox, vx, hs1.extBut _ _ apartX (Heap.get?_push_of_some _ hx1), hx2, hx3⟩ hi1 ht1 (by simp) apartX fun h2 he2 => ?_
  simp only [Option.isSome_none, Bool.false_eq_true, if_false]
  exact wpAny_pure (hQ h2 fun b o hb e => he2 b o hb (hs1.extBut b o hb (Heap.get?_push_of_some _ e)))
end
theorem ps_parH {X : Cx} {i j : Nat} {x y : Str} {a b : Expr} {ta : TA} {px py pt pos : Pos} {kt k2 pt2} {p : Addr × Obj} (hp : p ∈ X.pn) (hh : X.A.handled = some (.ref p.1)) (hfl : ∃ vs, p.2.data = .fields vs) (hcx : PXN.CtxN p.2) (hN : X.N.Nodup) (hi : X.N[i]? = some x) (hj : X.N[j]? = some y) (hij : i ≠ j)
    (hx : X.env.scope.names.lookup x = some .local) (hy : X.env.scope.names.lookup y = some .local) (ha : PA X [a, b] ta)
    (hw : swappedStores [.Tuple [.Name x px, .Name y py] kt pt] (.Tuple [a, b] k2 pt2) X.env = pure (some [x, y]))
    (hs : swapsWithSole [.Tuple [.Name x px, .Name y py] kt pt] (.Tuple [a, b] k2 pt2) pos.line X.env = pure false) :
    PS X (.Assign [.Tuple [.Name x px, .Name y py] kt pt] (.Tuple [a, b] k2 pt2) pos) (tPar i j ta) := by
  constructor
  intro pins s σ H D I h
  rw [exec_Assign_arm]
  apply wpAny_bind
  apply wpAny_standAt
  rw [hs]
  apply wpAny_bind
  apply wpAny_pure
  rw [if_neg (by decide)]
  apply wpAny_bind
  refine Tuple_ (thn (ha.run _ pins s σ H _ I h) fun us s1 ⟨vs, H1, I1, r1, v, w, e1, q1⟩ => ?_)
  subst e1
  obtain ⟨u1, u2, rfl, rv, rw2⟩ : ∃ u1 u2, us = [u1, u2] ∧ RelV v u1 ∧ RelV w u2 := by
    cases r1 with
    | cons z1 z2 => cases z2 with
      | cons z3 z4 => cases z4; exact ⟨_, _, rfl, z1, z3⟩
  refine wpAny_newObj_type ?_ (by show 2 ≤ sizeLine; decide)
  have I2 : Inv X pins σ H1 { s1 with heap := s1.heap.push { cls := .type "tuple", data := .seq [u1, u2].toArray } } := I1.kept (t' := s1.toks) fun b o e => Heap.get?_push_of_some _ e
  rw [hw]
  apply wpAny_bind
  apply wpAny_pure
  show wpAny (model X.prog X.w) X.A (do rule "assign.swapped-stores"; let items ← unpackItems (.ref s1.heap.objs.size) 2 none; assignInOrder [fun v => bindName X.env y v, fun v => bindName X.env x v] items.reverse; pure Flow.next) _ _ _
  apply wpAny_bind
  apply wpAny_rule
  apply wpAny_bind
  have hot : HotX.HotAt X.A p.1 (s1.heap.push { cls := .type "tuple", data := .seq [u1, u2].toArray }) := by
    obtain ⟨vx, hv⟩ := hfl
    exact ⟨hh, p.2, vx, (I2.pin p (List.mem_append_left _ hp)).1, hv, hcx _ hv⟩
  refine unpack_hot (items := #[u1, u2]) hot (IsTup.new s1.heap _) fun h' hx' => ?_
  have I3 := I2.kept (h' := h') (t' := s1.toks) fun b o e => hx' b o (Nat.ne_of_lt (Heap.lt_size e)) e
  show wpAny _ _ (assignInOrder [fun v => bindName X.env y v, fun v => bindName X.env x v] [u2, u1] >>= fun _ => pure Flow.next) _ _ _
  apply wpAny_bind
  refine assignInOrder_cons (wpAny_bindName (store_ok I3 hN hj (.inl hy) rw2 (fun s2 I4 => ?_) (.inr hy)))
  refine assignInOrder_cons (wpAny_bindName (store_ok I4 hN hi (.inl hx) rv (fun s3 I5 => assignInOrder_nil (wpAny_pure ?_)) (.inr hx)))
  rw [List.set_comm _ _ (Ne.symm hij)] at I5
  exact ⟨_, H1, I5, q1⟩
theorem is_par2H {T : Tb} {E : XK} {X : Cx} {a b : Expr} {fa : AX} {pos : Pos} {p : Addr × Obj} {z : XC} {x y : Str} {px py pt : Pos} {kt k2 : Nat} {pt2 : Pos} (i j : Nat) (hp : p ∈ X.pn) (hX : XHand T z p) (hA : X.A.handled = some (.ref z.a)) (hN : X.N.Nodup) (ha : IA (T.at (some z)) E X [a, b] fa) (hi : X.N[i]? = some x := by rfl) (hj : X.N[j]? = some y := by rfl) (hij : i ≠ j := by decide)
    (hx : X.env.scope.names.lookup x = some .local := by rfl) (hy : X.env.scope.names.lookup y = some .local := by rfl)
    (hw : swappedStores [.Tuple [.Name x px, .Name y py] kt pt] (.Tuple [a, b] k2 pt2) X.env = pure (some [x, y]) := by rfl)
    (hs : swapsWithSole [.Tuple [.Name x px, .Name y py] kt pt] (.Tuple [a, b] k2 pt2) pos.line X.env = pure false := by rfl) :
    IS (T.at (some z)) E X (.Assign [.Tuple [.Name x px, .Name y py] kt pt] (.Tuple [a, b] k2 pt2) pos) (sPar2 i j fa) :=
  PS.mono (ps_parH hp (by rw [hX.at_]; exact hA) hX.fl hX.cx hN hi hj hij hx hy ha hw hs) fun D σ H ⟨w, env, S, r, e, q⟩ => ⟨w, env, S, r, e, (RP.bnd q).mono (fun ds S1 h1 w1 H1 vs l1 r1 p1 => by
    split at h1
    · obtain ⟨v, u, rfl, p2, q2⟩ := reps_two p1
      exact ⟨v, u, rfl, h1 w1 H1 _ l1 r1 (((e.mono l1).set p2 i).set q2 j)⟩
    · exact (show False from h1).elim) fun _ _ _ x => x⟩
end Ro
end
section
set_option Elab.async false
set_option linter.all false
set_option maxRecDepth 100000
set_option maxHeartbeats 4000000
namespace Ro
open PySem
/-- what a mirror gives: what is told, what is raised -/
@[irreducible] def WX {α : Type} (E : String → List D → Store → Prop) (r : R α) (q : α → Store → Prop) : Prop := match r with
  | .ok a S => q a S
  | .err c fs S => E c fs S
  | .bad => False
section
variable {α β : Type} {E E' : String → List D → Store → Prop}
@[simp] theorem WX_ok (a : α) (S : Store) (q : α → Store → Prop) : WX E (.ok a S) q = q a S := by unfold WX; rfl
@[simp] theorem WX_err (c : String) (fs : List D) (S : Store) (q : α → Store → Prop) : WX E (.err c fs S : R α) q = E c fs S := by unfold WX; rfl
@[simp] theorem WX_bad (q : α → Store → Prop) : WX E (.bad : R α) q = False := by unfold WX; rfl
theorem WX.mono {r : R α} {p q : α → Store → Prop} (h : WX E r p) (k : ∀ a S, p a S → q a S) : WX E r q := by
  cases r with
  | ok a S => rw [WX_ok] at h ⊢; exact k a S h
  | err c fs S => rw [WX_err] at h ⊢; exact h
  | bad => rw [WX_bad] at h; exact h.elim
theorem WX_bnd (r : R α) (f : α → Store → R β) (q : β → Store → Prop) : WX E (r.bnd f) q = WX E r fun a S => WX E (f a S) q := by cases r <;> simp
theorem W.ofX {r : R α} {q : α → Store → Prop} (h : WX (fun _ _ _ => False) r q) : W r q := by
  cases r with
  | ok a S => rw [WX_ok] at h; rw [W_ok]; exact h
  | err c fs S => rw [WX_err] at h; exact h.elim
  | bad => rw [WX_bad] at h; exact h.elim
theorem WX.use {r : R α} {p q : α → Store → Prop} (h : W r p) (k : ∀ a S, p a S → q a S) : WX E r q := by
  cases r with
  | ok a S => rw [W_ok] at h; rw [WX_ok]; exact k a S h
  | err c fs S => rw [W_err] at h; exact h.elim
  | bad => rw [W_bad] at h; exact h.elim
theorem WX.eq {r : R α} {a : α} {S : Store} (h : r = .ok a S) {q : α → Store → Prop} (k : q a S) : WX E r q := by rw [h, WX_ok]; exact k
theorem WX.eqE {r : R α} {c : String} {fs : List D} {S : Store} (h : r = .err c fs S) {q : α → Store → Prop} (k : E c fs S) : WX E r q := by rw [h, WX_err]; exact k
theorem WX.toEq {r : R α} {a : α} {S1 : Store} (h : WX (fun _ _ _ => False) r fun x S' => x = a ∧ S' = S1) : r = .ok a S1 := by
  cases r with
  | ok x S' => rw [WX_ok] at h; obtain ⟨rfl, rfl⟩ := h; rfl
  | err c fs S => rw [WX_err] at h; exact h.elim
  | bad => rw [WX_bad] at h; exact h.elim
end
section
variable {E : String → List D → Store → Prop} {env : Env} {S S1 : Store} {i j n kn pn : Nat} {d x y : D} {a b c e : EX} {f g h : BX} {fa fk r : AX} {q : D → Store → Prop} {qb : Bool → Store → Prop} {ql : List D → Store → Prop} {qc : Ctl → Store → Prop} {s t u : ES} {op op' : D → D → Option D} {lo hi : OX}
theorem Ws_var (h : env[i]? = some (some d)) (k : q d S) : WX E (eVar i env S) q := by rw [u_eVar, h]; simpa using k
theorem Ws_c (k : q d S) : WX E (eC d env S) q := by rw [u_eC, WX_ok]; exact k
theorem Ws_op (h : WX E (a env S) fun x S1 => WX E (b env S1) fun y S2 => ∃ d, op x y = some d ∧ q d S2) : WX E (eOp op a b env S) q := by
  rw [u_eOp, WX_bnd]
  refine h.mono fun x S1 h1 => ?_
  rw [WX_bnd]
  refine h1.mono fun y S2 ⟨d, h2, h3⟩ => ?_
  rw [h2, lift_some, WX_ok]; exact h3
theorem Ws_opS (h : WX E (a env S) fun x S1 => WX E (b env S1) fun y S2 => ∃ d, op (seeD x S2) (seeD y S2) = some d ∧ q d S2) : WX E (eOpS op a b env S) q := by
  unfold eOpS
  rw [WX_bnd]
  refine h.mono fun x S1 h1 => ?_
  rw [WX_bnd]
  refine h1.mono fun y S2 ⟨d, h2, h3⟩ => ?_
  rw [h2, lift_some, WX_ok]; exact h3
theorem Ws_un {op : D → Option D} (h : WX E (a env S) fun x S1 => ∃ d, op x = some d ∧ q d S1) : WX E (eUn op a env S) q := by
  rw [u_eUn, WX_bnd]
  refine h.mono fun x S1 ⟨d, h2, h3⟩ => ?_
  rw [h2, lift_some, WX_ok]; exact h3
theorem Ws_idx (h : WX E (a env S) fun x S1 => WX E (b env S1) fun y S2 => ∃ d, idxB x y S2 = some d ∧ q d S2) : WX E (eIdxB a b env S) q := by
  rw [u_eIdxB, WX_bnd]
  refine h.mono fun x S1 h1 => ?_
  rw [WX_bnd]
  refine h1.mono fun y S2 ⟨d, h2, h3⟩ => ?_
  rw [h2, lift_some, WX_ok]; exact h3
theorem Ws_anil (k : ql [] S) : WX E (aNil env S) ql := by rw [u_aNil, WX_ok]; exact k
theorem Ws_acons (h : WX E (a env S) fun x S1 => WX E (r env S1) fun xs S2 => ql (x :: xs) S2) : WX E (aCons a r env S) ql := by
  rw [u_aCons, WX_bnd]
  refine h.mono fun x S1 h1 => ?_
  rw [WX_bnd]
  refine h1.mono fun xs S2 h2 => ?_
  rw [WX_ok]; exact h2
theorem Ws_fnC {m : List D → List D → Store → R D} (h : WX E (fa env S) fun xs S1 => WX E (fk env S1) fun ys S2 => WX E (m xs ys S2) q) : WX E (eFn m fa fk env S) q := by
  rw [u_eFn, WX_bnd]
  refine h.mono fun x S1 h1 => ?_
  rw [WX_bnd]; exact h1
theorem Ws_call {m : Fn} {pk : List (Nat × Nat)} {dfs xs ys ds : List D} (h1 : pick pk xs dfs ys = ds) (h2 : xs.length = n ∧ ys.length = kn ∧ ds.length = pn) (k : WX E (m ds S) q) : WX E (callM m n kn pn pk dfs xs ys S) q := by
  rw [u_callM, h1, if_pos h2]; exact k
theorem Ws_tup (h : WX E (fa env S) fun xs S1 => xs.length ≤ LINE ∧ q (.tup xs) S1) : WX E (eTup fa env S) q := by
  rw [u_eTup, WX_bnd]
  refine h.mono fun xs S1 ⟨h1, h2⟩ => ?_
  rw [if_pos h1, WX_ok]; exact h2
theorem Ws_lst (h : WX E (fa env S) fun xs S1 => xs.length ≤ LINE ∧ q (.lst xs) S1) : WX E (eLst fa env S) q := by
  rw [u_eLst, WX_bnd]
  refine h.mono fun xs S1 ⟨h1, h2⟩ => ?_
  rw [if_pos h1, WX_ok]; exact h2
theorem Ws_lstM (h : WX E (fa env S) fun xs S1 => xs.length ≤ LINE ∧ q (.ref S1.length) (S1 ++ [.lst xs])) : WX E (eLstM fa env S) q := by
  rw [u_eLstM, WX_bnd]
  refine h.mono fun xs S1 ⟨h1, h2⟩ => ?_
  rw [if_pos h1, WX_ok]; exact h2
theorem Ws_bOf (h : WX E (a env S) fun x S1 => ∃ b, truth x = some b ∧ qb b S1) : WX E (bOf a env S) qb := by
  rw [u_bOf, WX_bnd]
  refine h.mono fun x S1 ⟨d, h2, h3⟩ => ?_
  rw [h2, lift_some, WX_ok]; exact h3
theorem Ws_bVal (h : WX E (a env S) fun x S1 => ∃ b, x = .bl b ∧ qb b S1) : WX E (bVal a env S) qb := by
  rw [u_bVal, WX_bnd]
  refine h.mono fun x S1 ⟨d, h2, h3⟩ => ?_
  rw [h2]
  dsimp only
  rw [WX_ok]; exact h3
/-- a truth that is told, or both ways -/
structure Br (b : Bool) (A B : Prop) : Prop where
  y : b = true → A
  n : b = false → B
theorem Br.yes {A B : Prop} (h : A) : Br true A B := ⟨fun _ => h, fun z => by cases z⟩
theorem Br.no {A B : Prop} (h : B) : Br false A B := ⟨fun z => (by cases z), fun _ => h⟩
theorem Br.tt {b : Bool} {A B : Prop} (e : b = true) (h : A) : Br b A B := e ▸ Br.yes h
theorem Br.ff {b : Bool} {A B : Prop} (e : b = false) (h : B) : Br b A B := e ▸ Br.no h
theorem Br.both {b : Bool} {A B : Prop} (h : b = true → A) (k : b = false → B) : Br b A B := ⟨h, k⟩
theorem Ws_bAnd (h : WX E (f env S) fun k S1 => Br k (WX E (g env S1) qb) (qb false S1)) : WX E (bAnd f g env S) qb := by
  rw [u_bAnd, WX_bnd]
  refine h.mono fun k S1 ⟨h1, h2⟩ => ?_
  cases k with
  | true => rw [if_pos rfl]; exact h1 rfl
  | false => rw [if_neg Bool.false_ne_true, WX_ok]; exact h2 rfl
theorem Ws_bOr (h : WX E (f env S) fun k S1 => Br k (qb true S1) (WX E (g env S1) qb)) : WX E (bOr f g env S) qb := by
  rw [u_bOr, WX_bnd]
  refine h.mono fun k S1 ⟨h1, h2⟩ => ?_
  cases k with
  | true => rw [if_pos rfl, WX_ok]; exact h1 rfl
  | false => rw [if_neg Bool.false_ne_true]; exact h2 rfl
theorem Ws_bNot (h : WX E (f env S) fun k S1 => qb (!k) S1) : WX E (bNot f env S) qb := by
  rw [u_bNot, WX_bnd]
  refine h.mono fun k S1 h1 => ?_
  rw [WX_ok]; exact h1
theorem Ws_eAnd (h : WX E (a env S) fun x S1 => ∃ k, x = .bl k ∧ Br k (WX E (b env S1) q) (q (.bl false) S1)) : WX E (eAnd a b env S) q := by
  rw [u_eAnd, WX_bnd]
  refine h.mono fun x S1 ⟨k, e, h1, h2⟩ => ?_
  subst e
  cases k with
  | true => exact h1 rfl
  | false => dsimp only; rw [if_neg Bool.false_ne_true, WX_ok]; exact h2 rfl
theorem Ws_eOr (h : WX E (a env S) fun x S1 => ∃ k, x = .bl k ∧ Br k (q (.bl true) S1) (WX E (b env S1) q)) : WX E (eOr a b env S) q := by
  rw [u_eOr, WX_bnd]
  refine h.mono fun x S1 ⟨k, e, h1, h2⟩ => ?_
  subst e
  cases k with
  | true => dsimp only; rw [if_pos rfl, WX_ok]; exact h1 rfl
  | false => exact h2 rfl
theorem Ws_eOrT (h : WX E (a env S) fun x S1 => ∃ k, truth x = some k ∧ Br k (q x S1) (WX E (b env S1) q)) : WX E (eOrT a b env S) q := by
  unfold Ro.eOrT
  rw [WX_bnd]
  refine h.mono fun x S1 ⟨k, e, h1, h2⟩ => ?_
  rw [e]
  cases k with
  | true => dsimp only; rw [WX_ok]; exact h1 rfl
  | false => exact h2 rfl
theorem Ws_eNot (h : WX E (a env S) fun x S1 => ∃ k, x = .bl k ∧ q (.bl (!k)) S1) : WX E (eNot a env S) q := by
  rw [u_eNot, WX_bnd]
  refine h.mono fun x S1 ⟨k, e, h1⟩ => ?_
  subst e
  dsimp only
  rw [WX_ok]; exact h1
theorem Ws_eIf (h : WX E (f env S) fun k S1 => Br k (WX E (a env S1) q) (WX E (b env S1) q)) : WX E (eIf f a b env S) q := by
  rw [u_eIf, WX_bnd]
  refine h.mono fun k S1 ⟨h1, h2⟩ => ?_
  cases k with
  | true => rw [if_pos rfl]; exact h1 rfl
  | false => rw [if_neg Bool.false_ne_true]; exact h2 rfl
theorem Ws_chain (h : WX E (a env S) fun x S1 => WX E (b env S1) fun y S2 => ∃ k, op x y = some (.bl k) ∧ Br k (WX E (c env S2) fun z S3 => ∃ d, op' y z = some d ∧ q d S3) (q (.bl false) S2)) : WX E (eChain op op' a b c env S) q := by
  rw [u_eChain, WX_bnd]
  refine h.mono fun x S1 h1 => ?_
  rw [WX_bnd]
  refine h1.mono fun y S2 ⟨k, e, h2, h3⟩ => ?_
  rw [e, chk_bl]
  cases k with
  | true =>
    rw [if_pos rfl, WX_bnd]
    refine (h2 rfl).mono fun z S3 ⟨d, e2, h4⟩ => ?_
    rw [e2, lift_some, WX_ok]; exact h4
  | false => rw [if_neg Bool.false_ne_true, WX_ok]; exact h3 rfl
theorem Ws_oNone {qo : Option Int → Store → Prop} (k : qo none S) : WX E (oNone env S) qo := by rw [u_oNone, WX_ok]; exact k
theorem Ws_oSome {qo : Option Int → Store → Prop} (h : WX E (a env S) fun x S1 => ∃ i, x = .int i ∧ qo (some i) S1) : WX E (oSome a env S) qo := by
  rw [u_oSome, WX_bnd]
  refine h.mono fun x S1 ⟨i, e, h1⟩ => ?_
  subst e
  dsimp only
  rw [WX_ok]; exact h1
theorem Ws_cut (h : WX E (a env S) fun x S1 => WX E (lo env S1) fun l S2 => WX E (hi env S2) fun r S3 => ∃ d, cutD x l r = some d ∧ q d S3) : WX E (eCut a lo hi env S) q := by
  rw [u_eCut, WX_bnd]
  refine h.mono fun x S1 h1 => ?_
  rw [WX_bnd]
  refine h1.mono fun x S1 h1 => ?_
  rw [WX_bnd]
  refine h1.mono fun x S1 ⟨d, e, h2⟩ => ?_
  rw [e, lift_some, WX_ok]; exact h2
theorem Ws_isI {tys : List Ty} {Tt : Ty} (h : WX E (a env S) fun x S1 => ∃ ty, tyD x S1 = some ty ∧ tys.contains ty = true ∧ q (.bl (subTy ty Tt)) S1) : WX E (eIsI tys Tt a env S) q := by
  rw [u_eIsI, WX_bnd]
  refine h.mono fun x S1 ⟨ty, e, h1, h2⟩ => ?_
  rw [e]
  dsimp only
  rw [if_pos h1, WX_ok]; exact h2
theorem Ws_attr {cf : String → List String} {cs : List String} {fn : String} (h : WX E (a env S) fun x S1 => ∃ d, attrD cf cs fn x S1 = some d ∧ q d S1) : WX E (eAttr cf cs fn a env S) q := by
  rw [u_eAttr, WX_bnd]
  refine h.mono fun x S1 ⟨d, e, h1⟩ => ?_
  rw [e, lift_some, WX_ok]; exact h1
theorem Ws_eB {m : List D → Option D} (h : WX E (fa env S) fun xs S1 => ∃ d, m xs = some d ∧ q d S1) : WX E (eB m fa env S) q := by
  rw [u_eB, WX_bnd]
  refine h.mono fun x S1 ⟨d, e, h1⟩ => ?_
  rw [e, lift_some, WX_ok]; exact h1
theorem Ws_eBS {m : List D → Option D} (h : WX E (fa env S) fun xs S1 => ∃ d, m (xs.map fun x => seeD x S1) = some d ∧ q d S1) : WX E (eBS m fa env S) q := by
  unfold Ro.eBS
  rw [WX_bnd]
  refine h.mono fun x S1 ⟨d, e, h1⟩ => ?_
  rw [e, lift_some, WX_ok]; exact h1
theorem Ws_meth {cf : String → List String} {cn mn : String} {m : List D → List D → Store → R D} (h : WX E (a env S) fun x S1 => isInst cf cn mn x S1 = true ∧ WX E (fa env S1) fun xs S2 => WX E (fk env S2) fun zs S3 => WX E (m (x :: xs) zs S3) q) : WX E (eMeth cf cn mn m a fa fk env S) q := by
  rw [u_eMeth, WX_bnd]
  refine h.mono fun x S1 ⟨e, h1⟩ => ?_
  rw [if_pos e, WX_bnd]
  refine h1.mono fun xs S2 h2 => ?_
  rw [WX_bnd]; exact h2
theorem Ws_app (h : WX E (a env S) fun l S1 => tyD l S1 = some (.b "list") ∧ WX E (b env S1) fun y S2 => ∃ S3, appM l y S2 = some S3 ∧ q .non S3) : WX E (eApp a b env S) q := by
  unfold eApp
  rw [WX_bnd]
  refine h.mono fun x S1 ⟨e, h1⟩ => ?_
  rw [if_pos e, WX_bnd]
  refine h1.mono fun xs S2 ⟨S3, e2, h2⟩ => ?_
  rw [e2]
  dsimp only
  rw [WX_ok]; exact h2
theorem Ws_frzL (h : WX E (a env S) fun x S1 => WX E (Ro.frzL x S1) q) : WX E (eFrzL a env S) q := by
  unfold eFrzL
  rw [WX_bnd]; exact h
theorem Ws_addM (h : WX E (a env S) fun x S1 => WX E (b env S1) fun y S2 => ∃ l, catS x y S2 = some l ∧ q (.ref S2.length) (S2 ++ [.lst l])) : WX E (eAddM a b env S) q := by
  unfold eAddM
  rw [WX_bnd]
  refine h.mono fun x S1 h1 => ?_
  rw [WX_bnd]
  refine h1.mono fun y S2 ⟨l, e, h2⟩ => ?_
  rw [e]
  dsimp only
  rw [WX_ok]; exact h2
theorem Ws_addS (h : WX E (a env S) fun x S1 => WX E (b env S1) fun y S2 => ∃ l, catS x y S2 = some l ∧ q (.lst l) S2) : WX E (eAddS a b env S) q := by
  unfold eAddS
  rw [WX_bnd]
  refine h.mono fun x S1 h1 => ?_
  rw [WX_bnd]
  refine h1.mono fun y S2 ⟨l, e, h2⟩ => ?_
  rw [e]
  dsimp only
  rw [WX_ok]; exact h2
theorem Ws_eqA {tab : ETab} {cls : List String} {opn : Bool → Bool} (h : WX E (a env S) fun x S1 => WX E (b env S1) fun y S2 => WX E (eqAM tab cls opn x y S2) q) : WX E (eEqA tab cls opn a b env S) q := by
  unfold eEqA
  rw [WX_bnd]
  refine h.mono fun x S1 h1 => ?_
  rw [WX_bnd]; exact h1
theorem Ws_eqO {cn : String} {m : Fn} {opn : Bool → Bool} (h : WX E (a env S) fun x S1 => WX E (b env S1) fun y S2 => WX E (eqM cn m opn x y S2) q) : WX E (eEqO cn m opn a b env S) q := by
  unfold eEqO
  rw [WX_bnd]
  refine h.mono fun x S1 h1 => ?_
  rw [WX_bnd]; exact h1
theorem Ws_lenO {cn : String} {m : Fn} (h : WX E (a env S) fun x S1 => WX E (lenM cn m x S1) q) : WX E (eLenO cn m a env S) q := by
  unfold eLenO
  rw [WX_bnd]; exact h
theorem Ws_frz {cf : String → List String} (h : WX E (frzM cf (a env S)) q) : WX E (eFrz cf a env S) q := by rw [u_eFrz]; exact h
theorem Ws_said {told : PySem.Str} {hp : String → List D → Option D} (k : WX (fun c fs S1 => ∃ d, hp c fs = some d ∧ q d S1) (a env S) fun d S1 => q (.tup [.str told, d]) S1) : WX E (eSaid told hp a env S) q := by
  unfold eSaid
  cases z : a env S with
  | ok d S1 => rw [z, WX_ok] at k; dsimp only; rw [WX_ok]; exact k
  | err c fs S1 =>
    rw [z, WX_err] at k
    obtain ⟨d, h1, h2⟩ := k
    dsimp only
    rw [h1, lift_some, WX_ok]; exact h2
  | bad => rw [z, WX_bad] at k; exact k.elim
theorem Ws_raise {cn : String} (h : WX E (fa env S) fun fs S1 => E cn fs S1) : WX E (sRaise cn fa env S) qc := by
  unfold sRaise
  rw [WX_bnd]
  refine h.mono fun fs S1 h1 => ?_
  rw [WX_err]; exact h1
theorem Ws_aChk {n : Nat} (h : WX E (fa env S) fun ds S1 => (ds.length = n ∧ ds.length ≤ 1000) ∧ ql ds S1) : WX E (aChk n fa env S) ql := by
  unfold aChk
  rw [WX_bnd]
  refine h.mono fun fs S1 ⟨h1, h2⟩ => ?_
  rw [if_pos h1, WX_ok]; exact h2
theorem Ws_new {cn : String} {m : List D → List D → Store → R D} {xs zs : List D} (h : WX E (m (.ref S.length :: xs) zs (S ++ [.ins cn []])) fun r S1 => r = .non ∧ q (.ref S.length) S1) : WX E (newM cn m xs zs S) q := by
  unfold newM
  rw [WX_bnd]
  refine h.mono fun r S1 ⟨h1, h2⟩ => ?_
  subst h1
  dsimp only
  rw [WX_ok]; exact h2
theorem Ws_frzI {cf : String → List String} {r : R D} (h : WX E r fun x S1 => ∃ n cn fs, x = .ref n ∧ S1[n]? = some (.ins cn fs) ∧ fs.map (·.1) = cf cn ∧ q (.obj cn (fs.map (·.2))) (S1.set n .dead)) : WX E (frzM cf r) q := by
  unfold frzM
  rw [WX_bnd]
  refine h.mono fun x S1 ⟨n, cn, fs, h1, h2, h3, h4⟩ => ?_
  subst h1
  dsimp only
  rw [h2]
  dsimp only
  rw [if_pos h3, WX_ok]; exact h4
theorem Ws_frzFn {cf : String → List String} {m : List D → List D → Store → R D} (h : WX E (fa env S) fun xs S1 => WX E (fk env S1) fun zs S2 => WX E (frzM cf (m xs zs S2)) q) : WX E (eFrz cf (eFn m fa fk) env S) q := by
  rw [u_eFrz, u_eFn]
  unfold frzM at h ⊢
  rw [bnd_assoc, WX_bnd]
  refine h.mono fun xs S1 h1 => ?_
  rw [bnd_assoc, WX_bnd]
  exact h1
theorem Ws_listM (h : WX E (fa env S) fun xs S1 => ∃ l, (xs = [.tup l] ∨ xs = [.lst l]) ∧ q (.ref S1.length) (S1 ++ [.lst l])) : WX E (eListM fa env S) q := by
  unfold eListM
  rw [WX_bnd]
  refine h.mono fun xs S1 ⟨l, h1, h2⟩ => ?_
  rcases h1 with rfl | rfl <;> (dsimp only; rw [WX_ok]; exact h2)
theorem Ws_frzLr {n : Nat} {l : List D} (h : S[n]? = some (.lst l)) (k : q (.lst l) (S.set n .dead)) : WX E (frzL (.ref n) S) q := by
  unfold frzL
  dsimp only
  rw [h]
  dsimp only
  rw [WX_ok]; exact k
theorem Ws_frzLl {l : List D} (k : q (.lst l) S) : WX E (frzL (.lst l) S) q := by
  unfold frzL
  dsimp only
  rw [WX_ok]; exact k
theorem Ws_itR1L {k : Int} (h : 0 ≤ k ∧ k < 4611686018427387904) (hq : ql (rngL 0 k.toNat) S) : WX E (itR1 (aCons (eC (.int k)) aNil) env S) ql := by
  rw [u_itR1, u_aCons, u_eC, bnd_ok, u_aNil, bnd_ok, bnd_ok]
  dsimp only
  rw [if_pos (by simp; omega), WX_ok]; exact hq
theorem Ws_ok {α : Type} {v : α} {q : α → Store → Prop} (h : q v S) : WX E (R.ok v S) q := by rw [WX_ok]; exact h
theorem Ws_itR1 (h : WX E (fa env S) fun ds S1 => ∃ k : Nat, ds = [.int k] ∧ k < 4611686018427387904 ∧ ql (rngL 0 k) S1) : WX E (itR1 fa env S) ql := by
  rw [u_itR1, WX_bnd]
  refine h.mono fun x S1 ⟨k, e, h1, h2⟩ => ?_
  subst e
  dsimp only
  rw [if_pos (by simp; omega), WX_ok, Int.toNat_natCast]; exact h2
theorem Ws_itR2 (h : WX E (fa env S) fun ds S1 => ∃ i j : Int, ds = [.int i, .int j] ∧ (small62 i && small62 j) = true ∧ ql (rngL i (j - i).toNat) S1) : WX E (itR2 fa env S) ql := by
  rw [u_itR2, WX_bnd]
  refine h.mono fun x S1 ⟨i, j, e, h1, h2⟩ => ?_
  subst e
  dsimp only
  rw [if_pos h1, WX_ok]; exact h2
theorem Ws_itAny (h : WX E (a env S) fun x S1 => ∃ l, (x = .lst l ∨ x = .tup l) ∧ ql l S1) : WX E (itAny a env S) ql := by
  rw [u_itAny, WX_bnd]
  refine h.mono fun x S1 ⟨l, e, h1⟩ => ?_
  rcases e with rfl | rfl <;> (dsimp only; rw [WX_ok]; exact h1)
theorem Ws_itEnum (h : WX E (fa env S) fun ds S1 => ∃ l, ds = [.lst l] ∧ ql (enumL 0 l) S1) : WX E (itEnum fa env S) ql := by
  unfold Ro.itEnum
  rw [WX_bnd]
  refine h.mono fun x S1 ⟨l, e, h1⟩ => ?_
  subst e
  dsimp only
  rw [WX_ok]; exact h1
/-- the rest behind a statement -/
@[irreducible] def Nx (E : String → List D → Store → Prop) (t : ES) (qc : Ctl → Store → Prop) : Ctl → Store → Prop := fun c S1 => match c with
  | .nx e => WX E (t e S1) qc
  | c => qc c S1
theorem Ws_seq (h : WX E (s env S) (Nx E t qc)) : WX E (sSeq s t env S) qc := by
  rw [u_sSeq, WX_bnd]
  refine h.mono fun c S1 h1 => ?_
  unfold Nx at h1
  cases c with
  | nx e => exact h1
  | _ => dsimp only; rw [WX_ok]; exact h1
theorem Nx.nx {e : Env} (h : WX E (t e S) qc) : Nx E t qc (.nx e) S := by unfold Nx; exact h
theorem Nx.rt (h : qc (.rt d) S) : Nx E t qc (.rt d) S := by unfold Nx; exact h
theorem Ws_set (h : WX E (e env S) fun d S1 => qc (.nx (env.set i (some d))) S1) : WX E (sSet i e env S) qc := by
  rw [u_sSet, WX_bnd]
  refine h.mono fun x S1 h1 => ?_
  rw [WX_ok]; exact h1
theorem Ws_pass (h : qc (.nx env) S) : WX E (sPass env S) qc := by rw [u_sPass, WX_ok]; exact h
theorem Ws_iff (h : WX E (f env S) fun k S1 => Br k (WX E (s env S1) qc) (WX E (t env S1) qc)) : WX E (sIf f s t env S) qc := by
  rw [u_sIf, WX_bnd]
  refine h.mono fun k S1 ⟨h1, h2⟩ => ?_
  cases k with
  | true => rw [if_pos rfl]; exact h1 rfl
  | false => rw [if_neg Bool.false_ne_true]; exact h2 rfl
theorem Ws_ret (h : WX E (e env S) fun d S1 => qc (.rt d) S1) : WX E (sRet e env S) qc := by
  rw [u_sRet, WX_bnd]
  refine h.mono fun x S1 h1 => ?_
  rw [WX_ok]; exact h1
theorem Ws_expr (h : WX E (e env S) fun _ S1 => qc (.nx env) S1) : WX E (sExpr e env S) qc := by
  rw [u_sExpr, WX_bnd]
  refine h.mono fun x S1 h1 => ?_
  rw [WX_ok]; exact h1
theorem Ws_par2 (h : WX E (fa env S) fun xs S1 => ∃ x y, xs = [x, y] ∧ qc (.nx ((env.set i (some x)).set j (some y))) S1) : WX E (sPar2 i j fa env S) qc := by
  rw [u_sPar2, WX_bnd]
  refine h.mono fun xs S1 ⟨x, y, e, h1⟩ => ?_
  subst e
  dsimp only
  rw [WX_ok]; exact h1
theorem Ws_par3 {l : Nat} (h : WX E (fa env S) fun xs S1 => ∃ x y z, xs = [x, y, z] ∧ qc (.nx (((env.set i (some x)).set j (some y)).set l (some z))) S1) : WX E (sPar3 i j l fa env S) qc := by
  unfold sPar3
  rw [WX_bnd]
  refine h.mono fun xs S1 ⟨x, y, z, e, h1⟩ => ?_
  subst e
  dsimp only
  rw [WX_ok]; exact h1
theorem Ws_unp {p : Pat} (h : WX E (e env S) fun d S1 => ∃ env', p d env = some env' ∧ qc (.nx env') S1) : WX E (sUnp p e env S) qc := by
  rw [u_sUnp, WX_bnd]
  refine h.mono fun x S1 ⟨e1, h1, h2⟩ => ?_
  rw [h1]
  dsimp only
  rw [WX_ok]; exact h2
theorem Ws_forr {it : AX} {tg : Pat} (h : WX E (it env S) fun xs S1 => WX E (Ro.loop tg s xs env S1) qc) : WX E (sFor it tg s env S) qc := by
  rw [u_sFor, WX_bnd]; exact h
theorem Ws_setAttr {cs : List String} {fn : String} (h : WX E (e env S) fun y S1 => WX E (a env S1) fun x S2 => ∃ n cn fs, x = .ref n ∧ S2[n]? = some (.ins cn fs) ∧ (cs.contains cn && decide (fs.length < 1000)) = true ∧ qc (.nx env) (S2.set n (.ins cn (setF fn y fs)))) : WX E (sSetAttr cs fn a e env S) qc := by
  rw [u_sSetAttr, WX_bnd]
  refine h.mono fun y S1 h1 => ?_
  rw [WX_bnd]
  refine h1.mono fun x S2 ⟨n, cn, fs, e1, e2, e3, h2⟩ => ?_
  subst e1
  dsimp only
  rw [e2]
  dsimp only
  rw [if_pos e3, WX_ok]; exact h2
theorem Ws_setIt {o v : EX} (h : WX E (v env S) fun z S1 => WX E (o env S1) fun x S2 => WX E (a env S2) fun y S3 => ∃ S4, setM x y z S3 = some S4 ∧ qc (.nx env) S4) : WX E (sSetIt o a v env S) qc := by
  rw [u_sSetIt, WX_bnd]
  refine h.mono fun z S1 h1 => ?_
  rw [WX_bnd]
  refine h1.mono fun x S2 h2 => ?_
  rw [WX_bnd]
  refine h2.mono fun y S3 ⟨S4, e, h3⟩ => ?_
  rw [e]
  dsimp only
  rw [WX_ok]; exact h3
/-- behind a def's body -/
@[irreducible] def Fq (q : D → Store → Prop) : Ctl → Store → Prop := fun c S1 => match c with
    | .rt d => q d S1
    | .nx _ => q .non S1
    | _ => False
theorem Fq.rt (h : q d S) : Fq q (.rt d) S := by unfold Fq; exact h
theorem Fq.nx {e : Env} (h : q .non S) : Fq q (.nx e) S := by unfold Fq; exact h
/-- a def's body -/
theorem Ws_fn {body : ES} {ds : List D} {env : Env} (he : ds.map some ++ List.replicate (n - ds.length) none = env) (h : WX E (body env S) (Fq q)) : WX E (fnM n body ds S) q := by
  rw [u_fnM, he, WX_bnd]
  refine h.mono fun c S1 h1 => ?_
  unfold Fq at h1
  cases c with
  | rt d => dsimp only; rw [WX_ok]; exact h1
  | nx e => dsimp only; rw [WX_ok]; exact h1
  | bk e => exact h1.elim
  | ct e => exact h1.elim
theorem Ws_lcc {vs : List Nat} {it : AX} {tg : Pat} (h : WX E (it env S) fun xs S1 => WX E (lcLoop tg f a (wipeE env vs) xs [] S1) fun ys S2 => q (.lst ys) S2) : WX E (eLC vs it tg f a env S) q := by
  rw [u_eLC, WX_bnd]
  refine h.mono fun xs S1 h1 => ?_
  rw [WX_bnd]
  refine h1.mono fun ys S2 h2 => ?_
  rw [WX_ok]; exact h2
end
/-- grown by what is not looked at -/
def Ext (S S' : Store) : Prop := ∃ X, S' = S ++ X
theorem Ext.refl (S : Store) : Ext S S := ⟨[], by simp⟩
theorem Ext.trans {S S1 S2 : Store} (h : Ext S S1) (k : Ext S1 S2) : Ext S S2 := by
  obtain ⟨X, rfl⟩ := h
  obtain ⟨Y, rfl⟩ := k
  exact ⟨X ++ Y, by rw [List.append_assoc]⟩
theorem Ext.app (S X : Store) : Ext S (S ++ X) := ⟨X, rfl⟩
theorem Ext.at {S S' : Store} (h : Ext S S') {n : Nat} (hn : n < S.length) : S'[n]? = S[n]? := by
  obtain ⟨X, rfl⟩ := h
  exact List.getElem?_append_left hn
theorem Ext.len {S S' : Store} (h : Ext S S') : S.length ≤ S'.length := by
  obtain ⟨X, rfl⟩ := h
  simp
theorem Ext.cell {S S' : Store} (h : Ext S S') {n : Nat} {c : Cell} (hn : S[n]? = some c) : S'[n]? = some c := by
  rw [h.at (List.getElem?_eq_some_iff.mp hn).1]; exact hn
theorem WX.useE {α : Type} {E : String → List D → Store → Prop} {r : R α} {v : α} {S : Store} {q : α → Store → Prop} (h : W r fun d S' => d = v ∧ Ext S S') (k : ∀ S1, Ext S S1 → q v S1) : WX E r q :=
  WX.use h fun d S1 ⟨e, x⟩ => by subst e; exact k S1 x
theorem W.ext {α : Type} {r : R α} {v : α} {S X : Store} (h : r = .ok v (S ++ X)) : W r fun d S' => d = v ∧ Ext S S' := W.eq h ⟨rfl, X, rfl⟩
/-- what a loop's body leaves -/
@[irreducible] def Lp (I : Env → Store → Prop) (qc : Ctl → Store → Prop) : Ctl → Store → Prop := fun c S1 => match c with
  | .nx e => I e S1
  | .ct e => I e S1
  | .bk e => qc (.nx e) S1
  | .rt d => qc (.rt d) S1
theorem Lp.nx {I : Env → Store → Prop} {qc : Ctl → Store → Prop} {e : Env} {S : Store} (h : I e S) : Lp I qc (.nx e) S := by unfold Lp; exact h
theorem Lp.ct {I : Env → Store → Prop} {qc : Ctl → Store → Prop} {e : Env} {S : Store} (h : I e S) : Lp I qc (.ct e) S := by unfold Lp; exact h
theorem Lp.bk {I : Env → Store → Prop} {qc : Ctl → Store → Prop} {e : Env} {S : Store} (h : qc (.nx e) S) : Lp I qc (.bk e) S := by unfold Lp; exact h
theorem Lp.rt {I : Env → Store → Prop} {qc : Ctl → Store → Prop} {d : D} {S : Store} (h : qc (.rt d) S) : Lp I qc (.rt d) S := by unfold Lp; exact h
/-- a loop by what stays -/
theorem WX.loop {E : String → List D → Store → Prop} {tg : Pat} {body : ES} {I : Nat → Env → Store → Prop} {q : Ctl → Store → Prop} : ∀ {xs : List D} {k : Nat} {env : Env} {S : Store}, I k env S →
    (∀ (i : Nat) x env S, k ≤ i → xs[i - k]? = some x → I i env S → ∃ env1, tg x env = some env1 ∧ WX E (body env1 S) (Lp (I (i + 1)) q)) →
    (∀ env S, I (k + xs.length) env S → q (.nx env) S) → WX E (Ro.loop tg body xs env S) q
  | [], k, env, S, h, _, fin => by rw [Ro.loop, WX_ok]; exact fin env S h
  | x :: xs, k, env, S, h, step, fin => by
    obtain ⟨env1, e1, h1⟩ := step k x env S (Nat.le_refl _) (by simp) h
    unfold Ro.loop
    rw [e1]
    dsimp only
    rw [WX_bnd]
    refine h1.mono fun c S1 hc => ?_
    have next : ∀ e, I (k + 1) e S1 → WX E (Ro.loop tg body xs e S1) q := fun e he => WX.loop (k := k + 1) he (fun i y env S hi hy => step i y env S (by omega) (by
      have : i - k = (i - (k + 1)) + 1 := by omega
      rw [this, List.getElem?_cons_succ]
      exact hy)) (fun env S hI => fin env S (by
      have : k + (x :: xs).length = k + 1 + xs.length := by simp; omega
      rw [this]
      exact hI))
    unfold Lp at hc
    cases c with
    | nx e => exact next e hc
    | ct e => exact next e hc
    | bk e => dsimp only; rw [WX_ok]; exact hc
    | rt d => dsimp only; rw [WX_ok]; exact hc
theorem Ws_loop {E : String → List D → Store → Prop} {I : Env → Store → Prop} {tg : Pat} {body : ES} {xs : List D} {env : Env} {S : Store} {qc : Ctl → Store → Prop} (h0 : I env S)
    (step : ∀ x ∈ xs, ∀ env S, I env S → ∃ env1, tg x env = some env1 ∧ WX E (body env1 S) (Lp I qc)) (fin : ∀ env S, I env S → qc (.nx env) S) : WX E (Ro.loop tg body xs env S) qc := by
  refine WX.loop (I := fun _ => I) (k := 0) h0 (fun i x env S _ hx hI => ?_) (fun env S hI => fin env S hI)
  obtain ⟨e1, h1, h2⟩ := step x (List.mem_of_getElem? hx) env S hI
  exact ⟨e1, h1, h2⟩
/-- the part of an index -/
def atI (l : List D) : D → D
  | .int i => l.getD i.toNat .non
  | _ => .non
theorem rng_atI {l : List D} : (rngL 0 l.length).map (atI l) = l := by
  apply List.ext_getElem?
  intro i
  rw [List.getElem?_map]
  by_cases h : i < l.length
  · have e : (rngL 0 l.length)[i]? = some (.int (i : Int)) := by simp [rngL, h]
    rw [e]
    simp [h, atI]
  · have e : (rngL 0 l.length)[i]? = none := by simp [rngL]; omega
    rw [e]
    simp; omega
theorem rng_mem {n : Nat} {x : D} (h : x ∈ rngL 0 n) : ∃ i : Nat, i < n ∧ x = .int (i : Int) := by
  obtain ⟨i, hi⟩ := List.mem_iff_getElem?.mp h
  obtain ⟨hlt, rfl⟩ := rng_get hi
  exact ⟨i, hlt, by rw [Int.zero_add]⟩
/-- a comprehension whose parts turn nothing -/
theorem Ws_lcm {E : String → List D → Store → Prop} {tg : Pat} {el : EX} {env0 : Env} {xs : List D} {S : Store} {ql : List D → Store → Prop} (g : D → D) (hl : xs.length ≤ 16777216)
    (h : ∀ x ∈ xs, ∃ e, tg x env0 = some e ∧ W (el e S) fun d S' => d = g x ∧ S' = S) (k : ql (xs.map g) S) : WX E (lcLoop tg bYes el env0 xs [] S) ql := by
  refine WX.use (p := ql) (W.lc (I := fun i acc S' => acc = (xs.take i).map g ∧ S' = S) (k := 0) ⟨rfl, rfl⟩ (by simpa using hl) (fun i x acc S' _ hx hI => ?_) (fun acc S' hI => ?_)) fun _ _ h => h
  · obtain ⟨rfl, rfl⟩ := hI
    rw [Nat.sub_zero] at hx
    obtain ⟨e, h1, h2⟩ := h x (List.mem_of_getElem? hx)
    refine ⟨e, h1, ?_⟩
    rw [u_bYes, W_ok, if_pos rfl]
    refine h2.mono fun d S1 ⟨h3, h4⟩ => ⟨?_, h4⟩
    obtain ⟨hlt, rfl⟩ := List.getElem?_eq_some_iff.mp hx
    rw [h3, List.take_succ_eq_append_getElem hlt, List.map_append]
    rfl
  · obtain ⟨rfl, rfl⟩ := hI
    rw [Nat.zero_add, List.take_length]
    exact k
/-- a comprehension by what stays -/
theorem Ws_lcI {E : String → List D → Store → Prop} (I : Nat → List D → Store → Prop) {tg : Pat} {el : EX} {env0 : Env} {xs : List D} {S : Store} {ql : List D → Store → Prop} (h0 : I 0 [] S) (hl : xs.length ≤ 16777216)
    (step : ∀ i x acc S, xs[i]? = some x → I i acc S → ∃ e, tg x env0 = some e ∧ W (el e S) fun y S2 => I (i + 1) (acc ++ [y]) S2) (fin : ∀ acc S, I xs.length acc S → ql acc S) : WX E (lcLoop tg bYes el env0 xs [] S) ql := by
  refine WX.use (p := ql) (W.lc (I := I) (k := 0) h0 (by simpa using hl) (fun i x acc S _ hx hI => ?_) (fun acc S hI => fin acc S (by rw [Nat.zero_add] at hI; exact hI))) fun _ _ h => h
  obtain ⟨e, h1, h2⟩ := step i x acc S (by simpa using hx) hI
  refine ⟨e, h1, ?_⟩
  rw [u_bYes, W_ok, if_pos rfl]
  exact h2
theorem exI {α : Sort _} {p q : α → Prop} (w : α) (h1 : p w) (h2 : q w) : ∃ d, p d ∧ q d := ⟨w, h1, h2⟩
theorem exI2 {α : Sort _} {p q r : α → Prop} (w : α) (h1 : p w) (h2 : q w) (h3 : r w) : ∃ d, p d ∧ q d ∧ r d := ⟨w, h1, h2, h3⟩
theorem v_add {i j : Int} : addD (.int i) (.int j) = some (.int (i + j)) := rfl
theorem v_sub {i j : Int} : subD (.int i) (.int j) = some (.int (i - j)) := rfl
theorem v_mul {i j : Int} (h : mulOk i j = true) : mulD (.int i) (.int j) = some (.int (i * j)) := by rw [o_mul, if_pos h]
theorem v_eqi {i j : Int} : eqD (.int i) (.int j) = some (.bl (decide (i = j))) := by unfold eqD; rw [if_pos (by rfl), pyEq_int]
theorem v_nei {i j : Int} : neD (.int i) (.int j) = some (.bl (!decide (i = j))) := by unfold neD; rw [if_pos (by rfl), pyEq_int]
theorem v_eqs {i j : Str} : eqD (.str i) (.str j) = some (.bl (decide (i = j))) := by unfold eqD; rw [if_pos (by rfl), pyEq_str]
theorem v_nes {i j : Str} : neD (.str i) (.str j) = some (.bl (!decide (i = j))) := by unfold neD; rw [if_pos (by rfl), pyEq_str]
/-- a named tail and what it is -/
class Tl {α : Sort _} (a : α) (b : outParam α) : Prop where
  e : a = b
theorem Ws_tl {E : String → List D → Store → Prop} {s t : ES} {env : Env} {S : Store} {qc : Ctl → Store → Prop} [z : Tl s t] (h : WX E (t env S) qc) : WX E (s env S) qc := by rw [z.e]; exact h
end Ro
end
/-- one step of a mirror's run -/
local macro_rules
  | `(tactic| wtm_at "w1") => `(tactic| with_reducible first
    | refine Ro.Ws_var (by with_unfolding_all rfl) ?_
    | refine Ro.Ws_c ?_
    | refine Ro.Ws_op ?_
    | refine Ro.Ws_acons ?_
    | refine Ro.Ws_anil ?_
    | refine Ro.Ws_idx ?_
    | refine Ro.Ws_fnC ?_
    | (refine Ro.Ws_call (by simp only [Ro.u_pick0, Ro.u_pick1, if_true, if_false, List.getElem?_cons_zero, List.getElem?_cons_succ, Option.toList_some, List.cons_append, List.nil_append, List.append_nil, Nat.one_ne_zero, if_pos, if_neg, ↓reduceIte, reduceCtorEq, Nat.reduceEqDiff]; with_unfolding_all rfl) (by with_unfolding_all exact ⟨rfl, rfl, rfl⟩) ?_)
    | refine Ro.Ws_bVal ?_
    | refine Ro.Ws_bOf ?_
    | refine Ro.Ws_bAnd ?_
    | refine Ro.Ws_bOr ?_
    | refine Ro.Ws_bNot ?_
    | refine Ro.Ws_eAnd ?_
    | refine Ro.Ws_eOr ?_
    | refine Ro.Ws_eOrT ?_
    | refine Ro.Ws_eNot ?_
    | refine Ro.Ws_eIf ?_
    | refine Ro.Ws_chain ?_
    | refine Ro.Ws_oNone ?_
    | refine Ro.Ws_oSome ?_
    | refine Ro.Ws_cut ?_
    | refine Ro.Ws_isI ?_
    | refine Ro.Ws_attr ?_
    | refine Ro.Ws_eB ?_
    | refine Ro.Ws_eBS ?_
    | refine Ro.Ws_meth ?_
    | refine Ro.Ws_tup ?_
    | refine Ro.Ws_lst ?_
    | refine Ro.Ws_lstM ?_
    | refine Ro.Ws_opS ?_
    | refine Ro.Ws_un ?_
    | refine Ro.Ws_app ?_
    | refine Ro.Ws_frzL ?_
    | refine Ro.Ws_addM ?_
    | refine Ro.Ws_addS ?_
    | refine Ro.Ws_eqA ?_
    | refine Ro.Ws_eqO ?_
    | refine Ro.Ws_lenO ?_
    | refine Ro.Ws_listM ?_
    | refine Ro.Ws_frzLr (by assumption) ?_
    | refine Ro.Ws_frzLl ?_
    | refine Ro.Ws_frzFn ?_
    | refine Ro.Ws_frz ?_
    | refine Ro.Ws_itR1L (by decide) ?_
    | refine Ro.Ws_itR1 ?_
    | refine Ro.Ws_itR2 ?_
    | refine Ro.Ws_itAny ?_
    | refine Ro.Ws_itEnum ?_
    | refine Ro.Ws_seq ?_
    | (refine Ro.Nx.nx ?_; try simp only [List.set_cons_zero, List.set_cons_succ])
    | refine Ro.Nx.rt ?_
    | refine Ro.Fq.rt ?_
    | refine Ro.Fq.nx ?_
    | refine Ro.Ws_ok ?_
    | refine Ro.W.ofX ?_
    | refine Ro.Ws_said ?_
    | refine Ro.Ws_raise ?_
    | refine Ro.Ws_aChk ?_
    | refine Ro.Ws_new ?_
    | refine Ro.Ws_frzI ?_
    | refine Ro.Lp.rt ?_
    | refine Ro.Lp.bk ?_
    | refine Ro.Ws_set ?_
    | refine Ro.Ws_iff ?_
    | refine Ro.Ws_ret ?_
    | refine Ro.Ws_expr ?_
    | refine Ro.Ws_pass ?_
    | refine Ro.Ws_par2 ?_
    | refine Ro.Ws_par3 ?_
    | refine Ro.Ws_unp ?_
    | refine Ro.Ws_forr ?_
    | refine Ro.Ws_setAttr ?_
    | refine Ro.Ws_setIt ?_
    | refine Ro.Ws_lcc ?_)
/-- .. of its side conditions -/
local macro_rules
  | `(tactic| wtm_at "w2") => `(tactic| first
    | with_reducible refine Ro.Br.yes ?_
    | with_reducible refine Ro.Br.no ?_
    | with_reducible refine Ro.Br.tt (by assumption) ?_
    | with_reducible refine Ro.Br.ff (by assumption) ?_
    | refine Ro.Br.tt (by decide) ?_
    | refine Ro.Br.ff (by decide) ?_
    | refine Ro.Br.tt (by rfl) ?_
    | refine Ro.Br.ff (by rfl) ?_
    | (with_reducible apply Ro.Br.tt; focus (simp; done))
    | (with_reducible apply Ro.Br.ff; focus (simp; done))
    | with_reducible refine Exists.intro _ (And.intro (by assumption) ?_)
    | with_reducible refine Exists.intro _ (And.intro Ro.v_add ?_)
    | with_reducible refine Exists.intro _ (And.intro Ro.v_sub ?_)
    | with_reducible refine Exists.intro _ (And.intro (Ro.v_mul (by assumption)) ?_)
    | with_reducible refine Exists.intro _ (And.intro Ro.v_eqi ?_)
    | with_reducible refine Exists.intro _ (And.intro Ro.v_nei ?_)
    | with_reducible refine Exists.intro _ (And.intro Ro.v_eqs ?_)
    | with_reducible refine Exists.intro _ (And.intro Ro.v_nes ?_)
    | with_reducible refine And.intro (by assumption) ?_
    | with_reducible refine Exists.intro _ (And.intro rfl ?_)
    | with_reducible refine Exists.intro _ (And.intro (Or.inl rfl) ?_)
    | with_reducible refine Exists.intro _ (And.intro (Or.inr rfl) ?_)
    | (with_reducible refine And.intro ?_ ?_; focus (with_unfolding_all exact ⟨rfl, Nat.le_of_ble_eq_true rfl⟩))
    | (with_reducible refine And.intro ?_ ?_; focus (with_unfolding_all exact Nat.le_of_ble_eq_true rfl))
    | (with_reducible refine And.intro ?_ ?_; focus (with_unfolding_all rfl))
    | (with_reducible apply Ro.exI2; focus (with_unfolding_all rfl); focus (with_unfolding_all rfl))
    | (with_reducible apply Ro.exI; focus (with_unfolding_all rfl))
    | (with_reducible refine Exists.intro _ (Exists.intro _ (And.intro rfl ?_)))
    | (with_reducible refine And.intro ?_ ?_; focus omega))
local macro_rules
  | `(tactic| apply_rules only [$x:ident]) => `(tactic| ((first | refine Ro.W.ofX ?_ | skip); refine Ro.Ws_fn (by simp only [List.map_cons, List.map_nil, List.length_cons, List.length_nil, Nat.reduceAdd, Nat.reduceSub, List.replicate_succ, List.replicate_zero, List.replicate, List.cons_append, List.nil_append]; with_unfolding_all rfl) ?_; first | rw [$x:ident] | unfold $x:ident))
/-- a store that grew from another one -/
local macro_rules
  | `(tactic| wtm_at "wext") => `(tactic| repeat first | assumption | exact Ro.Ext.refl _ | (with_reducible refine Ro.Ext.trans ?_ (by assumption)) | with_reducible refine Ro.Ext.trans ?_ (Ro.Ext.app _ _))
/-- a mirror's run, as far as it goes by itself; the facts are equations of calls and operations -/
local macro_rules
  | `(tactic| apply_rules) => `(tactic| repeat first | wtm_at "w1" | wtm_at "w2" | with_reducible refine Ro.Ws_tl ?_)
  | `(tactic| apply_rules [$ys,*]) => do
    let xs ← ys.getElems.mapM fun y => match y with
      | `(Lean.Parser.Tactic.SolveByElim.arg| $x:term) => pure x
      | _ => Lean.Macro.throwUnsupported
    let ls ← xs.mapM fun x => `(Lean.Parser.Tactic.simpLemma| $x:term)
    let mut t ← `(tactic| first | (with_reducible apply Ro.Br.tt; focus (simp only [$ls,*, Bool.not_true, Bool.not_false, decide_true, decide_false, Bool.and_true, Bool.true_and, Bool.and_false, Bool.false_and, Bool.or_true, Bool.true_or, Bool.or_false, Bool.false_or, id_eq, decide_eq_true_eq, Bool.false_eq_true, not_false_eq_true, not_true_eq_false]; done)) | (with_reducible apply Ro.Br.ff; focus (simp only [$ls,*, Bool.not_true, Bool.not_false, decide_true, decide_false, Bool.and_true, Bool.true_and, Bool.and_false, Bool.false_and, Bool.or_true, Bool.true_or, Bool.or_false, Bool.false_or, id_eq, decide_eq_true_eq, Bool.false_eq_true, Bool.true_eq_false, not_false_eq_true, not_true_eq_false]; done)))
    for x in xs.reverse do
      t ← `(tactic| first | refine Ro.WX.eq (by with_reducible apply $x) ?_ | (refine Ro.WX.useE (by with_reducible apply $x) ?_; intro _ _) | refine Ro.WX.eqE (by with_reducible apply $x) ?_ | (with_reducible apply Ro.exI; focus (with_reducible apply $x)) | $t:tactic)
    `(tactic| repeat first | $t:tactic | wtm_at "w1" | wtm_at "w2" | with_reducible refine Ro.Ws_tl ?_)
section
set_option Elab.async false
set_option linter.all false
set_option maxRecDepth 100000
set_option maxHeartbeats 4000000
namespace Ro
open PySem PySem.Spec PyProof.Rows L2 L2H LamX PySem.RoXb
noncomputable section
def cf : String → List String
  | "NoSpending" => ["part"]
  | "NoRule" => ["part"]
  | "NoJourney" => ["part"]
  | "NoText" => ["row"]
  | "TooMany" => ["many", "most"]
  | "NoRate" => ["money", "day"]
  | "NoDay" => ["day"]
  | "NoName" => ["name"]
  | "NoHeads" => ["heads"]
  | "Journey" => ["own_towns", "own_ends", "own_lines", "own_sums", "own_past"]
  | _ => []
def cnsL : List String := ["NoJourney", "NoDay"]
def tyX : List Ty := [.o "NoRates", .o "NoSpot", .o "NoShare", .o "NoBook", .o "NoPlace", .o "Absent", .o "Nothing", .o "NoTable", .o "NoLine", .o "NoSpending", .o "NoRule", .o "NoJourney", .o "NoText", .o "TooMany", .o "NoRate", .o "NoDay", .o "NoName", .o "NoHeads", .b "ValueError", .b "LookupError", .b "IndexError", .b "KeyError", .b "ZeroDivisionError"]
def isxT : List (String × Ty) := [("NoJourney", .o "NoJourney"), ("NoJourney", .b "ValueError"), ("NoDay", .o "NoDay"), ("NoDay", .b "LookupError"), ("NoDay", .b "IndexError")]
def isx (cn : String) (t : Ty) : Bool := decide ((cn, t) ∈ isxT)
def tysL : List Ty := [.b "NoneType", .b "bool", .b "int", .b "str", .b "tuple", .b "list", .b "dict", .o "Journey"]
def b__law_towns : ES :=
  (sSeq (sSet 1 (eIdxB (eLst (aCons (eC (.int 1)) (aCons (eOp addD (eC (.int 1)) (eFn (callM m__law_take 2 0 2 [(0, 0), (0, 1)] []) (aCons (eVar 0) (aCons (eC (.int 4)) aNil)) aNil)) (aCons (eOp addD (eC (.int 1)) (eFn (callM m__law_take 2 0 2 [(0, 0), (0, 1)] []) (aCons (eVar 0) (aCons (eC (.int 30)) aNil)) aNil)) aNil)))) (eFn (callM m__law_take 2 0 2 [(0, 0), (0, 1)] []) (aCons (eVar 0) (aCons (eC (.int 3)) aNil)) aNil)))
  (sRet (eB bTuple (aCons (eLC [2] (itR1 (aCons (eVar 1) aNil)) (pName 2) bYes (eFn (callM m__law_take 2 0 2 [(0, 0), (0, 1)] []) (aCons (eVar 0) (aCons (eC (.int 4)) aNil)) aNil)) aNil))))
def m__law_towns : Fn := fnM 3 b__law_towns
def t__law_towns_2 : ES := (sRet (eB bTuple (aCons (eLC [2] (itR1 (aCons (eVar 1) aNil)) (pName 2) bYes (eFn (callM m__law_take 2 0 2 [(0, 0), (0, 1)] []) (aCons (eVar 0) (aCons (eC (.int 4)) aNil)) aNil)) aNil)))
instance : Tl t__law_towns_2 (sRet (eB bTuple (aCons (eLC [2] (itR1 (aCons (eVar 1) aNil)) (pName 2) bYes (eFn (callM m__law_take 2 0 2 [(0, 0), (0, 1)] []) (aCons (eVar 0) (aCons (eC (.int 4)) aNil)) aNil)) aNil))) := ⟨rfl⟩
theorem x__law_towns : b__law_towns = (sSeq (sSet 1 (eIdxB (eLst (aCons (eC (.int 1)) (aCons (eOp addD (eC (.int 1)) (eFn (callM m__law_take 2 0 2 [(0, 0), (0, 1)] []) (aCons (eVar 0) (aCons (eC (.int 4)) aNil)) aNil)) (aCons (eOp addD (eC (.int 1)) (eFn (callM m__law_take 2 0 2 [(0, 0), (0, 1)] []) (aCons (eVar 0) (aCons (eC (.int 30)) aNil)) aNil)) aNil)))) (eFn (callM m__law_take 2 0 2 [(0, 0), (0, 1)] []) (aCons (eVar 0) (aCons (eC (.int 3)) aNil)) aNil))) t__law_towns_2) := rfl
def b__law_marks (cn : String) : ES :=
  (sSeq (sSet 1 (eLst (aCons (eIsX (isx cn (.o "NoRates")) (eVar 0)) (aCons (eIsX (isx cn (.o "NoSpot")) (eVar 0)) (aCons (eIsX (isx cn (.o "NoShare")) (eVar 0)) (aCons (eIsX (isx cn (.o "NoBook")) (eVar 0)) aNil))))))
  (sSeq (sSet 1 (eOp addD (eVar 1) (eLst (aCons (eIsX (isx cn (.o "NoPlace")) (eVar 0)) (aCons (eIsX (isx cn (.o "Absent")) (eVar 0)) (aCons (eIsX (isx cn (.o "Nothing")) (eVar 0)) (aCons (eIsX (isx cn (.o "NoTable")) (eVar 0)) aNil)))))))
  (sSeq (sSet 1 (eOp addD (eVar 1) (eLst (aCons (eIsX (isx cn (.o "NoLine")) (eVar 0)) (aCons (eIsX (isx cn (.o "NoSpending")) (eVar 0)) (aCons (eIsX (isx cn (.o "NoRule")) (eVar 0)) (aCons (eIsX (isx cn (.o "NoJourney")) (eVar 0)) aNil)))))))
  (sSeq (sSet 1 (eOp addD (eVar 1) (eLst (aCons (eIsX (isx cn (.o "NoText")) (eVar 0)) (aCons (eIsX (isx cn (.o "TooMany")) (eVar 0)) (aCons (eIsX (isx cn (.o "NoRate")) (eVar 0)) (aCons (eIsX (isx cn (.o "NoDay")) (eVar 0)) aNil)))))))
  (sRet (eOp addD (eVar 1) (eLst (aCons (eIsX (isx cn (.o "NoName")) (eVar 0)) (aCons (eIsX (isx cn (.o "NoHeads")) (eVar 0)) aNil)))))))))
def m__law_marks (cn : String) : Fn := fnM 2 (b__law_marks cn)
def b__law_fields (cn : String) : ES :=
  (sSeq (sIf (bVal (eOp inD (eVar 1) (eTup (aCons (eC (.int 9)) (aCons (eC (.int 10)) (aCons (eC (.int 11)) aNil)))))) (sRet (eTup (aCons (eXf cf cn "part" (eVar 0)) aNil))) sPass)
  (sSeq (sIf (bVal (eOp eqD (eVar 1) (eC (.int 12)))) (sRet (eTup (aCons (eXf cf cn "row" (eVar 0)) aNil))) sPass)
  (sSeq (sIf (bVal (eOp eqD (eVar 1) (eC (.int 13)))) (sRet (eTup (aCons (eXf cf cn "many" (eVar 0)) (aCons (eXf cf cn "most" (eVar 0)) aNil)))) sPass)
  (sSeq (sIf (bVal (eOp eqD (eVar 1) (eC (.int 14)))) (sRet (eTup (aCons (eXf cf cn "money" (eVar 0)) (aCons (eXf cf cn "day" (eVar 0)) aNil)))) sPass)
  (sSeq (sIf (bVal (eOp eqD (eVar 1) (eC (.int 15)))) (sRet (eTup (aCons (eXf cf cn "day" (eVar 0)) aNil))) sPass)
  (sSeq (sIf (bVal (eOp eqD (eVar 1) (eC (.int 16)))) (sRet (eTup (aCons (eXf cf cn "name" (eVar 0)) aNil))) sPass)
  (sRet (eIf (bVal (eOp eqD (eVar 1) (eC (.int 17)))) (eTup (aCons (eXf cf cn "heads" (eVar 0)) aNil)) (eTup aNil)))))))))
def m__law_fields (cn : String) : Fn := fnM 2 (b__law_fields cn)
def b__law_which (cn : String) : ES :=
  (sSeq (sPar2 5 1 (aCons (eFnP (m__law_marks cn) (eVar 0)) (aCons (eLst (aCons (eIsX (isx cn (.b "ValueError")) (eVar 0)) (aCons (eIsX (isx cn (.b "LookupError")) (eVar 0)) (aCons (eIsX (isx cn (.b "IndexError")) (eVar 0)) aNil)))) aNil)))
  (sSeq (sSet 1 (eOp addD (eVar 1) (eLst (aCons (eIsX (isx cn (.b "KeyError")) (eVar 0)) (aCons (eIsX (isx cn (.b "ZeroDivisionError")) (eVar 0)) aNil)))))
  (sSeq (sIf (bVal (eOp neD (eM1 "list" cntD (eVar 5) (eC (.bl true))) (eC (.int 1)))) (sRet (eTup (aCons (eC (.str "other")) aNil))) sPass)
  (sSeq (sSet 2 (eOp mulR (eLst (aCons (eLst (aCons (eC (.bl true)) (aCons (eC (.bl false)) (aCons (eC (.bl false)) (aCons (eC (.bl false)) (aCons (eC (.bl false)) aNil)))))) aNil)) (eC (.int 14))))
  (sSeq (sSet 2 (eOp addD (eVar 2) (eLst (aCons (eLst (aCons (eC (.bl false)) (aCons (eC (.bl true)) (aCons (eC (.bl false)) (aCons (eC (.bl false)) (aCons (eC (.bl false)) aNil)))))) (aCons (eLst (aCons (eC (.bl false)) (aCons (eC (.bl true)) (aCons (eC (.bl true)) (aCons (eC (.bl false)) (aCons (eC (.bl false)) aNil)))))) aNil)))))
  (sSeq (sSet 2 (eOp addD (eVar 2) (eLst (aCons (eLst (aCons (eC (.bl false)) (aCons (eC (.bl true)) (aCons (eC (.bl false)) (aCons (eC (.bl true)) (aCons (eC (.bl false)) aNil)))))) (aCons (eLst (aCons (eC (.bl false)) (aCons (eC (.bl false)) (aCons (eC (.bl false)) (aCons (eC (.bl false)) (aCons (eC (.bl true)) aNil)))))) aNil)))))
  (sSeq (sSet 3 (eLst (aCons (eC (.str "rates")) (aCons (eC (.str "spot")) (aCons (eC (.str "share")) (aCons (eC (.str "book")) (aCons (eC (.str "place")) (aCons (eC (.str "absent")) (aCons (eC (.str "nothing")) (aCons (eC (.str "table")) (aCons (eC (.str "line")) (aCons (eC (.str "spending")) (aCons (eC (.str "rule")) aNil)))))))))))))
  (sSeq (sSet 3 (eOp addD (eVar 3) (eLst (aCons (eC (.str "journey")) (aCons (eC (.str "text")) (aCons (eC (.str "many")) (aCons (eC (.str "rate")) (aCons (eC (.str "day")) (aCons (eC (.str "name")) (aCons (eC (.str "heads")) aNil))))))))))
  (sSeq (sSet 4 (eM1 "list" idxOfD (eVar 5) (eC (.bl true))))
  (sRet (eIf (bVal (eOp eqD (eVar 1) (eIdxB (eVar 2) (eVar 4)))) (eOp addD (eTup (aCons (eIdxB (eVar 3) (eVar 4)) aNil)) (eFnP2 (m__law_fields cn) (eVar 0) (eVar 4))) (eTup (aCons (eC (.str "other")) aNil)))))))))))))
def m__law_which (cn : String) : Fn := fnM 6 (b__law_which cn)
def sx_0 (cn : String) : ES :=
  (sRet (eFnP (m__law_which cn) (eVar 1)))
def b_is_whole : ES :=
  (sRet (eAnd (eIsI tysL (.b "int") (eVar 0)) (eAnd (eNot (eIsI tysL (.b "bool") (eVar 0))) (eChain leD leD (eVar 1) (eVar 0) (eVar 2)))))
def m_is_whole : Fn := fnM 3 b_is_whole
def b_are_towns : ES :=
  (sSeq (sIf (bOr (bNot (bVal (eIsI tysL (.b "tuple") (eVar 0)))) (bNot (bVal (eChain leD leD (eC (.int 1)) (eB bLenA (aCons (eVar 0) aNil)) (eC (.int 30)))))) (sRet (eC (.bl false))) sPass)
  (sRet (eB bAll (aCons (eLC [1] (itAny (eVar 0)) (pName 1) bYes (eFn (callM m_is_whole 3 0 3 [(0, 0), (0, 1), (0, 2)] []) (aCons (eVar 1) (aCons (eC (.int 0)) (aCons (eC (.int 3)) aNil))) aNil)) aNil))))
def m_are_towns : Fn := fnM 2 b_are_towns
def t_are_towns_3 : ES := (sRet (eB bAll (aCons (eLC [1] (itAny (eVar 0)) (pName 1) bYes (eFn (callM m_is_whole 3 0 3 [(0, 0), (0, 1), (0, 2)] []) (aCons (eVar 1) (aCons (eC (.int 0)) (aCons (eC (.int 3)) aNil))) aNil)) aNil)))
instance : Tl t_are_towns_3 (sRet (eB bAll (aCons (eLC [1] (itAny (eVar 0)) (pName 1) bYes (eFn (callM m_is_whole 3 0 3 [(0, 0), (0, 1), (0, 2)] []) (aCons (eVar 1) (aCons (eC (.int 0)) (aCons (eC (.int 3)) aNil))) aNil)) aNil))) := ⟨rfl⟩
def b_Journey_init : ES :=
  (sSeq (sIf (bNot (bVal (eFn (callM m_are_towns 1 0 1 [(0, 0)] []) (aCons (eVar 1) aNil) aNil))) (sRaise "NoJourney" (aChk 1 (aCons (eC (.str "towns")) aNil))) sPass)
  (sSeq (sIf (bNot (bVal (eFn (callM m_is_whole 3 0 3 [(0, 0), (0, 1), (0, 2)] []) (aCons (eVar 2) (aCons (eC (.int 0)) (aCons (eC (.int 10)) aNil))) aNil))) (sRaise "NoJourney" (aChk 1 (aCons (eC (.str "begun")) aNil))) sPass)
  (sSeq (sIf (bNot (bVal (eFn (callM m_is_whole 3 0 3 [(0, 0), (0, 1), (0, 2)] []) (aCons (eVar 3) (aCons (eC (.int 0)) (aCons (eC (.int 10)) aNil))) aNil))) (sRaise "NoJourney" (aChk 1 (aCons (eC (.str "ended")) aNil))) sPass)
  (sSeq (sSetAttr ["Journey"] "own_towns" (eVar 0) (eVar 1))
  (sSeq (sSetAttr ["Journey"] "own_ends" (eVar 0) (eTup (aCons (eVar 2) (aCons (eVar 3) aNil))))
  (sSeq (sSetAttr ["Journey"] "own_lines" (eVar 0) (eLst aNil))
  (sSeq (sSetAttr ["Journey"] "own_sums" (eVar 0) (eLst aNil))
  (sSetAttr ["Journey"] "own_past" (eVar 0) (eLst aNil)))))))))
def m_Journey_init : Fn := fnM 4 b_Journey_init
def t_Journey_init_11 : ES := (sSetAttr ["Journey"] "own_past" (eVar 0) (eLst aNil))
instance : Tl t_Journey_init_11 (sSetAttr ["Journey"] "own_past" (eVar 0) (eLst aNil)) := ⟨rfl⟩
def t_Journey_init_10 : ES := (sSeq (sSetAttr ["Journey"] "own_sums" (eVar 0) (eLst aNil)) t_Journey_init_11)
instance : Tl t_Journey_init_10 (sSeq (sSetAttr ["Journey"] "own_sums" (eVar 0) (eLst aNil)) t_Journey_init_11) := ⟨rfl⟩
def t_Journey_init_9 : ES := (sSeq (sSetAttr ["Journey"] "own_lines" (eVar 0) (eLst aNil)) t_Journey_init_10)
instance : Tl t_Journey_init_9 (sSeq (sSetAttr ["Journey"] "own_lines" (eVar 0) (eLst aNil)) t_Journey_init_10) := ⟨rfl⟩
def t_Journey_init_8 : ES := (sSeq (sSetAttr ["Journey"] "own_ends" (eVar 0) (eTup (aCons (eVar 2) (aCons (eVar 3) aNil)))) t_Journey_init_9)
instance : Tl t_Journey_init_8 (sSeq (sSetAttr ["Journey"] "own_ends" (eVar 0) (eTup (aCons (eVar 2) (aCons (eVar 3) aNil)))) t_Journey_init_9) := ⟨rfl⟩
def t_Journey_init_7 : ES := (sSeq (sSetAttr ["Journey"] "own_towns" (eVar 0) (eVar 1)) t_Journey_init_8)
instance : Tl t_Journey_init_7 (sSeq (sSetAttr ["Journey"] "own_towns" (eVar 0) (eVar 1)) t_Journey_init_8) := ⟨rfl⟩
def t_Journey_init_5 : ES := (sSeq (sIf (bNot (bVal (eFn (callM m_is_whole 3 0 3 [(0, 0), (0, 1), (0, 2)] []) (aCons (eVar 3) (aCons (eC (.int 0)) (aCons (eC (.int 10)) aNil))) aNil))) (sRaise "NoJourney" (aChk 1 (aCons (eC (.str "ended")) aNil))) sPass) t_Journey_init_7)
instance : Tl t_Journey_init_5 (sSeq (sIf (bNot (bVal (eFn (callM m_is_whole 3 0 3 [(0, 0), (0, 1), (0, 2)] []) (aCons (eVar 3) (aCons (eC (.int 0)) (aCons (eC (.int 10)) aNil))) aNil))) (sRaise "NoJourney" (aChk 1 (aCons (eC (.str "ended")) aNil))) sPass) t_Journey_init_7) := ⟨rfl⟩
def t_Journey_init_3 : ES := (sSeq (sIf (bNot (bVal (eFn (callM m_is_whole 3 0 3 [(0, 0), (0, 1), (0, 2)] []) (aCons (eVar 2) (aCons (eC (.int 0)) (aCons (eC (.int 10)) aNil))) aNil))) (sRaise "NoJourney" (aChk 1 (aCons (eC (.str "begun")) aNil))) sPass) t_Journey_init_5)
instance : Tl t_Journey_init_3 (sSeq (sIf (bNot (bVal (eFn (callM m_is_whole 3 0 3 [(0, 0), (0, 1), (0, 2)] []) (aCons (eVar 2) (aCons (eC (.int 0)) (aCons (eC (.int 10)) aNil))) aNil))) (sRaise "NoJourney" (aChk 1 (aCons (eC (.str "begun")) aNil))) sPass) t_Journey_init_5) := ⟨rfl⟩
theorem x_Journey_init : b_Journey_init = (sSeq (sIf (bNot (bVal (eFn (callM m_are_towns 1 0 1 [(0, 0)] []) (aCons (eVar 1) aNil) aNil))) (sRaise "NoJourney" (aChk 1 (aCons (eC (.str "towns")) aNil))) sPass) t_Journey_init_3) := rfl
def b__law_whole : ES :=
  (sRet (eAnd (eIsI tysL (.b "int") (eVar 0)) (eAnd (eNot (eIsI tysL (.b "bool") (eVar 0))) (eChain leD leD (eVar 1) (eVar 0) (eVar 2)))))
def m__law_whole : Fn := fnM 3 b__law_whole
def b__law_bad : ES :=
  (sSeq (sSet 1 (eIdxB (eVar 0) (eC (.int 0))))
  (sSeq (sIf (bOr (bNot (bVal (eIsI tysL (.b "tuple") (eVar 1)))) (bNot (bVal (eChain leD leD (eC (.int 1)) (eB bLenA (aCons (eVar 1) aNil)) (eC (.int 30)))))) (sRet (eC (.str "towns"))) sPass)
  (sSeq (sIf (bNot (bVal (eB bAll (aCons (eLC [2] (itAny (eVar 1)) (pName 2) bYes (eFn (callM m__law_whole 3 0 3 [(0, 0), (0, 1), (0, 2)] []) (aCons (eVar 2) (aCons (eC (.int 0)) (aCons (eC (.int 3)) aNil))) aNil)) aNil)))) (sRet (eC (.str "towns"))) sPass)
  (sSeq (sIf (bNot (bVal (eFn (callM m__law_whole 3 0 3 [(0, 0), (0, 1), (0, 2)] []) (aCons (eIdxB (eVar 0) (eC (.int 1))) (aCons (eC (.int 0)) (aCons (eC (.int 10)) aNil))) aNil))) (sRet (eC (.str "begun"))) sPass)
  (sRet (eIf (bVal (eFn (callM m__law_whole 3 0 3 [(0, 0), (0, 1), (0, 2)] []) (aCons (eIdxB (eVar 0) (eC (.int 2))) (aCons (eC (.int 0)) (aCons (eC (.int 10)) aNil))) aNil)) (eC .non) (eC (.str "ended"))))))))
def m__law_bad : Fn := fnM 3 b__law_bad
def t__law_bad_8 : ES := (sRet (eIf (bVal (eFn (callM m__law_whole 3 0 3 [(0, 0), (0, 1), (0, 2)] []) (aCons (eIdxB (eVar 0) (eC (.int 2))) (aCons (eC (.int 0)) (aCons (eC (.int 10)) aNil))) aNil)) (eC .non) (eC (.str "ended"))))
instance : Tl t__law_bad_8 (sRet (eIf (bVal (eFn (callM m__law_whole 3 0 3 [(0, 0), (0, 1), (0, 2)] []) (aCons (eIdxB (eVar 0) (eC (.int 2))) (aCons (eC (.int 0)) (aCons (eC (.int 10)) aNil))) aNil)) (eC .non) (eC (.str "ended")))) := ⟨rfl⟩
def t__law_bad_6 : ES := (sSeq (sIf (bNot (bVal (eFn (callM m__law_whole 3 0 3 [(0, 0), (0, 1), (0, 2)] []) (aCons (eIdxB (eVar 0) (eC (.int 1))) (aCons (eC (.int 0)) (aCons (eC (.int 10)) aNil))) aNil))) (sRet (eC (.str "begun"))) sPass) t__law_bad_8)
instance : Tl t__law_bad_6 (sSeq (sIf (bNot (bVal (eFn (callM m__law_whole 3 0 3 [(0, 0), (0, 1), (0, 2)] []) (aCons (eIdxB (eVar 0) (eC (.int 1))) (aCons (eC (.int 0)) (aCons (eC (.int 10)) aNil))) aNil))) (sRet (eC (.str "begun"))) sPass) t__law_bad_8) := ⟨rfl⟩
def t__law_bad_4 : ES := (sSeq (sIf (bNot (bVal (eB bAll (aCons (eLC [2] (itAny (eVar 1)) (pName 2) bYes (eFn (callM m__law_whole 3 0 3 [(0, 0), (0, 1), (0, 2)] []) (aCons (eVar 2) (aCons (eC (.int 0)) (aCons (eC (.int 3)) aNil))) aNil)) aNil)))) (sRet (eC (.str "towns"))) sPass) t__law_bad_6)
instance : Tl t__law_bad_4 (sSeq (sIf (bNot (bVal (eB bAll (aCons (eLC [2] (itAny (eVar 1)) (pName 2) bYes (eFn (callM m__law_whole 3 0 3 [(0, 0), (0, 1), (0, 2)] []) (aCons (eVar 2) (aCons (eC (.int 0)) (aCons (eC (.int 3)) aNil))) aNil)) aNil)))) (sRet (eC (.str "towns"))) sPass) t__law_bad_6) := ⟨rfl⟩
def t__law_bad_2 : ES := (sSeq (sIf (bOr (bNot (bVal (eIsI tysL (.b "tuple") (eVar 1)))) (bNot (bVal (eChain leD leD (eC (.int 1)) (eB bLenA (aCons (eVar 1) aNil)) (eC (.int 30)))))) (sRet (eC (.str "towns"))) sPass) t__law_bad_4)
instance : Tl t__law_bad_2 (sSeq (sIf (bOr (bNot (bVal (eIsI tysL (.b "tuple") (eVar 1)))) (bNot (bVal (eChain leD leD (eC (.int 1)) (eB bLenA (aCons (eVar 1) aNil)) (eC (.int 30)))))) (sRet (eC (.str "towns"))) sPass) t__law_bad_4) := ⟨rfl⟩
theorem x__law_bad : b__law_bad = (sSeq (sSet 1 (eIdxB (eVar 0) (eC (.int 0)))) t__law_bad_2) := rfl
def b_Journey_town_on : ES :=
  (sSeq (sIf (bNot (bVal (eFn (callM m_is_whole 3 0 3 [(0, 0), (0, 1), (0, 2)] []) (aCons (eVar 1) (aCons (eC (.int 0)) (aCons (eOp subD (eB bLenA (aCons (eAttr cf ["Journey"] "own_towns" (eVar 0)) aNil)) (eC (.int 1))) aNil))) aNil))) (sRaise "NoDay" (aChk 1 (aCons (eVar 1) aNil))) sPass)
  (sRet (eIdxB (eAttr cf ["Journey"] "own_towns" (eVar 0)) (eVar 1))))
def m_Journey_town_on : Fn := fnM 2 b_Journey_town_on
def t_Journey_town_on_3 : ES := (sRet (eIdxB (eAttr cf ["Journey"] "own_towns" (eVar 0)) (eVar 1)))
instance : Tl t_Journey_town_on_3 (sRet (eIdxB (eAttr cf ["Journey"] "own_towns" (eVar 0)) (eVar 1))) := ⟨rfl⟩
theorem x_Journey_town_on : b_Journey_town_on = (sSeq (sIf (bNot (bVal (eFn (callM m_is_whole 3 0 3 [(0, 0), (0, 1), (0, 2)] []) (aCons (eVar 1) (aCons (eC (.int 0)) (aCons (eOp subD (eB bLenA (aCons (eAttr cf ["Journey"] "own_towns" (eVar 0)) aNil)) (eC (.int 1))) aNil))) aNil))) (sRaise "NoDay" (aChk 1 (aCons (eVar 1) aNil))) sPass) t_Journey_town_on_3) := rfl
def b_Journey_len : ES :=
  (sRet (eB bLenA (aCons (eAttr cf ["Journey"] "own_lines" (eVar 0)) aNil)))
def m_Journey_len : Fn := fnM 1 b_Journey_len
def b_Journey_lines : ES :=
  (sRet (eB bList (aCons (eAttr cf ["Journey"] "own_lines" (eVar 0)) aNil)))
def m_Journey_lines : Fn := fnM 1 b_Journey_lines
def b_are_twins : ES :=
  (sSeq (sIf (bOr (bVal (eOp neD eBad eBad)) (bVal (eOp neD eBad eBad))) (sRet (eC (.bl false))) sPass)
  (sRet (eAnd (eOp eqD eBad eBad) (eOp eqD eBad eBad))))
def m_are_twins : Fn := fnM 2 b_are_twins
def t_are_twins_3 : ES := (sRet (eAnd (eOp eqD eBad eBad) (eOp eqD eBad eBad)))
instance : Tl t_are_twins_3 (sRet (eAnd (eOp eqD eBad eBad) (eOp eqD eBad eBad))) := ⟨rfl⟩
def b_Journey_twins : ES :=
  (sSeq (sSet 1 (eLstM aNil))
  (sSeq (sFor (itEnum (aCons (eAttr cf ["Journey"] "own_lines" (eVar 0)) aNil)) (pTup (pCons (pName 2) (pCons (pName 3) pNil))) (sIf (bVal (eB bAny (aCons (eLC [4] (itAny (eCut (eAttr cf ["Journey"] "own_lines" (eVar 0)) oNone (oSome (eVar 2)))) (pName 4) bYes (eFn (callM m_are_twins 2 0 2 [(0, 0), (0, 1)] []) (aCons (eVar 3) (aCons (eVar 4) aNil)) aNil)) aNil))) (sExpr (eApp (eVar 1) (eVar 2))) sPass))
  (sRet (eFrzL (eVar 1)))))
def m_Journey_twins : Fn := fnM 5 b_Journey_twins
def t_Journey_twins_3 : ES := (sIf (bVal (eB bAny (aCons (eLC [4] (itAny (eCut (eAttr cf ["Journey"] "own_lines" (eVar 0)) oNone (oSome (eVar 2)))) (pName 4) bYes (eFn (callM m_are_twins 2 0 2 [(0, 0), (0, 1)] []) (aCons (eVar 3) (aCons (eVar 4) aNil)) aNil)) aNil))) (sExpr (eApp (eVar 1) (eVar 2))) sPass)
instance : Tl t_Journey_twins_3 (sIf (bVal (eB bAny (aCons (eLC [4] (itAny (eCut (eAttr cf ["Journey"] "own_lines" (eVar 0)) oNone (oSome (eVar 2)))) (pName 4) bYes (eFn (callM m_are_twins 2 0 2 [(0, 0), (0, 1)] []) (aCons (eVar 3) (aCons (eVar 4) aNil)) aNil)) aNil))) (sExpr (eApp (eVar 1) (eVar 2))) sPass) := ⟨rfl⟩
def t_Journey_twins_5 : ES := (sRet (eFrzL (eVar 1)))
instance : Tl t_Journey_twins_5 (sRet (eFrzL (eVar 1))) := ⟨rfl⟩
def t_Journey_twins_2 : ES := (sSeq (sFor (itEnum (aCons (eAttr cf ["Journey"] "own_lines" (eVar 0)) aNil)) (pTup (pCons (pName 2) (pCons (pName 3) pNil))) t_Journey_twins_3) t_Journey_twins_5)
instance : Tl t_Journey_twins_2 (sSeq (sFor (itEnum (aCons (eAttr cf ["Journey"] "own_lines" (eVar 0)) aNil)) (pTup (pCons (pName 2) (pCons (pName 3) pNil))) t_Journey_twins_3) t_Journey_twins_5) := ⟨rfl⟩
theorem x_Journey_twins : b_Journey_twins = (sSeq (sSet 1 (eLstM aNil)) t_Journey_twins_2) := rfl
def b__law_days_right : ES :=
  (sSeq (sIf (bVal (eOp neD (eLC [3] (itR1 (aCons (eB bLenA (aCons (eVar 1) aNil)) aNil)) (pName 3) bYes (eMeth cf "Journey" "town_on" (callM m_Journey_town_on 2 0 2 [(0, 0), (0, 1)] []) (eVar 0) (aCons (eVar 3) aNil) aNil)) (eB bList (aCons (eVar 1) aNil)))) (sRet (eC (.bl false))) sPass)
  (sSeq (sFor (itAny (eLst (aCons (eB bLenA (aCons (eVar 1) aNil)) (aCons (eUn negD (eC (.int 1))) (aCons (eC (.int 60)) (aCons (eC .non) (aCons (eC (.bl true)) (aCons (eC (.str "0")) (aCons (eTup (aCons (eC (.int 0)) aNil)) (aCons (eOp powD (eC (.int 10)) (eC (.int 29))) aNil)))))))))) (pName 2) (sIf (bVal (eOp neD (eB bReprX (aCons (eSaid "told" (refL cnsL) (eMeth cf "Journey" "town_on" (callM m_Journey_town_on 1 1 2 [(0, 0), (2, 0)] []) (eVar 0) aNil (aCons (eVar 2) aNil))) aNil)) (eB bReprX (aCons (eTup (aCons (eC (.str "day")) (aCons (eVar 2) aNil))) aNil)))) (sRet (eC (.bl false))) sPass))
  (sRet (eAnd (eOp eqD (eLenO "Journey" m_Journey_len (eVar 0)) (eC (.int 0))) (eAnd (eOp eqD (eMeth cf "Journey" "lines" (callM m_Journey_lines 1 0 1 [(0, 0)] []) (eVar 0) aNil aNil) (eLst aNil)) (eOp eqD (eMeth cf "Journey" "twins" (callM m_Journey_twins 1 0 1 [(0, 0)] []) (eVar 0) aNil aNil) (eLst aNil)))))))
def m__law_days_right : Fn := fnM 4 b__law_days_right
def t__law_days_right_4 : ES := (sIf (bVal (eOp neD (eB bReprX (aCons (eSaid "told" (refL cnsL) (eMeth cf "Journey" "town_on" (callM m_Journey_town_on 1 1 2 [(0, 0), (2, 0)] []) (eVar 0) aNil (aCons (eVar 2) aNil))) aNil)) (eB bReprX (aCons (eTup (aCons (eC (.str "day")) (aCons (eVar 2) aNil))) aNil)))) (sRet (eC (.bl false))) sPass)
instance : Tl t__law_days_right_4 (sIf (bVal (eOp neD (eB bReprX (aCons (eSaid "told" (refL cnsL) (eMeth cf "Journey" "town_on" (callM m_Journey_town_on 1 1 2 [(0, 0), (2, 0)] []) (eVar 0) aNil (aCons (eVar 2) aNil))) aNil)) (eB bReprX (aCons (eTup (aCons (eC (.str "day")) (aCons (eVar 2) aNil))) aNil)))) (sRet (eC (.bl false))) sPass) := ⟨rfl⟩
def t__law_days_right_6 : ES := (sRet (eAnd (eOp eqD (eLenO "Journey" m_Journey_len (eVar 0)) (eC (.int 0))) (eAnd (eOp eqD (eMeth cf "Journey" "lines" (callM m_Journey_lines 1 0 1 [(0, 0)] []) (eVar 0) aNil aNil) (eLst aNil)) (eOp eqD (eMeth cf "Journey" "twins" (callM m_Journey_twins 1 0 1 [(0, 0)] []) (eVar 0) aNil aNil) (eLst aNil)))))
instance : Tl t__law_days_right_6 (sRet (eAnd (eOp eqD (eLenO "Journey" m_Journey_len (eVar 0)) (eC (.int 0))) (eAnd (eOp eqD (eMeth cf "Journey" "lines" (callM m_Journey_lines 1 0 1 [(0, 0)] []) (eVar 0) aNil aNil) (eLst aNil)) (eOp eqD (eMeth cf "Journey" "twins" (callM m_Journey_twins 1 0 1 [(0, 0)] []) (eVar 0) aNil aNil) (eLst aNil))))) := ⟨rfl⟩
def t__law_days_right_3 : ES := (sSeq (sFor (itAny (eLst (aCons (eB bLenA (aCons (eVar 1) aNil)) (aCons (eUn negD (eC (.int 1))) (aCons (eC (.int 60)) (aCons (eC .non) (aCons (eC (.bl true)) (aCons (eC (.str "0")) (aCons (eTup (aCons (eC (.int 0)) aNil)) (aCons (eOp powD (eC (.int 10)) (eC (.int 29))) aNil)))))))))) (pName 2) t__law_days_right_4) t__law_days_right_6)
instance : Tl t__law_days_right_3 (sSeq (sFor (itAny (eLst (aCons (eB bLenA (aCons (eVar 1) aNil)) (aCons (eUn negD (eC (.int 1))) (aCons (eC (.int 60)) (aCons (eC .non) (aCons (eC (.bl true)) (aCons (eC (.str "0")) (aCons (eTup (aCons (eC (.int 0)) aNil)) (aCons (eOp powD (eC (.int 10)) (eC (.int 29))) aNil)))))))))) (pName 2) t__law_days_right_4) t__law_days_right_6) := ⟨rfl⟩
theorem x__law_days_right : b__law_days_right = (sSeq (sIf (bVal (eOp neD (eLC [3] (itR1 (aCons (eB bLenA (aCons (eVar 1) aNil)) aNil)) (pName 3) bYes (eMeth cf "Journey" "town_on" (callM m_Journey_town_on 2 0 2 [(0, 0), (0, 1)] []) (eVar 0) (aCons (eVar 3) aNil) aNil)) (eB bList (aCons (eVar 1) aNil)))) (sRet (eC (.bl false))) sPass) t__law_days_right_3) := rfl
def b__law_made_right : ES :=
  (sSeq (sFor (itR1 (aCons (eC (.int 2)) aNil)) (pName 1) (sSeq (sPar2 2 3 (aCons (eSaid "told" (refL cnsL) (eFrz cf (eFn (newM "Journey" (callM m_Journey_init 4 0 4 [(0, 0), (0, 1), (0, 2), (0, 3)] [.int 10, .int 10])) (aCons (eIdxB (eVar 0) (eC (.int 0))) (aCons (eIdxB (eVar 0) (eC (.int 1))) (aCons (eIdxB (eVar 0) (eC (.int 2))) aNil))) aNil))) (aCons (eFn (callM m__law_bad 1 0 1 [(0, 0)] []) (aCons (eVar 0) aNil) aNil) aNil)))
  (sSeq (sIf (bAnd (bVal (eOp notND (eVar 3) (eC .non))) (bVal (eOp neD (eVar 2) (eTup (aCons (eC (.str "journey")) (aCons (eVar 3) aNil)))))) (sRet (eC (.bl false))) sPass)
  (sIf (bAnd (bVal (eOp isND (eVar 3) (eC .non))) (bOr (bVal (eOp neD (eIdxB (eVar 2) (eC (.int 0))) (eC (.str "told")))) (bNot (bVal (eFn (callM m__law_days_right 2 0 2 [(0, 0), (0, 1)] []) (aCons (eIdxB (eVar 2) (eC (.int 1))) (aCons (eIdxB (eVar 0) (eC (.int 0))) aNil)) aNil))))) (sRet (eC (.bl false))) sPass))))
  (sRet (eC (.bl true))))
def m__law_made_right : Fn := fnM 4 b__law_made_right
def t__law_made_right_5 : ES := (sIf (bAnd (bVal (eOp isND (eVar 3) (eC .non))) (bOr (bVal (eOp neD (eIdxB (eVar 2) (eC (.int 0))) (eC (.str "told")))) (bNot (bVal (eFn (callM m__law_days_right 2 0 2 [(0, 0), (0, 1)] []) (aCons (eIdxB (eVar 2) (eC (.int 1))) (aCons (eIdxB (eVar 0) (eC (.int 0))) aNil)) aNil))))) (sRet (eC (.bl false))) sPass)
instance : Tl t__law_made_right_5 (sIf (bAnd (bVal (eOp isND (eVar 3) (eC .non))) (bOr (bVal (eOp neD (eIdxB (eVar 2) (eC (.int 0))) (eC (.str "told")))) (bNot (bVal (eFn (callM m__law_days_right 2 0 2 [(0, 0), (0, 1)] []) (aCons (eIdxB (eVar 2) (eC (.int 1))) (aCons (eIdxB (eVar 0) (eC (.int 0))) aNil)) aNil))))) (sRet (eC (.bl false))) sPass) := ⟨rfl⟩
def t__law_made_right_3 : ES := (sSeq (sIf (bAnd (bVal (eOp notND (eVar 3) (eC .non))) (bVal (eOp neD (eVar 2) (eTup (aCons (eC (.str "journey")) (aCons (eVar 3) aNil)))))) (sRet (eC (.bl false))) sPass) t__law_made_right_5)
instance : Tl t__law_made_right_3 (sSeq (sIf (bAnd (bVal (eOp notND (eVar 3) (eC .non))) (bVal (eOp neD (eVar 2) (eTup (aCons (eC (.str "journey")) (aCons (eVar 3) aNil)))))) (sRet (eC (.bl false))) sPass) t__law_made_right_5) := ⟨rfl⟩
def t__law_made_right_2 : ES := (sSeq (sPar2 2 3 (aCons (eSaid "told" (refL cnsL) (eFrz cf (eFn (newM "Journey" (callM m_Journey_init 4 0 4 [(0, 0), (0, 1), (0, 2), (0, 3)] [.int 10, .int 10])) (aCons (eIdxB (eVar 0) (eC (.int 0))) (aCons (eIdxB (eVar 0) (eC (.int 1))) (aCons (eIdxB (eVar 0) (eC (.int 2))) aNil))) aNil))) (aCons (eFn (callM m__law_bad 1 0 1 [(0, 0)] []) (aCons (eVar 0) aNil) aNil) aNil))) t__law_made_right_3)
instance : Tl t__law_made_right_2 (sSeq (sPar2 2 3 (aCons (eSaid "told" (refL cnsL) (eFrz cf (eFn (newM "Journey" (callM m_Journey_init 4 0 4 [(0, 0), (0, 1), (0, 2), (0, 3)] [.int 10, .int 10])) (aCons (eIdxB (eVar 0) (eC (.int 0))) (aCons (eIdxB (eVar 0) (eC (.int 1))) (aCons (eIdxB (eVar 0) (eC (.int 2))) aNil))) aNil))) (aCons (eFn (callM m__law_bad 1 0 1 [(0, 0)] []) (aCons (eVar 0) aNil) aNil) aNil))) t__law_made_right_3) := ⟨rfl⟩
def t__law_made_right_7 : ES := (sRet (eC (.bl true)))
instance : Tl t__law_made_right_7 (sRet (eC (.bl true))) := ⟨rfl⟩
theorem x__law_made_right : b__law_made_right = (sSeq (sFor (itR1 (aCons (eC (.int 2)) aNil)) (pName 1) t__law_made_right_2) t__law_made_right_7) := rfl
def b_Journey_eq : ES :=
  (sSeq (sIf (bNot (bVal (eIsI tysL (.o "Journey") (eVar 1)))) (sRet (eC (.bl false))) sPass)
  (sSeq (sIf (bOr (bVal (eOp neD (eAttr cf ["Journey"] "own_towns" (eVar 0)) (eAttr cf ["Journey"] "own_towns" (eVar 1)))) (bVal (eOp neD (eAttr cf ["Journey"] "own_ends" (eVar 0)) (eAttr cf ["Journey"] "own_ends" (eVar 1))))) (sRet (eC (.bl false))) sPass)
  (sRet (eAnd (eOp eqD (eAttr cf ["Journey"] "own_lines" (eVar 0)) (eAttr cf ["Journey"] "own_lines" (eVar 1))) (eOp eqD (eAttr cf ["Journey"] "own_sums" (eVar 0)) (eAttr cf ["Journey"] "own_sums" (eVar 1)))))))
def m_Journey_eq : Fn := fnM 2 b_Journey_eq
def cls_0 : List String := ["Journey"]
def tab_0 : ETab := fun c => if c = "Journey" then some m_Journey_eq else none
def t_Journey_eq_5 : ES := (sRet (eAnd (eOp eqD (eAttr cf ["Journey"] "own_lines" (eVar 0)) (eAttr cf ["Journey"] "own_lines" (eVar 1))) (eOp eqD (eAttr cf ["Journey"] "own_sums" (eVar 0)) (eAttr cf ["Journey"] "own_sums" (eVar 1)))))
instance : Tl t_Journey_eq_5 (sRet (eAnd (eOp eqD (eAttr cf ["Journey"] "own_lines" (eVar 0)) (eAttr cf ["Journey"] "own_lines" (eVar 1))) (eOp eqD (eAttr cf ["Journey"] "own_sums" (eVar 0)) (eAttr cf ["Journey"] "own_sums" (eVar 1))))) := ⟨rfl⟩
def t_Journey_eq_3 : ES := (sSeq (sIf (bOr (bVal (eOp neD (eAttr cf ["Journey"] "own_towns" (eVar 0)) (eAttr cf ["Journey"] "own_towns" (eVar 1)))) (bVal (eOp neD (eAttr cf ["Journey"] "own_ends" (eVar 0)) (eAttr cf ["Journey"] "own_ends" (eVar 1))))) (sRet (eC (.bl false))) sPass) t_Journey_eq_5)
instance : Tl t_Journey_eq_3 (sSeq (sIf (bOr (bVal (eOp neD (eAttr cf ["Journey"] "own_towns" (eVar 0)) (eAttr cf ["Journey"] "own_towns" (eVar 1)))) (bVal (eOp neD (eAttr cf ["Journey"] "own_ends" (eVar 0)) (eAttr cf ["Journey"] "own_ends" (eVar 1))))) (sRet (eC (.bl false))) sPass) t_Journey_eq_5) := ⟨rfl⟩
theorem x_Journey_eq : b_Journey_eq = (sSeq (sIf (bNot (bVal (eIsI tysL (.o "Journey") (eVar 1)))) (sRet (eC (.bl false))) sPass) t_Journey_eq_3) := rfl
def b__law_alike_right : ES :=
  (sSeq (sPar2 4 5 (aCons (eFrz cf (eFn (newM "Journey" (callM m_Journey_init 4 0 4 [(0, 0), (0, 1), (0, 2), (0, 3)] [.int 10, .int 10])) (aCons (eIdxB (eVar 0) (eC (.int 0))) (aCons (eIdxB (eVar 0) (eC (.int 1))) (aCons (eIdxB (eVar 0) (eC (.int 2))) aNil))) aNil)) (aCons (eIdxB (eVar 0) (eC (.int 0))) aNil)))
  (sSeq (sIf (bOr (bVal (eEqA tab_0 cls_0 not (eVar 4) (eFrz cf (eFn (newM "Journey" (callM m_Journey_init 1 3 4 [(0, 0), (2, 1), (2, 2), (2, 0)] [.int 10, .int 10])) aNil (aCons (eIdxB (eVar 0) (eC (.int 2))) (aCons (eVar 5) (aCons (eIdxB (eVar 0) (eC (.int 1))) aNil))))))) (bNot (bVal (eEqA tab_0 cls_0 id (eVar 4) (eFrz cf (eFn (newM "Journey" (callM m_Journey_init 3 1 4 [(0, 0), (0, 1), (0, 2), (2, 0)] [.int 10, .int 10])) (aCons (eVar 5) (aCons (eIdxB (eVar 0) (eC (.int 1))) aNil)) (aCons (eIdxB (eVar 0) (eC (.int 2))) aNil))))))) (sRet (eC (.bl false))) sPass)
  (sSeq (sIf (bOr (bVal (eEqO "Journey" m_Journey_eq not (eFrz cf (eFn (newM "Journey" (callM m_Journey_init 2 0 4 [(0, 0), (0, 1), (1, 0), (1, 1)] [.int 10, .int 10])) (aCons (eVar 5) aNil) aNil)) (eFrz cf (eFn (newM "Journey" (callM m_Journey_init 4 0 4 [(0, 0), (0, 1), (0, 2), (0, 3)] [.int 10, .int 10])) (aCons (eVar 5) (aCons (eC (.int 10)) (aCons (eC (.int 10)) aNil))) aNil)))) (bVal (eEqO "Journey" m_Journey_eq not (eFrz cf (eFn (newM "Journey" (callM m_Journey_init 2 1 4 [(0, 0), (0, 1), (2, 0), (1, 1)] [.int 10, .int 10])) (aCons (eVar 5) aNil) (aCons (eC (.int 3)) aNil))) (eFrz cf (eFn (newM "Journey" (callM m_Journey_init 4 0 4 [(0, 0), (0, 1), (0, 2), (0, 3)] [.int 10, .int 10])) (aCons (eVar 5) (aCons (eC (.int 3)) (aCons (eC (.int 10)) aNil))) aNil))))) (sRet (eC (.bl false))) sPass)
  (sSeq (sSet 1 (eLstM (aCons (eFrz cf (eFn (newM "Journey" (callM m_Journey_init 4 0 4 [(0, 0), (0, 1), (0, 2), (0, 3)] [.int 10, .int 10])) (aCons (eVar 5) (aCons (eIdxB (eVar 0) (eC (.int 1))) (aCons (eOp modD (eOp addD (eIdxB (eVar 0) (eC (.int 2))) (eC (.int 1))) (eC (.int 11))) aNil))) aNil)) (aCons (eFrz cf (eFn (newM "Journey" (callM m_Journey_init 4 0 4 [(0, 0), (0, 1), (0, 2), (0, 3)] [.int 10, .int 10])) (aCons (eVar 5) (aCons (eOp modD (eOp addD (eIdxB (eVar 0) (eC (.int 1))) (eC (.int 1))) (eC (.int 11))) (aCons (eIdxB (eVar 0) (eC (.int 2))) aNil))) aNil)) aNil))))
  (sSeq (sExpr (eApp (eVar 1) (eFrz cf (eFn (newM "Journey" (callM m_Journey_init 4 0 4 [(0, 0), (0, 1), (0, 2), (0, 3)] [.int 10, .int 10])) (aCons (eOp addD (eCut (eVar 5) oNone (oSome (eUn negD (eC (.int 1))))) (eTup (aCons (eOp modD (eOp addD (eIdxB (eVar 5) (eUn negD (eC (.int 1)))) (eC (.int 1))) (eC (.int 4))) aNil))) (aCons (eIdxB (eVar 0) (eC (.int 1))) (aCons (eIdxB (eVar 0) (eC (.int 2))) aNil))) aNil))))
  (sSeq (sFor (itAny (eAddS (eVar 1) (eLst (aCons (eVar 0) (aCons (eVar 5) (aCons (eC .non) (aCons (eC (.int 0)) (aCons (eLst (aCons (eVar 4) aNil)) aNil)))))))) (pName 2) (sIf (bOr (bVal (eEqA tab_0 cls_0 id (eVar 4) (eVar 2))) (bOr (bVal (eEqA tab_0 cls_0 id (eVar 2) (eVar 4))) (bNot (bVal (eEqA tab_0 cls_0 not (eVar 4) (eVar 2)))))) (sRet (eC (.bl false))) sPass))
  (sSeq (sFor (itAny (eLst (aCons (eUn revT (eVar 5)) (aCons (eCut (eOp addD (eVar 5) (eCut (eVar 5) oNone (oSome (eC (.int 1))))) oNone (oSome (eC (.int 30)))) (aCons (eOrT (eCut (eVar 5) oNone (oSome (eUn negD (eC (.int 1))))) (eVar 5)) aNil))))) (pName 3) (sIf (bVal (eOp neD (eEqA tab_0 cls_0 id (eVar 4) (eFrz cf (eFn (newM "Journey" (callM m_Journey_init 4 0 4 [(0, 0), (0, 1), (0, 2), (0, 3)] [.int 10, .int 10])) (aCons (eVar 3) (aCons (eIdxB (eVar 0) (eC (.int 1))) (aCons (eIdxB (eVar 0) (eC (.int 2))) aNil))) aNil))) (eOp eqD (eVar 3) (eVar 5)))) (sRet (eC (.bl false))) sPass))
  (sRet (eOp eqD (eEqA tab_0 cls_0 id (eVar 4) (eFrz cf (eFn (newM "Journey" (callM m_Journey_init 4 0 4 [(0, 0), (0, 1), (0, 2), (0, 3)] [.int 10, .int 10])) (aCons (eVar 5) (aCons (eIdxB (eVar 0) (eC (.int 2))) (aCons (eIdxB (eVar 0) (eC (.int 1))) aNil))) aNil))) (eOp eqD (eIdxB (eVar 0) (eC (.int 1))) (eIdxB (eVar 0) (eC (.int 2)))))))))))))
def m__law_alike_right : Fn := fnM 6 b__law_alike_right
def t__law_alike_right_9 : ES := (sIf (bOr (bVal (eEqA tab_0 cls_0 id (eVar 4) (eVar 2))) (bOr (bVal (eEqA tab_0 cls_0 id (eVar 2) (eVar 4))) (bNot (bVal (eEqA tab_0 cls_0 not (eVar 4) (eVar 2)))))) (sRet (eC (.bl false))) sPass)
instance : Tl t__law_alike_right_9 (sIf (bOr (bVal (eEqA tab_0 cls_0 id (eVar 4) (eVar 2))) (bOr (bVal (eEqA tab_0 cls_0 id (eVar 2) (eVar 4))) (bNot (bVal (eEqA tab_0 cls_0 not (eVar 4) (eVar 2)))))) (sRet (eC (.bl false))) sPass) := ⟨rfl⟩
def t__law_alike_right_12 : ES := (sIf (bVal (eOp neD (eEqA tab_0 cls_0 id (eVar 4) (eFrz cf (eFn (newM "Journey" (callM m_Journey_init 4 0 4 [(0, 0), (0, 1), (0, 2), (0, 3)] [.int 10, .int 10])) (aCons (eVar 3) (aCons (eIdxB (eVar 0) (eC (.int 1))) (aCons (eIdxB (eVar 0) (eC (.int 2))) aNil))) aNil))) (eOp eqD (eVar 3) (eVar 5)))) (sRet (eC (.bl false))) sPass)
instance : Tl t__law_alike_right_12 (sIf (bVal (eOp neD (eEqA tab_0 cls_0 id (eVar 4) (eFrz cf (eFn (newM "Journey" (callM m_Journey_init 4 0 4 [(0, 0), (0, 1), (0, 2), (0, 3)] [.int 10, .int 10])) (aCons (eVar 3) (aCons (eIdxB (eVar 0) (eC (.int 1))) (aCons (eIdxB (eVar 0) (eC (.int 2))) aNil))) aNil))) (eOp eqD (eVar 3) (eVar 5)))) (sRet (eC (.bl false))) sPass) := ⟨rfl⟩
def t__law_alike_right_14 : ES := (sRet (eOp eqD (eEqA tab_0 cls_0 id (eVar 4) (eFrz cf (eFn (newM "Journey" (callM m_Journey_init 4 0 4 [(0, 0), (0, 1), (0, 2), (0, 3)] [.int 10, .int 10])) (aCons (eVar 5) (aCons (eIdxB (eVar 0) (eC (.int 2))) (aCons (eIdxB (eVar 0) (eC (.int 1))) aNil))) aNil))) (eOp eqD (eIdxB (eVar 0) (eC (.int 1))) (eIdxB (eVar 0) (eC (.int 2))))))
instance : Tl t__law_alike_right_14 (sRet (eOp eqD (eEqA tab_0 cls_0 id (eVar 4) (eFrz cf (eFn (newM "Journey" (callM m_Journey_init 4 0 4 [(0, 0), (0, 1), (0, 2), (0, 3)] [.int 10, .int 10])) (aCons (eVar 5) (aCons (eIdxB (eVar 0) (eC (.int 2))) (aCons (eIdxB (eVar 0) (eC (.int 1))) aNil))) aNil))) (eOp eqD (eIdxB (eVar 0) (eC (.int 1))) (eIdxB (eVar 0) (eC (.int 2)))))) := ⟨rfl⟩
def t__law_alike_right_11 : ES := (sSeq (sFor (itAny (eLst (aCons (eUn revT (eVar 5)) (aCons (eCut (eOp addD (eVar 5) (eCut (eVar 5) oNone (oSome (eC (.int 1))))) oNone (oSome (eC (.int 30)))) (aCons (eOrT (eCut (eVar 5) oNone (oSome (eUn negD (eC (.int 1))))) (eVar 5)) aNil))))) (pName 3) t__law_alike_right_12) t__law_alike_right_14)
instance : Tl t__law_alike_right_11 (sSeq (sFor (itAny (eLst (aCons (eUn revT (eVar 5)) (aCons (eCut (eOp addD (eVar 5) (eCut (eVar 5) oNone (oSome (eC (.int 1))))) oNone (oSome (eC (.int 30)))) (aCons (eOrT (eCut (eVar 5) oNone (oSome (eUn negD (eC (.int 1))))) (eVar 5)) aNil))))) (pName 3) t__law_alike_right_12) t__law_alike_right_14) := ⟨rfl⟩
def t__law_alike_right_8 : ES := (sSeq (sFor (itAny (eAddS (eVar 1) (eLst (aCons (eVar 0) (aCons (eVar 5) (aCons (eC .non) (aCons (eC (.int 0)) (aCons (eLst (aCons (eVar 4) aNil)) aNil)))))))) (pName 2) t__law_alike_right_9) t__law_alike_right_11)
instance : Tl t__law_alike_right_8 (sSeq (sFor (itAny (eAddS (eVar 1) (eLst (aCons (eVar 0) (aCons (eVar 5) (aCons (eC .non) (aCons (eC (.int 0)) (aCons (eLst (aCons (eVar 4) aNil)) aNil)))))))) (pName 2) t__law_alike_right_9) t__law_alike_right_11) := ⟨rfl⟩
def t__law_alike_right_7 : ES := (sSeq (sExpr (eApp (eVar 1) (eFrz cf (eFn (newM "Journey" (callM m_Journey_init 4 0 4 [(0, 0), (0, 1), (0, 2), (0, 3)] [.int 10, .int 10])) (aCons (eOp addD (eCut (eVar 5) oNone (oSome (eUn negD (eC (.int 1))))) (eTup (aCons (eOp modD (eOp addD (eIdxB (eVar 5) (eUn negD (eC (.int 1)))) (eC (.int 1))) (eC (.int 4))) aNil))) (aCons (eIdxB (eVar 0) (eC (.int 1))) (aCons (eIdxB (eVar 0) (eC (.int 2))) aNil))) aNil)))) t__law_alike_right_8)
instance : Tl t__law_alike_right_7 (sSeq (sExpr (eApp (eVar 1) (eFrz cf (eFn (newM "Journey" (callM m_Journey_init 4 0 4 [(0, 0), (0, 1), (0, 2), (0, 3)] [.int 10, .int 10])) (aCons (eOp addD (eCut (eVar 5) oNone (oSome (eUn negD (eC (.int 1))))) (eTup (aCons (eOp modD (eOp addD (eIdxB (eVar 5) (eUn negD (eC (.int 1)))) (eC (.int 1))) (eC (.int 4))) aNil))) (aCons (eIdxB (eVar 0) (eC (.int 1))) (aCons (eIdxB (eVar 0) (eC (.int 2))) aNil))) aNil)))) t__law_alike_right_8) := ⟨rfl⟩
def t__law_alike_right_6 : ES := (sSeq (sSet 1 (eLstM (aCons (eFrz cf (eFn (newM "Journey" (callM m_Journey_init 4 0 4 [(0, 0), (0, 1), (0, 2), (0, 3)] [.int 10, .int 10])) (aCons (eVar 5) (aCons (eIdxB (eVar 0) (eC (.int 1))) (aCons (eOp modD (eOp addD (eIdxB (eVar 0) (eC (.int 2))) (eC (.int 1))) (eC (.int 11))) aNil))) aNil)) (aCons (eFrz cf (eFn (newM "Journey" (callM m_Journey_init 4 0 4 [(0, 0), (0, 1), (0, 2), (0, 3)] [.int 10, .int 10])) (aCons (eVar 5) (aCons (eOp modD (eOp addD (eIdxB (eVar 0) (eC (.int 1))) (eC (.int 1))) (eC (.int 11))) (aCons (eIdxB (eVar 0) (eC (.int 2))) aNil))) aNil)) aNil)))) t__law_alike_right_7)
instance : Tl t__law_alike_right_6 (sSeq (sSet 1 (eLstM (aCons (eFrz cf (eFn (newM "Journey" (callM m_Journey_init 4 0 4 [(0, 0), (0, 1), (0, 2), (0, 3)] [.int 10, .int 10])) (aCons (eVar 5) (aCons (eIdxB (eVar 0) (eC (.int 1))) (aCons (eOp modD (eOp addD (eIdxB (eVar 0) (eC (.int 2))) (eC (.int 1))) (eC (.int 11))) aNil))) aNil)) (aCons (eFrz cf (eFn (newM "Journey" (callM m_Journey_init 4 0 4 [(0, 0), (0, 1), (0, 2), (0, 3)] [.int 10, .int 10])) (aCons (eVar 5) (aCons (eOp modD (eOp addD (eIdxB (eVar 0) (eC (.int 1))) (eC (.int 1))) (eC (.int 11))) (aCons (eIdxB (eVar 0) (eC (.int 2))) aNil))) aNil)) aNil)))) t__law_alike_right_7) := ⟨rfl⟩
def t__law_alike_right_4 : ES := (sSeq (sIf (bOr (bVal (eEqO "Journey" m_Journey_eq not (eFrz cf (eFn (newM "Journey" (callM m_Journey_init 2 0 4 [(0, 0), (0, 1), (1, 0), (1, 1)] [.int 10, .int 10])) (aCons (eVar 5) aNil) aNil)) (eFrz cf (eFn (newM "Journey" (callM m_Journey_init 4 0 4 [(0, 0), (0, 1), (0, 2), (0, 3)] [.int 10, .int 10])) (aCons (eVar 5) (aCons (eC (.int 10)) (aCons (eC (.int 10)) aNil))) aNil)))) (bVal (eEqO "Journey" m_Journey_eq not (eFrz cf (eFn (newM "Journey" (callM m_Journey_init 2 1 4 [(0, 0), (0, 1), (2, 0), (1, 1)] [.int 10, .int 10])) (aCons (eVar 5) aNil) (aCons (eC (.int 3)) aNil))) (eFrz cf (eFn (newM "Journey" (callM m_Journey_init 4 0 4 [(0, 0), (0, 1), (0, 2), (0, 3)] [.int 10, .int 10])) (aCons (eVar 5) (aCons (eC (.int 3)) (aCons (eC (.int 10)) aNil))) aNil))))) (sRet (eC (.bl false))) sPass) t__law_alike_right_6)
instance : Tl t__law_alike_right_4 (sSeq (sIf (bOr (bVal (eEqO "Journey" m_Journey_eq not (eFrz cf (eFn (newM "Journey" (callM m_Journey_init 2 0 4 [(0, 0), (0, 1), (1, 0), (1, 1)] [.int 10, .int 10])) (aCons (eVar 5) aNil) aNil)) (eFrz cf (eFn (newM "Journey" (callM m_Journey_init 4 0 4 [(0, 0), (0, 1), (0, 2), (0, 3)] [.int 10, .int 10])) (aCons (eVar 5) (aCons (eC (.int 10)) (aCons (eC (.int 10)) aNil))) aNil)))) (bVal (eEqO "Journey" m_Journey_eq not (eFrz cf (eFn (newM "Journey" (callM m_Journey_init 2 1 4 [(0, 0), (0, 1), (2, 0), (1, 1)] [.int 10, .int 10])) (aCons (eVar 5) aNil) (aCons (eC (.int 3)) aNil))) (eFrz cf (eFn (newM "Journey" (callM m_Journey_init 4 0 4 [(0, 0), (0, 1), (0, 2), (0, 3)] [.int 10, .int 10])) (aCons (eVar 5) (aCons (eC (.int 3)) (aCons (eC (.int 10)) aNil))) aNil))))) (sRet (eC (.bl false))) sPass) t__law_alike_right_6) := ⟨rfl⟩
def t__law_alike_right_2 : ES := (sSeq (sIf (bOr (bVal (eEqA tab_0 cls_0 not (eVar 4) (eFrz cf (eFn (newM "Journey" (callM m_Journey_init 1 3 4 [(0, 0), (2, 1), (2, 2), (2, 0)] [.int 10, .int 10])) aNil (aCons (eIdxB (eVar 0) (eC (.int 2))) (aCons (eVar 5) (aCons (eIdxB (eVar 0) (eC (.int 1))) aNil))))))) (bNot (bVal (eEqA tab_0 cls_0 id (eVar 4) (eFrz cf (eFn (newM "Journey" (callM m_Journey_init 3 1 4 [(0, 0), (0, 1), (0, 2), (2, 0)] [.int 10, .int 10])) (aCons (eVar 5) (aCons (eIdxB (eVar 0) (eC (.int 1))) aNil)) (aCons (eIdxB (eVar 0) (eC (.int 2))) aNil))))))) (sRet (eC (.bl false))) sPass) t__law_alike_right_4)
instance : Tl t__law_alike_right_2 (sSeq (sIf (bOr (bVal (eEqA tab_0 cls_0 not (eVar 4) (eFrz cf (eFn (newM "Journey" (callM m_Journey_init 1 3 4 [(0, 0), (2, 1), (2, 2), (2, 0)] [.int 10, .int 10])) aNil (aCons (eIdxB (eVar 0) (eC (.int 2))) (aCons (eVar 5) (aCons (eIdxB (eVar 0) (eC (.int 1))) aNil))))))) (bNot (bVal (eEqA tab_0 cls_0 id (eVar 4) (eFrz cf (eFn (newM "Journey" (callM m_Journey_init 3 1 4 [(0, 0), (0, 1), (0, 2), (2, 0)] [.int 10, .int 10])) (aCons (eVar 5) (aCons (eIdxB (eVar 0) (eC (.int 1))) aNil)) (aCons (eIdxB (eVar 0) (eC (.int 2))) aNil))))))) (sRet (eC (.bl false))) sPass) t__law_alike_right_4) := ⟨rfl⟩
theorem x__law_alike_right : b__law_alike_right = (sSeq (sPar2 4 5 (aCons (eFrz cf (eFn (newM "Journey" (callM m_Journey_init 4 0 4 [(0, 0), (0, 1), (0, 2), (0, 3)] [.int 10, .int 10])) (aCons (eIdxB (eVar 0) (eC (.int 0))) (aCons (eIdxB (eVar 0) (eC (.int 1))) (aCons (eIdxB (eVar 0) (eC (.int 2))) aNil))) aNil)) (aCons (eIdxB (eVar 0) (eC (.int 0))) aNil))) t__law_alike_right_2) := rfl
def b__law_odd : ES :=
  (sSeq (sSet 1 (eLst (aCons (eC .non) (aCons (eC (.bl true)) (aCons (eC (.bl false)) (aCons (eC (.int 0)) (aCons (eUn negD (eC (.int 1))) (aCons (eC (.int 11)) (aCons (eC (.int 4)) (aCons (eC (.str "")) (aCons (eC (.str "5")) (aCons (eC (.str "begun")) (aCons (eTup aNil) (aCons (eLst aNil) (aCons (eC (.dct [])) (aCons (eTup (aCons (eC (.int 0)) aNil)) (aCons (eLst (aCons (eC (.int 0)) aNil)) (aCons (eTup (aCons (eC (.int 4)) aNil)) (aCons (eTup (aCons (eC (.bl true)) aNil)) (aCons (eTup (aCons (eC (.str "0")) aNil)) (aCons (eOp powD (eC (.int 10)) (eC (.int 29))) aNil)))))))))))))))))))))
  (sRet (eIdxB (eOp addD (eVar 1) (eLst (aCons (eOp mulR (eTup (aCons (eC (.int 0)) aNil)) (eC (.int 31))) (aCons (eC (dctC [(.inr "a", .int 0)])) (aCons (eC (.str "meal 5")) aNil))))) (eFn (callM m__law_take 2 0 2 [(0, 0), (0, 1)] []) (aCons (eVar 0) (aCons (eC (.int 22)) aNil)) aNil))))
def m__law_odd : Fn := fnM 2 b__law_odd
def t__law_odd_2 : ES := (sRet (eIdxB (eOp addD (eVar 1) (eLst (aCons (eOp mulR (eTup (aCons (eC (.int 0)) aNil)) (eC (.int 31))) (aCons (eC (dctC [(.inr "a", .int 0)])) (aCons (eC (.str "meal 5")) aNil))))) (eFn (callM m__law_take 2 0 2 [(0, 0), (0, 1)] []) (aCons (eVar 0) (aCons (eC (.int 22)) aNil)) aNil)))
instance : Tl t__law_odd_2 (sRet (eIdxB (eOp addD (eVar 1) (eLst (aCons (eOp mulR (eTup (aCons (eC (.int 0)) aNil)) (eC (.int 31))) (aCons (eC (dctC [(.inr "a", .int 0)])) (aCons (eC (.str "meal 5")) aNil))))) (eFn (callM m__law_take 2 0 2 [(0, 0), (0, 1)] []) (aCons (eVar 0) (aCons (eC (.int 22)) aNil)) aNil))) := ⟨rfl⟩
theorem x__law_odd : b__law_odd = (sSeq (sSet 1 (eLst (aCons (eC .non) (aCons (eC (.bl true)) (aCons (eC (.bl false)) (aCons (eC (.int 0)) (aCons (eUn negD (eC (.int 1))) (aCons (eC (.int 11)) (aCons (eC (.int 4)) (aCons (eC (.str "")) (aCons (eC (.str "5")) (aCons (eC (.str "begun")) (aCons (eTup aNil) (aCons (eLst aNil) (aCons (eC (.dct [])) (aCons (eTup (aCons (eC (.int 0)) aNil)) (aCons (eLst (aCons (eC (.int 0)) aNil)) (aCons (eTup (aCons (eC (.int 4)) aNil)) (aCons (eTup (aCons (eC (.bl true)) aNil)) (aCons (eTup (aCons (eC (.str "0")) aNil)) (aCons (eOp powD (eC (.int 10)) (eC (.int 29))) aNil))))))))))))))))))))) t__law_odd_2) := rfl
def b_law : ES :=
  (sSeq (sFor (itR1 (aCons (eB bMax2 (aCons (eC (.int 1)) (aCons (eB bMin2 (aCons (eB bLenA (aCons (eVar 0) aNil)) (aCons (eC (.int 3)) aNil))) aNil))) aNil)) (pName 1) (sFor (itR1 (aCons (eC (.int 2)) aNil)) (pName 2) (sSeq (sSet 3 (eFn (callM m__law_box 3 0 3 [(0, 0), (0, 1), (0, 2)] []) (aCons (eVar 0) (aCons (eVar 1) (aCons (eVar 2) aNil))) aNil))
  (sSeq (sSet 4 (eTup (aCons (eFn (callM m__law_towns 1 0 1 [(0, 0)] []) (aCons (eVar 3) aNil) aNil) (aCons (eFn (callM m__law_take 2 0 2 [(0, 0), (0, 1)] []) (aCons (eVar 3) (aCons (eC (.int 11)) aNil)) aNil) (aCons (eIdxB (eLst (aCons (eC (.int 10)) (aCons (eC (.int 0)) (aCons (eFn (callM m__law_take 2 0 2 [(0, 0), (0, 1)] []) (aCons (eVar 3) (aCons (eC (.int 11)) aNil)) aNil) aNil)))) (eFn (callM m__law_take 2 0 2 [(0, 0), (0, 1)] []) (aCons (eVar 3) (aCons (eC (.int 3)) aNil)) aNil)) aNil)))))
  (sSeq (sIf (bOr (bNot (bVal (eFn (callM m__law_made_right 1 0 1 [(0, 0)] []) (aCons (eVar 4) aNil) aNil))) (bNot (bVal (eFn (callM m__law_alike_right 1 0 1 [(0, 0)] []) (aCons (eVar 4) aNil) aNil)))) (sRet (eC (.bl false))) sPass)
  (sSeq (sFor (itR1 (aCons (eC (.int 10)) aNil)) (pName 5) (sSeq (sSet 8 (eListM (aCons (eVar 4) aNil)))
  (sSeq (sFor (itR1 (aCons (eC (.int 3)) aNil)) (pName 9) (sIf (bVal (eOp eqD (eFn (callM m__law_take 2 0 2 [(0, 0), (0, 1)] []) (aCons (eVar 3) (aCons (eC (.int 2)) aNil)) aNil) (eC (.int 0)))) (sSetIt (eVar 8) (eVar 9) (eFn (callM m__law_odd 1 0 1 [(0, 0)] []) (aCons (eVar 3) aNil) aNil)) sPass))
  (sIf (bNot (bVal (eFn (callM m__law_made_right 1 0 1 [(0, 0)] []) (aCons (eB bTuple (aCons (eFrzL (eVar 8)) aNil)) aNil) aNil))) (sRet (eC (.bl false))) sPass))))
  (sSeq (sSet 6 (eLst (aCons (eOp mulR (eIdxB (eVar 4) (eC (.int 0))) (eC (.int 31))) (aCons (eCut (eOp mulR (eIdxB (eVar 4) (eC (.int 0))) (eC (.int 30))) oNone (oSome (eC (.int 30)))) (aCons (eB bList (aCons (eIdxB (eVar 4) (eC (.int 0))) aNil)) (aCons (eOp addD (eIdxB (eVar 4) (eC (.int 0))) (eTup (aCons (eC (.int 4)) aNil))) (aCons (eOp addD (eIdxB (eVar 4) (eC (.int 0))) (eTup (aCons (eC (.bl true)) aNil))) (aCons (eTup (aCons (eC .non) aNil)) (aCons (eTup (aCons (eC (.bl false)) aNil)) aNil)))))))))
  (sFor (itAny (eOp addD (eVar 6) (eLst (aCons (eOp addD (eTup (aCons (eUn negD (eC (.int 1))) aNil)) (eCut (eIdxB (eVar 4) (eC (.int 0))) (oSome (eC (.int 1))) oNone)) (aCons (eOp addD (eCut (eIdxB (eVar 4) (eC (.int 0))) oNone (oSome (eUn negD (eC (.int 1))))) (eTup (aCons (eUn negD (eC (.int 1))) aNil))) (aCons (eTup (aCons (eLst (aCons (eC (.int 0)) aNil)) aNil)) aNil)))))) (pName 7) (sIf (bNot (bVal (eFn (callM m__law_made_right 1 0 1 [(0, 0)] []) (aCons (eTup (aCons (eVar 7) (aCons (eIdxB (eVar 4) (eC (.int 1))) (aCons (eIdxB (eVar 4) (eC (.int 2))) aNil)))) aNil) aNil))) (sRet (eC (.bl false))) sPass)))))))))
  (sRet (eC (.bl true))))
def m_law : Fn := fnM 10 b_law
def t_law_10 : ES := (sIf (bVal (eOp eqD (eFn (callM m__law_take 2 0 2 [(0, 0), (0, 1)] []) (aCons (eVar 3) (aCons (eC (.int 2)) aNil)) aNil) (eC (.int 0)))) (sSetIt (eVar 8) (eVar 9) (eFn (callM m__law_odd 1 0 1 [(0, 0)] []) (aCons (eVar 3) aNil) aNil)) sPass)
instance : Tl t_law_10 (sIf (bVal (eOp eqD (eFn (callM m__law_take 2 0 2 [(0, 0), (0, 1)] []) (aCons (eVar 3) (aCons (eC (.int 2)) aNil)) aNil) (eC (.int 0)))) (sSetIt (eVar 8) (eVar 9) (eFn (callM m__law_odd 1 0 1 [(0, 0)] []) (aCons (eVar 3) aNil) aNil)) sPass) := ⟨rfl⟩
def t_law_12 : ES := (sIf (bNot (bVal (eFn (callM m__law_made_right 1 0 1 [(0, 0)] []) (aCons (eB bTuple (aCons (eFrzL (eVar 8)) aNil)) aNil) aNil))) (sRet (eC (.bl false))) sPass)
instance : Tl t_law_12 (sIf (bNot (bVal (eFn (callM m__law_made_right 1 0 1 [(0, 0)] []) (aCons (eB bTuple (aCons (eFrzL (eVar 8)) aNil)) aNil) aNil))) (sRet (eC (.bl false))) sPass) := ⟨rfl⟩
def t_law_9 : ES := (sSeq (sFor (itR1 (aCons (eC (.int 3)) aNil)) (pName 9) t_law_10) t_law_12)
instance : Tl t_law_9 (sSeq (sFor (itR1 (aCons (eC (.int 3)) aNil)) (pName 9) t_law_10) t_law_12) := ⟨rfl⟩
def t_law_8 : ES := (sSeq (sSet 8 (eListM (aCons (eVar 4) aNil))) t_law_9)
instance : Tl t_law_8 (sSeq (sSet 8 (eListM (aCons (eVar 4) aNil))) t_law_9) := ⟨rfl⟩
def t_law_16 : ES := (sIf (bNot (bVal (eFn (callM m__law_made_right 1 0 1 [(0, 0)] []) (aCons (eTup (aCons (eVar 7) (aCons (eIdxB (eVar 4) (eC (.int 1))) (aCons (eIdxB (eVar 4) (eC (.int 2))) aNil)))) aNil) aNil))) (sRet (eC (.bl false))) sPass)
instance : Tl t_law_16 (sIf (bNot (bVal (eFn (callM m__law_made_right 1 0 1 [(0, 0)] []) (aCons (eTup (aCons (eVar 7) (aCons (eIdxB (eVar 4) (eC (.int 1))) (aCons (eIdxB (eVar 4) (eC (.int 2))) aNil)))) aNil) aNil))) (sRet (eC (.bl false))) sPass) := ⟨rfl⟩
def t_law_15 : ES := (sFor (itAny (eOp addD (eVar 6) (eLst (aCons (eOp addD (eTup (aCons (eUn negD (eC (.int 1))) aNil)) (eCut (eIdxB (eVar 4) (eC (.int 0))) (oSome (eC (.int 1))) oNone)) (aCons (eOp addD (eCut (eIdxB (eVar 4) (eC (.int 0))) oNone (oSome (eUn negD (eC (.int 1))))) (eTup (aCons (eUn negD (eC (.int 1))) aNil))) (aCons (eTup (aCons (eLst (aCons (eC (.int 0)) aNil)) aNil)) aNil)))))) (pName 7) t_law_16)
instance : Tl t_law_15 (sFor (itAny (eOp addD (eVar 6) (eLst (aCons (eOp addD (eTup (aCons (eUn negD (eC (.int 1))) aNil)) (eCut (eIdxB (eVar 4) (eC (.int 0))) (oSome (eC (.int 1))) oNone)) (aCons (eOp addD (eCut (eIdxB (eVar 4) (eC (.int 0))) oNone (oSome (eUn negD (eC (.int 1))))) (eTup (aCons (eUn negD (eC (.int 1))) aNil))) (aCons (eTup (aCons (eLst (aCons (eC (.int 0)) aNil)) aNil)) aNil)))))) (pName 7) t_law_16) := ⟨rfl⟩
def t_law_14 : ES := (sSeq (sSet 6 (eLst (aCons (eOp mulR (eIdxB (eVar 4) (eC (.int 0))) (eC (.int 31))) (aCons (eCut (eOp mulR (eIdxB (eVar 4) (eC (.int 0))) (eC (.int 30))) oNone (oSome (eC (.int 30)))) (aCons (eB bList (aCons (eIdxB (eVar 4) (eC (.int 0))) aNil)) (aCons (eOp addD (eIdxB (eVar 4) (eC (.int 0))) (eTup (aCons (eC (.int 4)) aNil))) (aCons (eOp addD (eIdxB (eVar 4) (eC (.int 0))) (eTup (aCons (eC (.bl true)) aNil))) (aCons (eTup (aCons (eC .non) aNil)) (aCons (eTup (aCons (eC (.bl false)) aNil)) aNil))))))))) t_law_15)
instance : Tl t_law_14 (sSeq (sSet 6 (eLst (aCons (eOp mulR (eIdxB (eVar 4) (eC (.int 0))) (eC (.int 31))) (aCons (eCut (eOp mulR (eIdxB (eVar 4) (eC (.int 0))) (eC (.int 30))) oNone (oSome (eC (.int 30)))) (aCons (eB bList (aCons (eIdxB (eVar 4) (eC (.int 0))) aNil)) (aCons (eOp addD (eIdxB (eVar 4) (eC (.int 0))) (eTup (aCons (eC (.int 4)) aNil))) (aCons (eOp addD (eIdxB (eVar 4) (eC (.int 0))) (eTup (aCons (eC (.bl true)) aNil))) (aCons (eTup (aCons (eC .non) aNil)) (aCons (eTup (aCons (eC (.bl false)) aNil)) aNil))))))))) t_law_15) := ⟨rfl⟩
def t_law_7 : ES := (sSeq (sFor (itR1 (aCons (eC (.int 10)) aNil)) (pName 5) t_law_8) t_law_14)
instance : Tl t_law_7 (sSeq (sFor (itR1 (aCons (eC (.int 10)) aNil)) (pName 5) t_law_8) t_law_14) := ⟨rfl⟩
def t_law_5 : ES := (sSeq (sIf (bOr (bNot (bVal (eFn (callM m__law_made_right 1 0 1 [(0, 0)] []) (aCons (eVar 4) aNil) aNil))) (bNot (bVal (eFn (callM m__law_alike_right 1 0 1 [(0, 0)] []) (aCons (eVar 4) aNil) aNil)))) (sRet (eC (.bl false))) sPass) t_law_7)
instance : Tl t_law_5 (sSeq (sIf (bOr (bNot (bVal (eFn (callM m__law_made_right 1 0 1 [(0, 0)] []) (aCons (eVar 4) aNil) aNil))) (bNot (bVal (eFn (callM m__law_alike_right 1 0 1 [(0, 0)] []) (aCons (eVar 4) aNil) aNil)))) (sRet (eC (.bl false))) sPass) t_law_7) := ⟨rfl⟩
def t_law_4 : ES := (sSeq (sSet 4 (eTup (aCons (eFn (callM m__law_towns 1 0 1 [(0, 0)] []) (aCons (eVar 3) aNil) aNil) (aCons (eFn (callM m__law_take 2 0 2 [(0, 0), (0, 1)] []) (aCons (eVar 3) (aCons (eC (.int 11)) aNil)) aNil) (aCons (eIdxB (eLst (aCons (eC (.int 10)) (aCons (eC (.int 0)) (aCons (eFn (callM m__law_take 2 0 2 [(0, 0), (0, 1)] []) (aCons (eVar 3) (aCons (eC (.int 11)) aNil)) aNil) aNil)))) (eFn (callM m__law_take 2 0 2 [(0, 0), (0, 1)] []) (aCons (eVar 3) (aCons (eC (.int 3)) aNil)) aNil)) aNil))))) t_law_5)
instance : Tl t_law_4 (sSeq (sSet 4 (eTup (aCons (eFn (callM m__law_towns 1 0 1 [(0, 0)] []) (aCons (eVar 3) aNil) aNil) (aCons (eFn (callM m__law_take 2 0 2 [(0, 0), (0, 1)] []) (aCons (eVar 3) (aCons (eC (.int 11)) aNil)) aNil) (aCons (eIdxB (eLst (aCons (eC (.int 10)) (aCons (eC (.int 0)) (aCons (eFn (callM m__law_take 2 0 2 [(0, 0), (0, 1)] []) (aCons (eVar 3) (aCons (eC (.int 11)) aNil)) aNil) aNil)))) (eFn (callM m__law_take 2 0 2 [(0, 0), (0, 1)] []) (aCons (eVar 3) (aCons (eC (.int 3)) aNil)) aNil)) aNil))))) t_law_5) := ⟨rfl⟩
def t_law_3 : ES := (sSeq (sSet 3 (eFn (callM m__law_box 3 0 3 [(0, 0), (0, 1), (0, 2)] []) (aCons (eVar 0) (aCons (eVar 1) (aCons (eVar 2) aNil))) aNil)) t_law_4)
instance : Tl t_law_3 (sSeq (sSet 3 (eFn (callM m__law_box 3 0 3 [(0, 0), (0, 1), (0, 2)] []) (aCons (eVar 0) (aCons (eVar 1) (aCons (eVar 2) aNil))) aNil)) t_law_4) := ⟨rfl⟩
def t_law_2 : ES := (sFor (itR1 (aCons (eC (.int 2)) aNil)) (pName 2) t_law_3)
instance : Tl t_law_2 (sFor (itR1 (aCons (eC (.int 2)) aNil)) (pName 2) t_law_3) := ⟨rfl⟩
def t_law_18 : ES := (sRet (eC (.bl true)))
instance : Tl t_law_18 (sRet (eC (.bl true))) := ⟨rfl⟩
theorem x_law : b_law = (sSeq (sFor (itR1 (aCons (eB bMax2 (aCons (eC (.int 1)) (aCons (eB bMin2 (aCons (eB bLenA (aCons (eVar 0) aNil)) (aCons (eC (.int 3)) aNil))) aNil))) aNil)) (pName 1) t_law_2) t_law_18) := rfl
def top (i : Nat) : Stmt := (PySem.Challenge.pw_roadpence_k31_journeys_made).main.body.getD i (.Pass ⟨0, 0, 0, 0⟩)
def clsBody : Stmt → List Stmt
  | .ClassDef _ _ _ b _ _ _ _ _ _ _ => b
  | _ => []
abbrev meth (i j : Nat) : Stmt := (clsBody (top i)).getD j (.Pass ⟨0, 0, 0, 0⟩)
def d__law_cell : He.DefD := ⟨("_law_cell", none), "_law_cell", "_law_cell", defArgs (top 31), defBody (top 31), defScope (top 31), [], []⟩
def d__law_mix : He.DefD := ⟨("_law_mix", none), "_law_mix", "_law_mix", defArgs (top 32), defBody (top 32), defScope (top 32), [], []⟩
def d__law_box : He.DefD := ⟨("_law_box", none), "_law_box", "_law_box", defArgs (top 33), defBody (top 33), defScope (top 33), [], []⟩
def d__law_take : He.DefD := ⟨("_law_take", none), "_law_take", "_law_take", defArgs (top 34), defBody (top 34), defScope (top 34), [], []⟩
def d__law_towns : He.DefD := ⟨("_law_towns", none), "_law_towns", "_law_towns", defArgs (top 40), defBody (top 40), defScope (top 40), [], []⟩
def d__law_marks : He.DefD := ⟨("_law_marks", none), "_law_marks", "_law_marks", defArgs (top 35), defBody (top 35), defScope (top 35), [], []⟩
def d__law_fields : He.DefD := ⟨("_law_fields", none), "_law_fields", "_law_fields", defArgs (top 36), defBody (top 36), defScope (top 36), [], []⟩
def d__law_which : He.DefD := ⟨("_law_which", none), "_law_which", "_law_which", defArgs (top 37), defBody (top 37), defScope (top 37), [], []⟩
def d__law_said : He.DefD := ⟨("_law_said", none), "_law_said", "_law_said", defArgs (top 38), defBody (top 38), defScope (top 38), [], []⟩
def d_is_whole : He.DefD := ⟨("is_whole", none), "is_whole", "is_whole", defArgs (top 22), defBody (top 22), defScope (top 22), [], []⟩
def d_are_towns : He.DefD := ⟨("are_towns", none), "are_towns", "are_towns", defArgs (top 28), defBody (top 28), defScope (top 28), [], []⟩
def d_NoJourney_init : He.DefD := ⟨("NoJourney", some "__init__"), "__init__", "NoJourney.__init__", defArgs (meth 14 0), defBody (meth 14 0), defScope (meth 14 0), [], []⟩
def d_Journey_init : He.DefD := ⟨("Journey", some "__init__"), "__init__", "Journey.__init__", defArgs (meth 29 0), defBody (meth 29 0), defScope (meth 29 0), [.int 10, .int 10], []⟩
def d__law_whole : He.DefD := ⟨("_law_whole", none), "_law_whole", "_law_whole", defArgs (top 39), defBody (top 39), defScope (top 39), [], []⟩
def d__law_bad : He.DefD := ⟨("_law_bad", none), "_law_bad", "_law_bad", defArgs (top 42), defBody (top 42), defScope (top 42), [], []⟩
def d_NoDay_init : He.DefD := ⟨("NoDay", some "__init__"), "__init__", "NoDay.__init__", defArgs (meth 18 0), defBody (meth 18 0), defScope (meth 18 0), [], []⟩
def d_Journey_town_on : He.DefD := ⟨("Journey", some "town_on"), "town_on", "Journey.town_on", defArgs (meth 29 10), defBody (meth 29 10), defScope (meth 29 10), [], []⟩
def d_Journey_len : He.DefD := ⟨("Journey", some "__len__"), "__len__", "Journey.__len__", defArgs (meth 29 1), defBody (meth 29 1), defScope (meth 29 1), [], []⟩
def d_Journey_lines : He.DefD := ⟨("Journey", some "lines"), "lines", "Journey.lines", defArgs (meth 29 9), defBody (meth 29 9), defScope (meth 29 9), [], []⟩
def d_are_twins : He.DefD := ⟨("are_twins", none), "are_twins", "are_twins", defArgs (top 23), defBody (top 23), defScope (top 23), [], []⟩
def d_Journey_twins : He.DefD := ⟨("Journey", some "twins"), "twins", "Journey.twins", defArgs (meth 29 11), defBody (meth 29 11), defScope (meth 29 11), [], []⟩
def d__law_days_right : He.DefD := ⟨("_law_days_right", none), "_law_days_right", "_law_days_right", defArgs (top 43), defBody (top 43), defScope (top 43), [], []⟩
def d__law_made_right : He.DefD := ⟨("_law_made_right", none), "_law_made_right", "_law_made_right", defArgs (top 44), defBody (top 44), defScope (top 44), [], []⟩
def d_Journey_eq : He.DefD := ⟨("Journey", some "__eq__"), "__eq__", "Journey.__eq__", defArgs (meth 29 2), defBody (meth 29 2), defScope (meth 29 2), [], []⟩
def d__law_alike_right : He.DefD := ⟨("_law_alike_right", none), "_law_alike_right", "_law_alike_right", defArgs (top 45), defBody (top 45), defScope (top 45), [], []⟩
def d__law_odd : He.DefD := ⟨("_law_odd", none), "_law_odd", "_law_odd", defArgs (top 41), defBody (top 41), defScope (top 41), [], []⟩
def d_law : He.DefD := ⟨("law", none), "law", "law", defArgs (top 46), defBody (top 46), defScope (top 46), [], []⟩
def lw : Lw where
  glo := ["Absent", "Journey", "NoBook", "NoDay", "NoHeads", "NoJourney", "NoLine", "NoName", "NoPlace", "NoRate", "NoRates", "NoRule", "NoShare", "NoSpending", "NoSpot", "NoTable", "NoText", "Nothing", "PenceError", "TooMany", "_law_alike_right", "_law_bad", "_law_box", "_law_cell", "_law_days_right", "_law_fields", "_law_made_right", "_law_marks", "_law_mix", "_law_odd", "_law_said", "_law_take", "_law_towns", "_law_which", "_law_whole", "are_towns", "are_twins", "is_whole", "law"]
  free := ["IndexError", "KeyError", "LookupError", "ValueError", "ZeroDivisionError", "abs", "all", "any", "bool", "divmod", "enumerate", "int", "isinstance", "len", "list", "max", "min", "range", "repr", "tuple"]
  gins := [("LAST_TOWN", 3), ("MOST_DAYS", 30), ("TENTHS", 10)]
  cls := ["Journey"]
  noat := [("Journey", "own_ends"), ("Journey", "own_lines"), ("Journey", "own_past"), ("Journey", "own_sums"), ("Journey", "own_towns")]
  meth := [("Journey", "__eq__"), ("Journey", "__len__"), ("Journey", "lines"), ("Journey", "town_on"), ("Journey", "twins")]
  mkr := ["Journey"]
  isi := ["Journey"]
  kit := [(.b "NoneType", .b "bool"), (.b "NoneType", .b "int"), (.b "NoneType", .b "tuple"), (.b "NoneType", .o "Journey"), (.b "bool", .b "bool"), (.b "bool", .b "int"), (.b "bool", .b "tuple"), (.b "bool", .o "Journey"), (.b "dict", .b "bool"), (.b "dict", .b "int"), (.b "dict", .b "tuple"), (.b "dict", .o "Journey"), (.b "int", .b "bool"), (.b "int", .b "int"), (.b "int", .b "tuple"), (.b "int", .o "Journey"), (.b "list", .b "bool"), (.b "list", .b "int"), (.b "list", .b "tuple"), (.b "list", .o "Journey"), (.b "str", .b "bool"), (.b "str", .b "int"), (.b "str", .b "tuple"), (.b "str", .o "Journey"), (.b "tuple", .b "bool"), (.b "tuple", .b "int"), (.b "tuple", .b "tuple"), (.b "tuple", .o "Journey"), (.o "Journey", .b "bool"), (.o "Journey", .b "int"), (.o "Journey", .b "tuple"), (.o "Journey", .o "Journey")]
  tups := []
  defs := [d__law_cell, d__law_mix, d__law_box, d__law_take, d__law_towns, d__law_marks, d__law_fields, d__law_which, d__law_said, d_is_whole, d_are_towns, d_NoJourney_init, d_Journey_init, d__law_whole, d__law_bad, d_NoDay_init, d_Journey_town_on, d_Journey_len, d_Journey_lines, d_are_twins, d_Journey_twins, d__law_days_right, d__law_made_right, d_Journey_eq, d__law_alike_right, d__law_odd, d_law]
  bs := [xiB "NoJourney" btVE "ValueError.__new__" ["part"], ownBaseB "PenceError" "ValueError.__init__", xiB "NoDay" btIE "IndexError.__new__" ["day"], initIsB (.type "IndexError") "IndexError.__init__", fun K => decide (PySem.W.findIn K (.ref (He.ga K ("Journey" : PySem.Str))) "__ne__" = some (some (.builtin "object.__ne__"))), fun K => decide (PySem.W.mroIn K (He.ga K ("Journey" : PySem.Str)) (.type "object") = some true), fun K => decide (∀ c ∈ (["Journey"] : List String), ∀ c' ∈ (["Journey"] : List String), He.ga K (c : PySem.Str) = He.ga K (c' : PySem.Str) → c = c'), fun K => (["Journey"] : List String).all fun c => tyNs.all fun t => PySem.W.notFirst K (He.ga K (c : PySem.Str)) (.type t), fun K => (["Journey"] : List String).all fun c => (["Journey"] : List String).all fun c' => PySem.W.notFirst K (He.ga K (c : PySem.Str)) (.ref (He.ga K (c' : PySem.Str))), fun K => (["Journey"] : List String).all fun c => tyNs.all fun t => decide (PySem.W.subIn K (.ref (He.ga K (c : PySem.Str))) (.type t) = some false), fun K => cnsL.all fun cn => (cf cn).isEmpty || xfB K (He.ga K (cn : PySem.Str)), fun K => cnsL.all fun cn => (cf cn).all fun f => decide (PySem.W.findIn K (.ref (He.ga K (cn : PySem.Str))) (f : PySem.Str) = some none)]
  fas := [.exm "NoJourney" "PenceError" true, .exm "NoJourney" "NoRate" false, .exm "NoJourney" "NoDay" false, .exm "NoJourney" "NoName" false, .exm "NoJourney" "NoHeads" false, .exm "NoDay" "PenceError" false, .exm "NoDay" "NoRate" false, .exm "NoDay" "NoDay" true, .exm "NoDay" "NoName" false, .exm "NoDay" "NoHeads" false]
  exk := cnsL
  kix := cnsL.flatMap fun cn => tyX.map fun t => (cn, t, isx cn t)
  tf := [(("_law_made_right", none), "_law_made_right.<locals>."), (("_law_days_right", none), "_law_days_right.<locals>.")]
section
variable {T : Tb} {P : Program} {w : World} {mg : Str → Option Value} {base : Heap}
theorem xkX (F : Fx T mg lw) (cn : String) (hcn : cn ∈ cnsL) : ExC T.K (He.ga T.K (cn : PySem.Str)) := F.exk cn hcn
theorem kxX (F : Fx T mg lw) (cn : String) (hcn : cn ∈ cnsL) (t : Ty) (ht : t ∈ tyX := by decide +kernel) : PySem.W.kitOne T.K (.ref (He.ga T.K (cn : PySem.Str))) (tyV' T.K t) = some (isx cn t) := F.kix (cn, t, isx cn t) (List.mem_flatMap.mpr ⟨cn, hcn, List.mem_map.mpr ⟨t, ht, rfl⟩⟩)
theorem xfX (F : Fx T mg lw) (cn : String) (hcn : cn ∈ cnsL) (fn : String) (hm : fn ∈ cf cn) : XfC T.K (He.ga T.K (cn : PySem.Str)) ∧ PySem.W.findIn T.K (.ref (He.ga T.K (cn : PySem.Str))) (fn : PySem.Str) = some none := by
  have h1 := List.all_eq_true.mp (F.b 10) cn hcn
  have h2 := List.all_eq_true.mp (List.all_eq_true.mp (F.b 11) cn hcn) fn hm
  refine ⟨xfB_ok ((Bool.or_eq_true_iff.mp h1).resolve_left fun z => ?_), of_decide_eq_true h2⟩
  rw [List.isEmpty_iff.mp z] at hm
  cases hm
theorem nd__law_cell : (["_law_script", "_law_k"] : List Str).Nodup := by decide +kernel
theorem sc__law_cell : FnScope ["_law_script", "_law_k"] ["_law_script", "_law_k"] d__law_cell.scope := ⟨rfl, rfl, rfl, nd__law_cell, rfl, by decide +kernel, by decide +kernel⟩
theorem ok__law_cell (F : Fx T mg lw) (hcf : T.cf = cf) (hx0 : T.xc = none) (hT : T.tabs = tabsOf T.K lw.tf) (TB : TabsB T.K mg base (lw.tf.map (·.1))) : OkF T P w mg base 1 d__law_cell ["_law_script", "_law_k"] m__law_cell := by
  obtain ⟨fd, FD⟩ := F.defs 0 d__law_cell rfl
  refine OkF.mk' (N := ["_law_script", "_law_k"]) FD sc__law_cell fun cdv A outer s H E hr => ?_
  show ISs T E _ (defBody (top 31)) b__law_cell
  exact (is_cons (is_if (ib_cmp (oi_ltA (by rfl) (by exact hr.rm.units0)) (ie_v 1) (ie_b (by exact call_len) bo_lenA (by rfl) (by exact F.f "len") (by decide +kernel) (ia_cons (ie_v 0) ia_nil)) (by rfl)) (is_one (is_ret (ie_idxB (by rfl) (by exact hu1 hr) (ie_v 0) (ie_v 1)))) is_nil)
  (is_one (is_ret ie_int)))
theorem kb__law_cell_0 (fd : FuncData) (FD : FunD T.K d__law_cell.name d__law_cell.qual d__law_cell.params d__law_cell.body d__law_cell.scope (d__law_cell.dvs T.K) [] (He.fAd T.K d__law_cell.at_) fd) : KBD T fd ["_law_script", "_law_k"] 2 [] [(0, 0), (0, 1)] [] :=
  kbd_n FD fun kV doc pm an cdv ct us ws h1 h2 => match us, ws, h1, h2 with | [_, _], [], _, _ => rfl
theorem nd__law_mix : (["_law_cell_here", "_law_k", "_law_some", "_law_stir"] : List Str).Nodup := by decide +kernel
theorem sc__law_mix : FnScope ["_law_cell_here", "_law_k", "_law_some", "_law_stir"] ["_law_cell_here", "_law_k"] d__law_mix.scope := ⟨rfl, rfl, rfl, nd__law_mix, rfl, by decide +kernel, by decide +kernel⟩
theorem ok__law_mix (F : Fx T mg lw) (hcf : T.cf = cf) (hx0 : T.xc = none) (hT : T.tabs = tabsOf T.K lw.tf) (TB : TabsB T.K mg base (lw.tf.map (·.1))) : OkF T P w mg base 1 d__law_mix ["_law_cell_here", "_law_k"] m__law_mix := by
  obtain ⟨fd, FD⟩ := F.defs 1 d__law_mix rfl
  refine OkF.mk' (N := ["_law_cell_here", "_law_k", "_law_some", "_law_stir"]) FD sc__law_mix fun cdv A outer s H E hr => ?_
  show ISs T E _ (defBody (top 32)) b__law_mix
  exact (is_cons (is_st 2 nd__law_mix (ie_lst (ia_cons ie_int (ia_cons ie_int (ia_cons ie_int (ia_cons ie_int (ia_cons ie_int (ia_cons ie_int (ia_cons ie_int (ia_cons ie_int (ia_cons ie_int (ia_cons ie_int (ia_cons ie_int (ia_cons ie_int (ia_cons ie_int ia_nil)))))))))))))))
  (is_cons (is_st 3 nd__law_mix (ie_op (oi_mul) (ie_op (oi_add (by rfl)) (ie_op (oi_mod) (ie_v 0) ie_int) ie_int) (ie_idxB (by rfl) (by exact hu1 hr) (ie_v 2) (ie_op (oi_mod) (ie_v 1) ie_int))))
  (is_cons (is_st 3 nd__law_mix (ie_op (oi_add (by rfl)) (ie_op (oi_add (by rfl)) (ie_v 3) (ie_op (oi_mul) ie_int (ie_v 1))) (ie_op (oi_mul) ie_int (ie_op (oi_fdiv) (ie_v 1) ie_int))))
  (is_cons (is_st 3 nd__law_mix (ie_op (oi_mod) (ie_v 3) ie_int))
  (is_one (is_ret (ie_op (oi_fdiv) (ie_op (oi_mod) (ie_op (oi_add (by rfl)) (ie_op (oi_mul) (ie_v 3) (ie_v 3)) (ie_op (oi_mul) ie_int (ie_v 1))) ie_int) ie_int)))))))
theorem kb__law_mix_0 (fd : FuncData) (FD : FunD T.K d__law_mix.name d__law_mix.qual d__law_mix.params d__law_mix.body d__law_mix.scope (d__law_mix.dvs T.K) [] (He.fAd T.K d__law_mix.at_) fd) : KBD T fd ["_law_cell_here", "_law_k"] 2 [] [(0, 0), (0, 1)] [] :=
  kbd_n FD fun kV doc pm an cdv ct us ws h1 h2 => match us, ws, h1, h2 with | [_, _], [], _, _ => rfl
theorem nd__law_box : (["_law_script", "_law_k", "_law_lap", "_law_cell_here", "_law_number", "_law_j"] : List Str).Nodup := by decide +kernel
theorem sc__law_box : FnScope ["_law_script", "_law_k", "_law_lap", "_law_cell_here", "_law_number", "_law_j"] ["_law_script", "_law_k", "_law_lap"] d__law_box.scope := ⟨rfl, rfl, rfl, nd__law_box, rfl, by decide +kernel, by decide +kernel⟩
theorem ok__law_box (F : Fx T mg lw) (hcf : T.cf = cf) (hx0 : T.xc = none) (hT : T.tabs = tabsOf T.K lw.tf) (TB : TabsB T.K mg base (lw.tf.map (·.1))) : OkF T P w mg base 2 d__law_box ["_law_script", "_law_k", "_law_lap"] m__law_box := by
  obtain ⟨fd, FD⟩ := F.defs 2 d__law_box rfl
  refine OkF.mk' (N := ["_law_script", "_law_k", "_law_lap", "_law_cell_here", "_law_number", "_law_j"]) FD sc__law_box fun cdv A outer s H E hr => ?_
  show ISs T E _ (defBody (top 33)) b__law_box
  exact (is_cons (is_st 3 nd__law_box (ie_fnF (by exact ok__law_cell F hcf hx0 hT TB) (by rfl) (by exact hr.mono (by decide)) (by rfl) (by exact F.g "_law_cell") kb__law_cell_0 (by exact tk_cx) (ak_cons (ia_cons (ie_v 0) (ia_cons (ie_v 1) ia_nil)) ik_nil)))
  (is_cons (is_if (iw_pt (iw_and (ib_cmp (oi_eqP (by rfl) (by exact hr.rm.units)) (ie_op (oi_mod) (ie_v 3) ie_int) ie_int (by rfl)) (iw_and1 (ib_cmp (oi_eqP (by rfl) (by exact hr.rm.units)) (ie_v 2) ie_int (by rfl))))) (is_one (is_ret (ie_lstM (ia_cons (ie_op (oi_fdiv) (ie_b (by exact call_abs) bo_abs (by rfl) (by exact F.f "abs") (by decide +kernel) (ia_cons (ie_v 3) ia_nil)) ie_int) ia_nil)))) is_nil)
  (is_cons (is_st 4 nd__law_box ie_int)
  (is_cons (is_for (vs := allN 6) (by exact passes_of rfl) (by rfl) (ii_r1 (by rfl) (by exact F.f "range") (ia_cons ie_int ia_nil)) (ig_n 5 nd__law_box) (is_one (is_st 4 nd__law_box (ie_op (oi_add (by rfl)) (ie_op (oi_mul) (ie_v 4) ie_int) (ie_fnF (by exact ok__law_mix F hcf hx0 hT TB) (by rfl) (by exact hr.mono (by decide)) (by rfl) (by exact F.g "_law_mix") kb__law_mix_0 (by exact tk_cx) (ak_cons (ia_cons (ie_v 3) (ia_cons (ie_op (oi_add (by rfl)) (ie_op (oi_mul) ie_int (ie_v 2)) (ie_v 5)) ia_nil)) ik_nil))))))
  (is_one (is_ret (ie_lstM (ia_cons (ie_v 4) ia_nil))))))))
theorem kb__law_box_0 (fd : FuncData) (FD : FunD T.K d__law_box.name d__law_box.qual d__law_box.params d__law_box.body d__law_box.scope (d__law_box.dvs T.K) [] (He.fAd T.K d__law_box.at_) fd) : KBD T fd ["_law_script", "_law_k", "_law_lap"] 3 [] [(0, 0), (0, 1), (0, 2)] [] :=
  kbd_n FD fun kV doc pm an cdv ct us ws h1 h2 => match us, ws, h1, h2 with | [_, _, _], [], _, _ => rfl
theorem nd__law_take : (["_law_box_here", "_law_count", "_law_left", "_law_digit"] : List Str).Nodup := by decide +kernel
theorem sc__law_take : FnScope ["_law_box_here", "_law_count", "_law_left", "_law_digit"] ["_law_box_here", "_law_count"] d__law_take.scope := ⟨rfl, rfl, rfl, nd__law_take, rfl, by decide +kernel, by decide +kernel⟩
theorem ok__law_take (F : Fx T mg lw) (hcf : T.cf = cf) (hx0 : T.xc = none) (hT : T.tabs = tabsOf T.K lw.tf) (TB : TabsB T.K mg base (lw.tf.map (·.1))) : OkF T P w mg base 1 d__law_take ["_law_box_here", "_law_count"] m__law_take := by
  obtain ⟨fd, FD⟩ := F.defs 3 d__law_take rfl
  refine OkF.mk' (N := ["_law_box_here", "_law_count", "_law_left", "_law_digit"]) FD sc__law_take fun cdv A outer s H E hr => ?_
  show ISs T E _ (defBody (top 34)) b__law_take
  exact (is_cons (is_unp (vs := allN 4) (ie_b (by exact call_divmodW) bo_divmod (by rfl) (by exact F.f "divmod") (by decide +kernel) (ia_cons (ie_idxB (by rfl) (by exact hu1 hr) (ie_v 0) ie_int) (ia_cons (ie_v 1) ia_nil))) (ig_tup (by rfl) (igs_cons (ig_n 2 nd__law_take) (igs_cons (ig_n 3 nd__law_take) igs_nil)) (len_cons (len_cons len_nil))))
  (is_cons (is_setit (ie_v 2) (ie_v 0) ie_int)
  (is_one (is_ret (ie_v 3)))))
theorem kb__law_take_0 (fd : FuncData) (FD : FunD T.K d__law_take.name d__law_take.qual d__law_take.params d__law_take.body d__law_take.scope (d__law_take.dvs T.K) [] (He.fAd T.K d__law_take.at_) fd) : KBD T fd ["_law_box_here", "_law_count"] 2 [] [(0, 0), (0, 1)] [] :=
  kbd_n FD fun kV doc pm an cdv ct us ws h1 h2 => match us, ws, h1, h2 with | [_, _], [], _, _ => rfl
theorem nd__law_towns : (["_law_box_here", "_law_many", "_law_turn"] : List Str).Nodup := by decide +kernel
theorem sc__law_towns : FnScope ["_law_box_here", "_law_many", "_law_turn"] ["_law_box_here"] d__law_towns.scope := ⟨rfl, rfl, rfl, nd__law_towns, rfl, by decide +kernel, by decide +kernel⟩
theorem ok__law_towns (F : Fx T mg lw) (hcf : T.cf = cf) (hx0 : T.xc = none) (hT : T.tabs = tabsOf T.K lw.tf) (TB : TabsB T.K mg base (lw.tf.map (·.1))) : OkF T P w mg base 2 d__law_towns ["_law_box_here"] m__law_towns := by
  obtain ⟨fd, FD⟩ := F.defs 4 d__law_towns rfl
  refine OkF.mk' (N := ["_law_box_here", "_law_many", "_law_turn"]) FD sc__law_towns fun cdv A outer s H E hr => ?_
  show ISs T E _ (defBody (top 40)) b__law_towns
  exact (is_cons (is_st 1 nd__law_towns (ie_idxB (by rfl) (by exact hu1 hr) (ie_lst (ia_cons ie_int (ia_cons (ie_op (oi_add (by rfl)) ie_int (ie_fnF (by exact ok__law_take F hcf hx0 hT TB) (by rfl) (by exact hr.mono (by decide)) (by rfl) (by exact F.g "_law_take") kb__law_take_0 (by exact tk_cx) (ak_cons (ia_cons (ie_v 0) (ia_cons ie_int ia_nil)) ik_nil))) (ia_cons (ie_op (oi_add (by rfl)) ie_int (ie_fnF (by exact ok__law_take F hcf hx0 hT TB) (by rfl) (by exact hr.mono (by decide)) (by rfl) (by exact F.g "_law_take") kb__law_take_0 (by exact tk_cx) (ak_cons (ia_cons (ie_v 0) (ia_cons ie_int ia_nil)) ik_nil))) ia_nil)))) (ie_fnF (by exact ok__law_take F hcf hx0 hT TB) (by rfl) (by exact hr.mono (by decide)) (by rfl) (by exact F.g "_law_take") kb__law_take_0 (by exact tk_cx) (ak_cons (ia_cons (ie_v 0) (ia_cons ie_int ia_nil)) ik_nil))))
  (is_one (is_ret (ie_bt (by exact call_tuple_of) bo_tuple (by rfl) (by exact F.f "tuple") (by decide +kernel) (ia_cons (ie_lc (own := [("_law_turn", 2)]) (by rfl) nd__law_towns (ii_r1 (by rfl) (by exact F.f "range") (ia_cons (ie_v 1) ia_nil)) (blk_by (by kernel_rfl)) (fun _ _ _ _ _ => (ig_n 2 nd__law_towns)) (fun _ _ _ _ _ => its_nil) (fun _ _ _ _ _ => (ie_fnF (by exact ok__law_take F hcf hx0 hT TB) (by rfl) (by exact hr.mono (by decide)) (by rfl) (by exact F.g "_law_take") kb__law_take_0 (by exact tk_no) (ak_cons (ia_cons (ie_v 0) (ia_cons ie_int ia_nil)) ik_nil)))) ia_nil)))))
theorem kb__law_towns_0 (fd : FuncData) (FD : FunD T.K d__law_towns.name d__law_towns.qual d__law_towns.params d__law_towns.body d__law_towns.scope (d__law_towns.dvs T.K) [] (He.fAd T.K d__law_towns.at_) fd) : KBD T fd ["_law_box_here"] 1 [] [(0, 0)] [] :=
  kbd_n FD fun kV doc pm an cdv ct us ws h1 h2 => match us, ws, h1, h2 with | [_], [], _, _ => rfl
theorem nd__law_marks : (["_law_e", "_law_some"] : List Str).Nodup := by decide +kernel
theorem sc__law_marks : FnScope ["_law_e", "_law_some"] ["_law_e"] d__law_marks.scope := ⟨rfl, rfl, rfl, nd__law_marks, rfl, by decide +kernel, by decide +kernel⟩
theorem bi__law_marks (fd : FuncData) (FD : FunD T.K d__law_marks.name d__law_marks.qual d__law_marks.params d__law_marks.body d__law_marks.scope (d__law_marks.dvs T.K) [] (He.fAd T.K d__law_marks.at_) fd) : L2.Binds T.K fd ["_law_e"] [] := FunD.bindsN FD fun _ _ _ _ _ _ us hl => match us, hl with | [_], _ => rfl
theorem ok__law_marks (F : Fx T mg lw) (hcf : T.cf = cf) (cn : String) (hcn : cn ∈ cnsL) : OkP T P w mg base 1 d__law_marks ["_law_e"] cn (m__law_marks cn) := by
  obtain ⟨fd, FD⟩ := F.defs 5 d__law_marks rfl
  refine OkP.mk' (N := ["_law_e", "_law_some"]) FD sc__law_marks fun cdv A outer s H p z hx hA hz hr => ?_
  show ISs (T.at (some z)) E00 _ (defBody (top 35)) (b__law_marks cn)
  exact (is_cons (is_st 1 nd__law_marks (ie_lst (ia_cons (ie_isX (Tt := .o "NoRates") (by exact List.mem_singleton.mpr rfl) hx (by rfl) (by rw [hz]; exact xkX F cn hcn) (by rw [hz]; exact kxX F cn hcn (.o "NoRates")) (by rfl) (by exact F.f "isinstance") (ie_v 0) (isTy_o (by rfl) (by exact F.g "NoRates"))) (ia_cons (ie_isX (Tt := .o "NoSpot") (by exact List.mem_singleton.mpr rfl) hx (by rfl) (by rw [hz]; exact xkX F cn hcn) (by rw [hz]; exact kxX F cn hcn (.o "NoSpot")) (by rfl) (by exact F.f "isinstance") (ie_v 0) (isTy_o (by rfl) (by exact F.g "NoSpot"))) (ia_cons (ie_isX (Tt := .o "NoShare") (by exact List.mem_singleton.mpr rfl) hx (by rfl) (by rw [hz]; exact xkX F cn hcn) (by rw [hz]; exact kxX F cn hcn (.o "NoShare")) (by rfl) (by exact F.f "isinstance") (ie_v 0) (isTy_o (by rfl) (by exact F.g "NoShare"))) (ia_cons (ie_isX (Tt := .o "NoBook") (by exact List.mem_singleton.mpr rfl) hx (by rfl) (by rw [hz]; exact xkX F cn hcn) (by rw [hz]; exact kxX F cn hcn (.o "NoBook")) (by rfl) (by exact F.f "isinstance") (ie_v 0) (isTy_o (by rfl) (by exact F.g "NoBook"))) ia_nil))))))
  (is_cons (is_st 1 nd__law_marks (ie_op (oi_add (by rfl)) (ie_v 1) (ie_lst (ia_cons (ie_isX (Tt := .o "NoPlace") (by exact List.mem_singleton.mpr rfl) hx (by rfl) (by rw [hz]; exact xkX F cn hcn) (by rw [hz]; exact kxX F cn hcn (.o "NoPlace")) (by rfl) (by exact F.f "isinstance") (ie_v 0) (isTy_o (by rfl) (by exact F.g "NoPlace"))) (ia_cons (ie_isX (Tt := .o "Absent") (by exact List.mem_singleton.mpr rfl) hx (by rfl) (by rw [hz]; exact xkX F cn hcn) (by rw [hz]; exact kxX F cn hcn (.o "Absent")) (by rfl) (by exact F.f "isinstance") (ie_v 0) (isTy_o (by rfl) (by exact F.g "Absent"))) (ia_cons (ie_isX (Tt := .o "Nothing") (by exact List.mem_singleton.mpr rfl) hx (by rfl) (by rw [hz]; exact xkX F cn hcn) (by rw [hz]; exact kxX F cn hcn (.o "Nothing")) (by rfl) (by exact F.f "isinstance") (ie_v 0) (isTy_o (by rfl) (by exact F.g "Nothing"))) (ia_cons (ie_isX (Tt := .o "NoTable") (by exact List.mem_singleton.mpr rfl) hx (by rfl) (by rw [hz]; exact xkX F cn hcn) (by rw [hz]; exact kxX F cn hcn (.o "NoTable")) (by rfl) (by exact F.f "isinstance") (ie_v 0) (isTy_o (by rfl) (by exact F.g "NoTable"))) ia_nil)))))))
  (is_cons (is_st 1 nd__law_marks (ie_op (oi_add (by rfl)) (ie_v 1) (ie_lst (ia_cons (ie_isX (Tt := .o "NoLine") (by exact List.mem_singleton.mpr rfl) hx (by rfl) (by rw [hz]; exact xkX F cn hcn) (by rw [hz]; exact kxX F cn hcn (.o "NoLine")) (by rfl) (by exact F.f "isinstance") (ie_v 0) (isTy_o (by rfl) (by exact F.g "NoLine"))) (ia_cons (ie_isX (Tt := .o "NoSpending") (by exact List.mem_singleton.mpr rfl) hx (by rfl) (by rw [hz]; exact xkX F cn hcn) (by rw [hz]; exact kxX F cn hcn (.o "NoSpending")) (by rfl) (by exact F.f "isinstance") (ie_v 0) (isTy_o (by rfl) (by exact F.g "NoSpending"))) (ia_cons (ie_isX (Tt := .o "NoRule") (by exact List.mem_singleton.mpr rfl) hx (by rfl) (by rw [hz]; exact xkX F cn hcn) (by rw [hz]; exact kxX F cn hcn (.o "NoRule")) (by rfl) (by exact F.f "isinstance") (ie_v 0) (isTy_o (by rfl) (by exact F.g "NoRule"))) (ia_cons (ie_isX (Tt := .o "NoJourney") (by exact List.mem_singleton.mpr rfl) hx (by rfl) (by rw [hz]; exact xkX F cn hcn) (by rw [hz]; exact kxX F cn hcn (.o "NoJourney")) (by rfl) (by exact F.f "isinstance") (ie_v 0) (isTy_o (by rfl) (by exact F.g "NoJourney"))) ia_nil)))))))
  (is_cons (is_st 1 nd__law_marks (ie_op (oi_add (by rfl)) (ie_v 1) (ie_lst (ia_cons (ie_isX (Tt := .o "NoText") (by exact List.mem_singleton.mpr rfl) hx (by rfl) (by rw [hz]; exact xkX F cn hcn) (by rw [hz]; exact kxX F cn hcn (.o "NoText")) (by rfl) (by exact F.f "isinstance") (ie_v 0) (isTy_o (by rfl) (by exact F.g "NoText"))) (ia_cons (ie_isX (Tt := .o "TooMany") (by exact List.mem_singleton.mpr rfl) hx (by rfl) (by rw [hz]; exact xkX F cn hcn) (by rw [hz]; exact kxX F cn hcn (.o "TooMany")) (by rfl) (by exact F.f "isinstance") (ie_v 0) (isTy_o (by rfl) (by exact F.g "TooMany"))) (ia_cons (ie_isX (Tt := .o "NoRate") (by exact List.mem_singleton.mpr rfl) hx (by rfl) (by rw [hz]; exact xkX F cn hcn) (by rw [hz]; exact kxX F cn hcn (.o "NoRate")) (by rfl) (by exact F.f "isinstance") (ie_v 0) (isTy_o (by rfl) (by exact F.g "NoRate"))) (ia_cons (ie_isX (Tt := .o "NoDay") (by exact List.mem_singleton.mpr rfl) hx (by rfl) (by rw [hz]; exact xkX F cn hcn) (by rw [hz]; exact kxX F cn hcn (.o "NoDay")) (by rfl) (by exact F.f "isinstance") (ie_v 0) (isTy_o (by rfl) (by exact F.g "NoDay"))) ia_nil)))))))
  (is_one (is_ret (ie_op (oi_add (by rfl)) (ie_v 1) (ie_lst (ia_cons (ie_isX (Tt := .o "NoName") (by exact List.mem_singleton.mpr rfl) hx (by rfl) (by rw [hz]; exact xkX F cn hcn) (by rw [hz]; exact kxX F cn hcn (.o "NoName")) (by rfl) (by exact F.f "isinstance") (ie_v 0) (isTy_o (by rfl) (by exact F.g "NoName"))) (ia_cons (ie_isX (Tt := .o "NoHeads") (by exact List.mem_singleton.mpr rfl) hx (by rfl) (by rw [hz]; exact xkX F cn hcn) (by rw [hz]; exact kxX F cn hcn (.o "NoHeads")) (by rfl) (by exact F.f "isinstance") (ie_v 0) (isTy_o (by rfl) (by exact F.g "NoHeads"))) ia_nil))))))))))
theorem nd__law_fields : (["_law_e", "_law_at"] : List Str).Nodup := by decide +kernel
theorem sc__law_fields : FnScope ["_law_e", "_law_at"] ["_law_e", "_law_at"] d__law_fields.scope := ⟨rfl, rfl, rfl, nd__law_fields, rfl, by decide +kernel, by decide +kernel⟩
theorem bi__law_fields (fd : FuncData) (FD : FunD T.K d__law_fields.name d__law_fields.qual d__law_fields.params d__law_fields.body d__law_fields.scope (d__law_fields.dvs T.K) [] (He.fAd T.K d__law_fields.at_) fd) : L2.Binds T.K fd ["_law_e", "_law_at"] [] := FunD.bindsN FD fun _ _ _ _ _ _ us hl => match us, hl with | [_, _], _ => rfl
theorem ok__law_fields (F : Fx T mg lw) (hcf : T.cf = cf) (cn : String) (hcn : cn ∈ cnsL) : OkP2 T P w mg base 1 d__law_fields ["_law_e", "_law_at"] cn (m__law_fields cn) := by
  obtain ⟨fd, FD⟩ := F.defs 6 d__law_fields rfl
  refine OkP2.mk' (N := ["_law_e", "_law_at"]) FD sc__law_fields fun cdv A outer s H p z hx hA hz hr => ?_
  show ISs (T.at (some z)) E00 _ (defBody (top 36)) (b__law_fields cn)
  exact (is_cons (is_if (ib_cmp (oi_in (by rfl) (by exact hr.hu)) (ie_v 1) (ie_tup (ia_cons ie_int (ia_cons ie_int (ia_cons ie_int ia_nil)))) (by rfl)) (is_one (is_ret (ie_tup (ia_cons (ie_xfP (fn := "part") (by exact List.mem_singleton.mpr rfl) hx hz hcf (by rfl) (xfX F cn hcn "part") (ie_v 0)) ia_nil)))) is_nil)
  (is_cons (is_if (ib_cmp (oi_eqP (by rfl) (by exact hr.hu)) (ie_v 1) ie_int (by rfl)) (is_one (is_ret (ie_tup (ia_cons (ie_xfP (fn := "row") (by exact List.mem_singleton.mpr rfl) hx hz hcf (by rfl) (xfX F cn hcn "row") (ie_v 0)) ia_nil)))) is_nil)
  (is_cons (is_if (ib_cmp (oi_eqP (by rfl) (by exact hr.hu)) (ie_v 1) ie_int (by rfl)) (is_one (is_ret (ie_tup (ia_cons (ie_xfP (fn := "many") (by exact List.mem_singleton.mpr rfl) hx hz hcf (by rfl) (xfX F cn hcn "many") (ie_v 0)) (ia_cons (ie_xfP (fn := "most") (by exact List.mem_singleton.mpr rfl) hx hz hcf (by rfl) (xfX F cn hcn "most") (ie_v 0)) ia_nil))))) is_nil)
  (is_cons (is_if (ib_cmp (oi_eqP (by rfl) (by exact hr.hu)) (ie_v 1) ie_int (by rfl)) (is_one (is_ret (ie_tup (ia_cons (ie_xfP (fn := "money") (by exact List.mem_singleton.mpr rfl) hx hz hcf (by rfl) (xfX F cn hcn "money") (ie_v 0)) (ia_cons (ie_xfP (fn := "day") (by exact List.mem_singleton.mpr rfl) hx hz hcf (by rfl) (xfX F cn hcn "day") (ie_v 0)) ia_nil))))) is_nil)
  (is_cons (is_if (ib_cmp (oi_eqP (by rfl) (by exact hr.hu)) (ie_v 1) ie_int (by rfl)) (is_one (is_ret (ie_tup (ia_cons (ie_xfP (fn := "day") (by exact List.mem_singleton.mpr rfl) hx hz hcf (by rfl) (xfX F cn hcn "day") (ie_v 0)) ia_nil)))) is_nil)
  (is_cons (is_if (ib_cmp (oi_eqP (by rfl) (by exact hr.hu)) (ie_v 1) ie_int (by rfl)) (is_one (is_ret (ie_tup (ia_cons (ie_xfP (fn := "name") (by exact List.mem_singleton.mpr rfl) hx hz hcf (by rfl) (xfX F cn hcn "name") (ie_v 0)) ia_nil)))) is_nil)
  (is_one (is_ret (ie_if (ib_cmp (oi_eqP (by rfl) (by exact hr.hu)) (ie_v 1) ie_int (by rfl)) (ie_tup (ia_cons (ie_xfP (fn := "heads") (by exact List.mem_singleton.mpr rfl) hx hz hcf (by rfl) (xfX F cn hcn "heads") (ie_v 0)) ia_nil)) (ie_tup ia_nil))))))))))
theorem nd__law_which : (["_law_e", "_law_under", "_law_due", "_law_words", "_law_at", "_law_marks_here"] : List Str).Nodup := by decide +kernel
theorem sc__law_which : FnScope ["_law_e", "_law_under", "_law_due", "_law_words", "_law_at", "_law_marks_here"] ["_law_e"] d__law_which.scope := ⟨rfl, rfl, rfl, nd__law_which, rfl, by decide +kernel, by decide +kernel⟩
theorem bi__law_which (fd : FuncData) (FD : FunD T.K d__law_which.name d__law_which.qual d__law_which.params d__law_which.body d__law_which.scope (d__law_which.dvs T.K) [] (He.fAd T.K d__law_which.at_) fd) : L2.Binds T.K fd ["_law_e"] [] := FunD.bindsN FD fun _ _ _ _ _ _ us hl => match us, hl with | [_], _ => rfl
theorem ok__law_which (F : Fx T mg lw) (hcf : T.cf = cf) (cn : String) (hcn : cn ∈ cnsL) : OkP T P w mg base 2 d__law_which ["_law_e"] cn (m__law_which cn) := by
  obtain ⟨fd, FD⟩ := F.defs 7 d__law_which rfl
  refine OkP.mk' (N := ["_law_e", "_law_under", "_law_due", "_law_words", "_law_at", "_law_marks_here"]) FD sc__law_which fun cdv A outer s H p z hx hA hz hr => ?_
  show ISs (T.at (some z)) E00 _ (defBody (top 37)) (b__law_which cn)
  exact (is_cons (is_par2H 5 1 (by exact List.mem_singleton.mpr rfl) hx hA nd__law_which (ia_cons (ie_fnP (by exact List.mem_singleton.mpr rfl) hx (by first | exact hA | rfl) hz (ok__law_marks F hcf cn hcn) (by rfl) (by exact hr.mono (by decide)) (by rfl) (by exact F.g "_law_marks") bi__law_marks (by exact tk_no) (ie_v 0)) (ia_cons (ie_lst (ia_cons (ie_isX (Tt := .b "ValueError") (by exact List.mem_singleton.mpr rfl) hx (by rfl) (by rw [hz]; exact xkX F cn hcn) (by rw [hz]; exact kxX F cn hcn (.b "ValueError")) (by rfl) (by exact F.f "isinstance") (ie_v 0) (isTy_b (by rfl) (by exact F.f "ValueError") (by decide +kernel))) (ia_cons (ie_isX (Tt := .b "LookupError") (by exact List.mem_singleton.mpr rfl) hx (by rfl) (by rw [hz]; exact xkX F cn hcn) (by rw [hz]; exact kxX F cn hcn (.b "LookupError")) (by rfl) (by exact F.f "isinstance") (ie_v 0) (isTy_b (by rfl) (by exact F.f "LookupError") (by decide +kernel))) (ia_cons (ie_isX (Tt := .b "IndexError") (by exact List.mem_singleton.mpr rfl) hx (by rfl) (by rw [hz]; exact xkX F cn hcn) (by rw [hz]; exact kxX F cn hcn (.b "IndexError")) (by rfl) (by exact F.f "isinstance") (ie_v 0) (isTy_b (by rfl) (by exact F.f "IndexError") (by decide +kernel))) ia_nil)))) ia_nil)))
  (is_cons (is_st 1 nd__law_which (ie_op (oi_add (by rfl)) (ie_v 1) (ie_lst (ia_cons (ie_isX (Tt := .b "KeyError") (by exact List.mem_singleton.mpr rfl) hx (by rfl) (by rw [hz]; exact xkX F cn hcn) (by rw [hz]; exact kxX F cn hcn (.b "KeyError")) (by rfl) (by exact F.f "isinstance") (ie_v 0) (isTy_b (by rfl) (by exact F.f "KeyError") (by decide +kernel))) (ia_cons (ie_isX (Tt := .b "ZeroDivisionError") (by exact List.mem_singleton.mpr rfl) hx (by rfl) (by rw [hz]; exact xkX F cn hcn) (by rw [hz]; exact kxX F cn hcn (.b "ZeroDivisionError")) (by rfl) (by exact F.f "isinstance") (ie_v 0) (isTy_b (by rfl) (by exact F.f "ZeroDivisionError") (by decide +kernel))) ia_nil)))))
  (is_cons (is_if (ib_cmp (oi_neP (by rfl) (by exact hr.hu)) (ie_count (by rfl) (by exact hr.hu65) (ie_v 5) ie_bl) ie_int (by rfl)) (is_one (is_ret (ie_tup (ia_cons ie_str ia_nil)))) is_nil)
  (is_cons (is_st 2 nd__law_which (ie_op (oi_mulR (by rfl)) (ie_lst (ia_cons (ie_lst (ia_cons ie_bl (ia_cons ie_bl (ia_cons ie_bl (ia_cons ie_bl (ia_cons ie_bl ia_nil)))))) ia_nil)) ie_int))
  (is_cons (is_st 2 nd__law_which (ie_op (oi_add (by rfl)) (ie_v 2) (ie_lst (ia_cons (ie_lst (ia_cons ie_bl (ia_cons ie_bl (ia_cons ie_bl (ia_cons ie_bl (ia_cons ie_bl ia_nil)))))) (ia_cons (ie_lst (ia_cons ie_bl (ia_cons ie_bl (ia_cons ie_bl (ia_cons ie_bl (ia_cons ie_bl ia_nil)))))) ia_nil)))))
  (is_cons (is_st 2 nd__law_which (ie_op (oi_add (by rfl)) (ie_v 2) (ie_lst (ia_cons (ie_lst (ia_cons ie_bl (ia_cons ie_bl (ia_cons ie_bl (ia_cons ie_bl (ia_cons ie_bl ia_nil)))))) (ia_cons (ie_lst (ia_cons ie_bl (ia_cons ie_bl (ia_cons ie_bl (ia_cons ie_bl (ia_cons ie_bl ia_nil)))))) ia_nil)))))
  (is_cons (is_st 3 nd__law_which (ie_lst (ia_cons ie_str (ia_cons ie_str (ia_cons ie_str (ia_cons ie_str (ia_cons ie_str (ia_cons ie_str (ia_cons ie_str (ia_cons ie_str (ia_cons ie_str (ia_cons ie_str (ia_cons ie_str ia_nil)))))))))))))
  (is_cons (is_st 3 nd__law_which (ie_op (oi_add (by rfl)) (ie_v 3) (ie_lst (ia_cons ie_str (ia_cons ie_str (ia_cons ie_str (ia_cons ie_str (ia_cons ie_str (ia_cons ie_str (ia_cons ie_str ia_nil))))))))))
  (is_cons (is_st 4 nd__law_which (ie_index (by rfl) (by exact hr.hu65) (ie_v 5) ie_bl))
  (is_one (is_ret (ie_if (ib_cmp (oi_eqP (by rfl) (by exact hr.hu)) (ie_v 1) (ie_idxB (by rfl) (by exact hr.hu1) (ie_v 2) (ie_v 4)) (by rfl)) (ie_op (oi_add (by rfl)) (ie_tup (ia_cons (ie_idxB (by rfl) (by exact hr.hu1) (ie_v 3) (ie_v 4)) ia_nil)) (ie_fnP2 (by exact List.mem_singleton.mpr rfl) hx (by first | exact hA | rfl) hz (ok__law_fields F hcf cn hcn) (by rfl) (by exact hr.mono (by decide)) (by rfl) (by exact F.g "_law_fields") bi__law_fields (by exact tk_no) (ie_v 0) (ie_v 4))) (ie_tup (ia_cons ie_str ia_nil))))))))))))))
theorem nd__law_said : (["_law_call", "_law_e", "_law_found"] : List Str).Nodup := by decide +kernel
theorem sc__law_said : FnScope ["_law_call", "_law_e", "_law_found"] ["_law_call"] d__law_said.scope := ⟨rfl, rfl, rfl, nd__law_said, rfl, by decide +kernel, by decide +kernel⟩
theorem bi__law_said (fd : FuncData) (FD : FunD T.K d__law_said.name d__law_said.qual d__law_said.params d__law_said.body d__law_said.scope (d__law_said.dvs T.K) [] (He.fAd T.K d__law_said.at_) fd) : L2.Binds T.K fd ["_law_call"] [] := FunD.bindsN FD fun _ _ _ _ _ _ us hl => match us, hl with | [_], _ => rfl
def suX : List Stmt := match defBody (top 38) with | [.Try _ [.ExceptHandler _ _ b _] _ _ _, _] => b | _ => []
theorem hsuX (F : Fx T mg lw) (hcf : T.cf = cf) (cdv : Value) (A : Around) (outer : List PySem.Env) (s : Shared) (H : Hp) (hr0 : RG 2 (A.deeper (envOfC d__law_said.qual d__law_said.scope s.heap.objs.size (He.fAd T.K d__law_said.at_) cdv)))
    (a : Addr) (oe : Obj) (cls : Value) (d : Option Addr) (pn : List (Addr × Obj)) (hz : L2N.Zn cls d oe) (hf : ∃ vs, oe.data = .fields vs) : PSs ((cxOf (L2N.CX P w) P w T.K mg base ["_law_call", "_law_e", "_law_found"] d__law_said.qual d__law_said.scope (He.fAd T.K d__law_said.at_) cdv A outer s H E00).suite a ((a, oe) :: pn)) suX (tsX T sx_0 cnsL a cls d) := by
  exact suite_of hz hf fun cn hcn z p hx hz => by
    have hr := hr0.mark (some (.ref z.a))
    exact (is_one (is_ret (ie_fnP (by exact List.mem_cons_self) hx (by first | exact hA | rfl) hz (ok__law_which F hcf cn hcn) (by rfl) (by exact hr.mono (by decide)) (by rfl) (by exact F.g "_law_which") bi__law_which (by exact tk_no) (ie_v 1))))
theorem pk_NoJourney (F : Fx T mg lw) : PySem.W.exmAny T.K (.ref (He.ga T.K ("NoJourney" : PySem.Str))) [.ref (He.ga T.K ("PenceError" : PySem.Str)), .ref (He.ga T.K ("NoRate" : PySem.Str)), .ref (He.ga T.K ("NoDay" : PySem.Str)), .ref (He.ga T.K ("NoName" : PySem.Str)), .ref (He.ga T.K ("NoHeads" : PySem.Str))] = some true := by
  have e0 := He.exm_ok (x := "NoJourney") (y := "PenceError") (b := true) (F.fa 0)
  have e1 := He.exm_ok (x := "NoJourney") (y := "NoRate") (b := false) (F.fa 1)
  have e2 := He.exm_ok (x := "NoJourney") (y := "NoDay") (b := false) (F.fa 2)
  have e3 := He.exm_ok (x := "NoJourney") (y := "NoName") (b := false) (F.fa 3)
  have e4 := He.exm_ok (x := "NoJourney") (y := "NoHeads") (b := false) (F.fa 4)
  simp only [PySem.W.exmAny, e0, e1, e2, e3, e4, Bool.or_true, Bool.true_or, Bool.or_false, Bool.false_or]
theorem pl_NoJourney (fs : List D) (r : D) (S : Store) (h : refL cnsL "NoJourney" fs = some r) : sx_0 "NoJourney" ((List.replicate 3 none).set 1 (some (.thk 0 fs))) S = .ok (.rt r) S := by
  match fs, h with
  | [p0], h => cases h; kernel_rfl
  | [], h => exact absurd h (by simp [refL, refD])
  | _ :: _ :: _, h => exact absurd h (by simp [refL, refD])
theorem pk_NoDay (F : Fx T mg lw) : PySem.W.exmAny T.K (.ref (He.ga T.K ("NoDay" : PySem.Str))) [.ref (He.ga T.K ("PenceError" : PySem.Str)), .ref (He.ga T.K ("NoRate" : PySem.Str)), .ref (He.ga T.K ("NoDay" : PySem.Str)), .ref (He.ga T.K ("NoName" : PySem.Str)), .ref (He.ga T.K ("NoHeads" : PySem.Str))] = some true := by
  have e0 := He.exm_ok (x := "NoDay") (y := "PenceError") (b := false) (F.fa 5)
  have e1 := He.exm_ok (x := "NoDay") (y := "NoRate") (b := false) (F.fa 6)
  have e2 := He.exm_ok (x := "NoDay") (y := "NoDay") (b := true) (F.fa 7)
  have e3 := He.exm_ok (x := "NoDay") (y := "NoName") (b := false) (F.fa 8)
  have e4 := He.exm_ok (x := "NoDay") (y := "NoHeads") (b := false) (F.fa 9)
  simp only [PySem.W.exmAny, e0, e1, e2, e3, e4, Bool.or_true, Bool.true_or, Bool.or_false, Bool.false_or]
theorem pl_NoDay (fs : List D) (r : D) (S : Store) (h : refL cnsL "NoDay" fs = some r) : sx_0 "NoDay" ((List.replicate 3 none).set 1 (some (.thk 0 fs))) S = .ok (.rt r) S := by
  match fs, h with
  | [p0], h => cases h; kernel_rfl
  | [], h => exact absurd h (by simp [refL, refD])
  | _ :: _ :: _, h => exact absurd h (by simp [refL, refD])
theorem hpkX (F : Fx T mg lw) : ∀ cn ∈ cnsL, PySem.W.exmAny T.K (.ref (He.ga T.K (cn : PySem.Str))) [.ref (He.ga T.K ("PenceError" : PySem.Str)), .ref (He.ga T.K ("NoRate" : PySem.Str)), .ref (He.ga T.K ("NoDay" : PySem.Str)), .ref (He.ga T.K ("NoName" : PySem.Str)), .ref (He.ga T.K ("NoHeads" : PySem.Str))] = some true ∧ ∀ fs r S, refL cnsL cn fs = some r → sx_0 cn ((List.replicate 3 none).set 1 (some (.thk 0 fs))) S = .ok (.rt r) S := by
  intro cn hcn
  simp only [cnsL, List.mem_cons, List.not_mem_nil, or_false] at hcn
  rcases hcn with rfl | rfl
  · exact ⟨pk_NoJourney F, pl_NoJourney⟩
  · exact ⟨pk_NoDay F, pl_NoDay⟩
theorem ie_sd {E : XK} {q : He.Defn} {qs : String} {k : Nat} {m : EX} {N0 : List Str} {q0 : Str} {sc0 : Scope} {ad0 : Addr} {cdv0 : Value} {A0 : Around} {outer0 : List PySem.Env} {s0 : Shared} {H0 : Hp} {E0 : XK} {p lpos pos : Pos} {params : Arguments} {body : Expr} {scope : Scope}
    (F : Fx T mg lw) (hcf : T.cf = cf) (hx0 : T.xc = none) (hT : T.tabs = tabsOf T.K lw.tf) (TB : TabsB T.K mg base (lw.tf.map (·.1))) (hq : (q, qs) ∈ lw.tf) (hqs : q0 ++ (".<locals>." : PySem.Str) = (qs : PySem.Str)) (hkw : 2 ≤ k + 1)
    (hcd : cdv0 = .ref (He.codeOf T.K q)) (hr : RG (k + 2) (cxOf (L2N.CX P w) P w T.K mg base N0 q0 sc0 ad0 cdv0 A0 outer0 s0 H0 E0).A) (hg : Gl (cxOf (L2N.CX P w) P w T.K mg base N0 q0 sc0 ad0 cdv0 A0 outer0 s0 H0 E0) "_law_said") (L : LamS sc0 scope) (hdef : defaultsOf params (envOfC q0 sc0 s0.heap.objs.size ad0 cdv0) = ([], []))
    (hbind : ∀ (q : Str) (cl : List (Str × Addr)) (pm cv ctv : Value), bindArgs (PySem.W.kla_fn "<lambda>" q params body scope cl pm cv ctv) ⟨[], []⟩ = pure [])
    (hbody : ∀ (A : Around) (outer : List PySem.Env) (s : Shared) (H : Hp) (E' : XK) (f c' : Addr), RG k (A.deeper (lamEnv (cxOf (L2N.CX P w) P w T.K mg base N0 q0 sc0 ad0 cdv0 A0 outer0 s0 H0 E0) scope s.heap.objs.size f c')) → IE T E' (lamN (cxOf (L2N.CX P w) P w T.K mg base N0 q0 sc0 ad0 cdv0 A0 outer0 s0 H0 E0) A outer s H E' scope f c') body m) :
    IE T E (cxOf (L2N.CX P w) P w T.K mg base N0 q0 sc0 ad0 cdv0 A0 outer0 s0 H0 E0) (.Call (.Name "_law_said" p) [.Lambda params body scope lpos] [] pos) (eSaid "told" (refL cnsL) m) := by
  exact ie_said2 (k := k) (i := 1) (jf := 2) (d := d__law_said) (cns := cnsL) (sx := sx_0) (hp := refL cnsL) (m := m) rfl hx0 hg (F.g "_law_said") (F.defs 8 d__law_said rfl) rfl rfl (by rfl) bi__law_said sc__law_said rfl (.inl rfl) nd__law_said rfl rfl rfl rfl
    (fun cdv s H => ⟨names_of (c := "PenceError") (by rfl) (by exact F.g "PenceError"), names_of (c := "NoRate") (by rfl) (by exact F.g "NoRate"), names_of (c := "NoDay") (by rfl) (by exact F.g "NoDay"), names_of (c := "NoName") (by rfl) (by exact F.g "NoName"), names_of (c := "NoHeads") (by rfl) (by exact F.g "NoHeads")⟩)
    (fun cdv s H hr => hsuX F hcf cdv _ _ s H (hr.mono hkw)) refL_nt refL_in (hpkX F)
    (TB.at_ q (List.mem_map.mpr ⟨_, hq, rfl⟩)) hcd (by
      show (_, (q0 ++ (".<locals>." : PySem.Str)) ++ ("<lambda>" : PySem.Str)) ∈ T.tabs
      rw [hqs, hT]; exact tab_in q qs hq) (by
      show ∀ p ∈ T.tabs, p.1 = _ → p.2 = (q0 ++ (".<locals>." : PySem.Str)) ++ ("<lambda>" : PySem.Str)
      rw [hqs, hT]; exact tab_one F.tfn q qs hq) hr L hdef hbind hbody
theorem nd_is_whole : (["thing", "low", "high"] : List Str).Nodup := by decide +kernel
theorem sc_is_whole : FnScope ["thing", "low", "high"] ["thing", "low", "high"] d_is_whole.scope := ⟨rfl, rfl, rfl, nd_is_whole, rfl, by decide +kernel, by decide +kernel⟩
theorem ok_is_whole (F : Fx T mg lw) (hcf : T.cf = cf) (hx0 : T.xc = none) (hT : T.tabs = tabsOf T.K lw.tf) (TB : TabsB T.K mg base (lw.tf.map (·.1))) : OkF T P w mg base 1 d_is_whole ["thing", "low", "high"] m_is_whole := by
  obtain ⟨fd, FD⟩ := F.defs 9 d_is_whole rfl
  refine OkF.mk' (N := ["thing", "low", "high"]) FD sc_is_whole fun cdv A outer s H E hr => ?_
  show ISs T E _ (defBody (top 22)) b_is_whole
  exact (is_one (is_ret (ie_and (ie_isi (tys := tysL) (Tt := .b "int") (by rfl) (by rfl) (by exact F.f "isinstance") (ie_v 0) (isTy_b (by rfl) (by exact F.f "int") (by decide +kernel)) (by exact F.is' tysL) (by exact F.ki tysL (.b "int"))) (ie_and (ie_not (ie_isi (tys := tysL) (Tt := .b "bool") (by rfl) (by rfl) (by exact F.f "isinstance") (ie_v 0) (isTy_b (by rfl) (by exact F.f "bool") (by decide +kernel)) (by exact F.is' tysL) (by exact F.ki tysL (.b "bool")))) (ie_one (ie_chain (oi_le) (oi_le) (ie_v 1) (ie_v 0) (ie_v 2)))))))
theorem kb_is_whole_0 (fd : FuncData) (FD : FunD T.K d_is_whole.name d_is_whole.qual d_is_whole.params d_is_whole.body d_is_whole.scope (d_is_whole.dvs T.K) [] (He.fAd T.K d_is_whole.at_) fd) : KBD T fd ["thing", "low", "high"] 3 [] [(0, 0), (0, 1), (0, 2)] [] :=
  kbd_n FD fun kV doc pm an cdv ct us ws h1 h2 => match us, ws, h1, h2 with | [_, _, _], [], _, _ => rfl
theorem nd_are_towns : (["thing", "town"] : List Str).Nodup := by decide +kernel
theorem sc_are_towns : FnScope ["thing", "town"] ["thing"] d_are_towns.scope := ⟨rfl, rfl, rfl, nd_are_towns, rfl, by decide +kernel, by decide +kernel⟩
theorem ok_are_towns (F : Fx T mg lw) (hcf : T.cf = cf) (hx0 : T.xc = none) (hT : T.tabs = tabsOf T.K lw.tf) (TB : TabsB T.K mg base (lw.tf.map (·.1))) : OkF T P w mg base 2 d_are_towns ["thing"] m_are_towns := by
  obtain ⟨fd, FD⟩ := F.defs 10 d_are_towns rfl
  refine OkF.mk' (N := ["thing", "town"]) FD sc_are_towns fun cdv A outer s H E hr => ?_
  show ISs T E _ (defBody (top 28)) b_are_towns
  exact (is_cons (is_if (iw_pt (iw_or (ib_not (ib_val (ie_isi (tys := tysL) (Tt := .b "tuple") (by rfl) (by rfl) (by exact F.f "isinstance") (ie_v 0) (isTy_b (by rfl) (by exact F.f "tuple") (by decide +kernel)) (by exact F.is' tysL) (by exact F.ki tysL (.b "tuple"))))) (iw_or1 (ib_not (ib_chain (oi_le) (oi_le) ie_int (ie_b (by exact call_len) bo_lenA (by rfl) (by exact F.f "len") (by decide +kernel) (ia_cons (ie_v 0) ia_nil)) (ie_gint (by rfl) (by exact F.i "MOST_DAYS" 30))))))) (is_one (is_ret ie_bl)) is_nil)
  (is_one (is_ret (ie_b (by exact cr_all rfl) bo_all (by rfl) (by exact F.f "all") (by decide +kernel) (ia_cons (ie_lc (own := [("town", 1)]) (by rfl) nd_are_towns (ii_any (by rfl) (ie_v 0)) (blk_by (by kernel_rfl)) (fun _ _ _ _ _ => (ig_n 1 nd_are_towns)) (fun _ _ _ _ _ => its_nil) (fun _ _ _ _ _ => (ie_fnF (by exact ok_is_whole F hcf hx0 hT TB) (by rfl) (by exact hr.mono (by decide)) (by rfl) (by exact F.g "is_whole") kb_is_whole_0 (by exact tk_no) (ak_cons (ia_cons (ie_v 1) (ia_cons ie_int (ia_cons (ie_gint (by rfl) (by exact F.i "LAST_TOWN" 3)) ia_nil))) ik_nil)))) ia_nil)))))
theorem kb_are_towns_0 (fd : FuncData) (FD : FunD T.K d_are_towns.name d_are_towns.qual d_are_towns.params d_are_towns.body d_are_towns.scope (d_are_towns.dvs T.K) [] (He.fAd T.K d_are_towns.at_) fd) : KBD T fd ["thing"] 1 [] [(0, 0)] [] :=
  kbd_n FD fun kV doc pm an cdv ct us ws h1 h2 => match us, ws, h1, h2 with | [_], [], _, _ => rfl
theorem nd_NoJourney_init : (["self", "part"] : List Str).Nodup := by decide +kernel
theorem sc_NoJourney_init : FnScope ["self", "part"] ["self", "part"] d_NoJourney_init.scope := ⟨rfl, rfl, rfl, nd_NoJourney_init, rfl, by decide +kernel, by decide +kernel⟩
theorem bi_NoJourney_init (fd : FuncData) (FD : FunD T.K d_NoJourney_init.name d_NoJourney_init.qual d_NoJourney_init.params d_NoJourney_init.body d_NoJourney_init.scope (d_NoJourney_init.dvs T.K) [] (He.fAd T.K d_NoJourney_init.at_) fd) : L2.Binds T.K fd ["self", "part"] [] := FunD.bindsN FD fun _ _ _ _ _ _ us hl => match us, hl with | [_, _], _ => rfl
theorem oi_NoJourney (F : Fx T mg lw) : InitOk T P w mg base 1 d_NoJourney_init ["self", "part"] "NoJourney" ["part"] btVE "ValueError" "ValueError.__new__" "ValueError.__init__" := by
  obtain ⟨fd, FD⟩ := F.defs 11 d_NoJourney_init rfl
  have X := xi_of (F.b 0)
  have ob := ownBase_of (F.b 1)
  exact InitOk.of1 xbVE X.xc FD sc_NoJourney_init (by rfl) (X.no "part" (by simp)) (hcall := fun cdv A outer s H E ta ha => pe_xin_own xbVE (by rfl) (by exact F.g "PenceError") ob.1 ob.2.1 ob.2.2 ha)
theorem nd_Journey_init : (["self", "towns", "begun", "ended"] : List Str).Nodup := by decide +kernel
theorem sc_Journey_init : FnScope ["self", "towns", "begun", "ended"] ["self", "towns", "begun", "ended"] d_Journey_init.scope := ⟨rfl, rfl, rfl, nd_Journey_init, rfl, by decide +kernel, by decide +kernel⟩
theorem ok_Journey_init (F : Fx T mg lw) (hcf : T.cf = cf) (hx0 : T.xc = none) (hT : T.tabs = tabsOf T.K lw.tf) (TB : TabsB T.K mg base (lw.tf.map (·.1))) : OkF T P w mg base 3 d_Journey_init ["self", "towns", "begun", "ended"] m_Journey_init := by
  obtain ⟨fd, FD⟩ := F.defs 12 d_Journey_init rfl
  refine OkF.mk' (N := ["self", "towns", "begun", "ended"]) FD sc_Journey_init fun cdv A outer s H E hr => ?_
  show ISs T E _ (defBody (meth 29 0)) b_Journey_init
  exact (is_cons (is_if (ib_not (ib_val (ie_fnF (by exact ok_are_towns F hcf hx0 hT TB) (by rfl) (by exact hr.mono (by decide)) (by rfl) (by exact F.g "are_towns") kb_are_towns_0 (by exact tk_cx) (ak_cons (ia_cons (ie_v 1) ia_nil) ik_nil)))) (is_one (is_raiseF (c := "NoJourney") (by rfl) (by rfl) (by exact tk_cx) (oi_NoJourney F) rfl (xi_of (F.b 0)) (by exact hr.mono (by decide)) bi_NoJourney_init rfl (by rfl) (by exact F.g "NoJourney") (ia_cons ie_str ia_nil) (hlk1 (by rw [hcf]; rfl)))) is_nil)
  (is_cons (is_if (ib_not (ib_val (ie_fnF (by exact ok_is_whole F hcf hx0 hT TB) (by rfl) (by exact hr.mono (by decide)) (by rfl) (by exact F.g "is_whole") kb_is_whole_0 (by exact tk_cx) (ak_cons (ia_cons (ie_v 2) (ia_cons ie_int (ia_cons (ie_gint (by rfl) (by exact F.i "TENTHS" 10)) ia_nil))) ik_nil)))) (is_one (is_raiseF (c := "NoJourney") (by rfl) (by rfl) (by exact tk_cx) (oi_NoJourney F) rfl (xi_of (F.b 0)) (by exact hr.mono (by decide)) bi_NoJourney_init rfl (by rfl) (by exact F.g "NoJourney") (ia_cons ie_str ia_nil) (hlk1 (by rw [hcf]; rfl)))) is_nil)
  (is_cons (is_if (ib_not (ib_val (ie_fnF (by exact ok_is_whole F hcf hx0 hT TB) (by rfl) (by exact hr.mono (by decide)) (by rfl) (by exact F.g "is_whole") kb_is_whole_0 (by exact tk_cx) (ak_cons (ia_cons (ie_v 3) (ia_cons ie_int (ia_cons (ie_gint (by rfl) (by exact F.i "TENTHS" 10)) ia_nil))) ik_nil)))) (is_one (is_raiseF (c := "NoJourney") (by rfl) (by rfl) (by exact tk_cx) (oi_NoJourney F) rfl (xi_of (F.b 0)) (by exact hr.mono (by decide)) bi_NoJourney_init rfl (by rfl) (by exact F.g "NoJourney") (ia_cons ie_str ia_nil) (hlk1 (by rw [hcf]; rfl)))) is_nil)
  (is_cons (is_setattr (by rfl) (by exact F.at' ["Journey"] "own_towns") (ie_v 0) (ie_v 1))
  (is_cons (is_setattr (by rfl) (by exact F.at' ["Journey"] "own_ends") (ie_v 0) (ie_tup (ia_cons (ie_v 2) (ia_cons (ie_v 3) ia_nil))))
  (is_cons (is_setattr (by rfl) (by exact F.at' ["Journey"] "own_lines") (ie_v 0) (ie_lst ia_nil))
  (is_cons (is_setattr (by rfl) (by exact F.at' ["Journey"] "own_sums") (ie_v 0) (ie_lst ia_nil))
  (is_one (is_setattr (by rfl) (by exact F.at' ["Journey"] "own_past") (ie_v 0) (ie_lst ia_nil))))))))))
theorem kb_Journey_init_0 (fd : FuncData) (FD : FunD T.K d_Journey_init.name d_Journey_init.qual d_Journey_init.params d_Journey_init.body d_Journey_init.scope (d_Journey_init.dvs T.K) [] (He.fAd T.K d_Journey_init.at_) fd) : KBD T fd ["self", "towns", "begun", "ended"] 4 [] [(0, 0), (0, 1), (0, 2), (0, 3)] [.int 10, .int 10] :=
  kbd_d (l := [.int 10, .int 10]) FD rfl (by decide) fun Ta kV doc pm an cdv ct us its ws h1 h2 h3 => match us, its, ws, h1, h2, h3 with | [_, _, _, _], [_, _], [], _, _, _ => ⟨_, rfl, rfl⟩
theorem kb_Journey_init_1 (fd : FuncData) (FD : FunD T.K d_Journey_init.name d_Journey_init.qual d_Journey_init.params d_Journey_init.body d_Journey_init.scope (d_Journey_init.dvs T.K) [] (He.fAd T.K d_Journey_init.at_) fd) : KBD T fd ["self", "towns", "begun", "ended"] 1 ["ended", "towns", "begun"] [(0, 0), (2, 1), (2, 2), (2, 0)] [.int 10, .int 10] :=
  kbd_d (l := [.int 10, .int 10]) FD rfl (by decide) fun Ta kV doc pm an cdv ct us its ws h1 h2 h3 => match us, its, ws, h1, h2, h3 with | [_], [_, _], [_, _, _], _, _, _ => ⟨_, rfl, rfl⟩
theorem kb_Journey_init_2 (fd : FuncData) (FD : FunD T.K d_Journey_init.name d_Journey_init.qual d_Journey_init.params d_Journey_init.body d_Journey_init.scope (d_Journey_init.dvs T.K) [] (He.fAd T.K d_Journey_init.at_) fd) : KBD T fd ["self", "towns", "begun", "ended"] 3 ["ended"] [(0, 0), (0, 1), (0, 2), (2, 0)] [.int 10, .int 10] :=
  kbd_d (l := [.int 10, .int 10]) FD rfl (by decide) fun Ta kV doc pm an cdv ct us its ws h1 h2 h3 => match us, its, ws, h1, h2, h3 with | [_, _, _], [_, _], [_], _, _, _ => ⟨_, rfl, rfl⟩
theorem kb_Journey_init_3 (fd : FuncData) (FD : FunD T.K d_Journey_init.name d_Journey_init.qual d_Journey_init.params d_Journey_init.body d_Journey_init.scope (d_Journey_init.dvs T.K) [] (He.fAd T.K d_Journey_init.at_) fd) : KBD T fd ["self", "towns", "begun", "ended"] 2 [] [(0, 0), (0, 1), (1, 0), (1, 1)] [.int 10, .int 10] :=
  kbd_d (l := [.int 10, .int 10]) FD rfl (by decide) fun Ta kV doc pm an cdv ct us its ws h1 h2 h3 => match us, its, ws, h1, h2, h3 with | [_, _], [_, _], [], _, _, _ => ⟨_, rfl, rfl⟩
theorem kb_Journey_init_4 (fd : FuncData) (FD : FunD T.K d_Journey_init.name d_Journey_init.qual d_Journey_init.params d_Journey_init.body d_Journey_init.scope (d_Journey_init.dvs T.K) [] (He.fAd T.K d_Journey_init.at_) fd) : KBD T fd ["self", "towns", "begun", "ended"] 2 ["begun"] [(0, 0), (0, 1), (2, 0), (1, 1)] [.int 10, .int 10] :=
  kbd_d (l := [.int 10, .int 10]) FD rfl (by decide) fun Ta kV doc pm an cdv ct us its ws h1 h2 h3 => match us, its, ws, h1, h2, h3 with | [_, _], [_, _], [_], _, _, _ => ⟨_, rfl, rfl⟩
theorem nd__law_whole : (["_law_thing", "_law_low", "_law_high"] : List Str).Nodup := by decide +kernel
theorem sc__law_whole : FnScope ["_law_thing", "_law_low", "_law_high"] ["_law_thing", "_law_low", "_law_high"] d__law_whole.scope := ⟨rfl, rfl, rfl, nd__law_whole, rfl, by decide +kernel, by decide +kernel⟩
theorem ok__law_whole (F : Fx T mg lw) (hcf : T.cf = cf) (hx0 : T.xc = none) (hT : T.tabs = tabsOf T.K lw.tf) (TB : TabsB T.K mg base (lw.tf.map (·.1))) : OkF T P w mg base 1 d__law_whole ["_law_thing", "_law_low", "_law_high"] m__law_whole := by
  obtain ⟨fd, FD⟩ := F.defs 13 d__law_whole rfl
  refine OkF.mk' (N := ["_law_thing", "_law_low", "_law_high"]) FD sc__law_whole fun cdv A outer s H E hr => ?_
  show ISs T E _ (defBody (top 39)) b__law_whole
  exact (is_one (is_ret (ie_and (ie_isi (tys := tysL) (Tt := .b "int") (by rfl) (by rfl) (by exact F.f "isinstance") (ie_v 0) (isTy_b (by rfl) (by exact F.f "int") (by decide +kernel)) (by exact F.is' tysL) (by exact F.ki tysL (.b "int"))) (ie_and (ie_not (ie_isi (tys := tysL) (Tt := .b "bool") (by rfl) (by rfl) (by exact F.f "isinstance") (ie_v 0) (isTy_b (by rfl) (by exact F.f "bool") (by decide +kernel)) (by exact F.is' tysL) (by exact F.ki tysL (.b "bool")))) (ie_one (ie_chain (oi_le) (oi_le) (ie_v 1) (ie_v 0) (ie_v 2)))))))
theorem kb__law_whole_0 (fd : FuncData) (FD : FunD T.K d__law_whole.name d__law_whole.qual d__law_whole.params d__law_whole.body d__law_whole.scope (d__law_whole.dvs T.K) [] (He.fAd T.K d__law_whole.at_) fd) : KBD T fd ["_law_thing", "_law_low", "_law_high"] 3 [] [(0, 0), (0, 1), (0, 2)] [] :=
  kbd_n FD fun kV doc pm an cdv ct us ws h1 h2 => match us, ws, h1, h2 with | [_, _, _], [], _, _ => rfl
theorem nd__law_bad : (["_law_row", "_law_cities", "_law_one"] : List Str).Nodup := by decide +kernel
theorem sc__law_bad : FnScope ["_law_row", "_law_cities", "_law_one"] ["_law_row"] d__law_bad.scope := ⟨rfl, rfl, rfl, nd__law_bad, rfl, by decide +kernel, by decide +kernel⟩
theorem ok__law_bad (F : Fx T mg lw) (hcf : T.cf = cf) (hx0 : T.xc = none) (hT : T.tabs = tabsOf T.K lw.tf) (TB : TabsB T.K mg base (lw.tf.map (·.1))) : OkF T P w mg base 2 d__law_bad ["_law_row"] m__law_bad := by
  obtain ⟨fd, FD⟩ := F.defs 14 d__law_bad rfl
  refine OkF.mk' (N := ["_law_row", "_law_cities", "_law_one"]) FD sc__law_bad fun cdv A outer s H E hr => ?_
  show ISs T E _ (defBody (top 42)) b__law_bad
  exact (is_cons (is_st 1 nd__law_bad (ie_idxB (by rfl) (by exact hu1 hr) (ie_v 0) ie_int))
  (is_cons (is_if (iw_pt (iw_or (ib_not (ib_val (ie_isi (tys := tysL) (Tt := .b "tuple") (by rfl) (by rfl) (by exact F.f "isinstance") (ie_v 1) (isTy_b (by rfl) (by exact F.f "tuple") (by decide +kernel)) (by exact F.is' tysL) (by exact F.ki tysL (.b "tuple"))))) (iw_or1 (ib_not (ib_chain (oi_le) (oi_le) ie_int (ie_b (by exact call_len) bo_lenA (by rfl) (by exact F.f "len") (by decide +kernel) (ia_cons (ie_v 1) ia_nil)) ie_int))))) (is_one (is_ret ie_str)) is_nil)
  (is_cons (is_if (ib_not (ib_val (ie_b (by exact cr_all rfl) bo_all (by rfl) (by exact F.f "all") (by decide +kernel) (ia_cons (ie_lc (own := [("_law_one", 2)]) (by rfl) nd__law_bad (ii_any (by rfl) (ie_v 1)) (blk_by (by kernel_rfl)) (fun _ _ _ _ _ => (ig_n 2 nd__law_bad)) (fun _ _ _ _ _ => its_nil) (fun _ _ _ _ _ => (ie_fnF (by exact ok__law_whole F hcf hx0 hT TB) (by rfl) (by exact hr.mono (by decide)) (by rfl) (by exact F.g "_law_whole") kb__law_whole_0 (by exact tk_no) (ak_cons (ia_cons (ie_v 2) (ia_cons ie_int (ia_cons ie_int ia_nil))) ik_nil)))) ia_nil)))) (is_one (is_ret ie_str)) is_nil)
  (is_cons (is_if (ib_not (ib_val (ie_fnF (by exact ok__law_whole F hcf hx0 hT TB) (by rfl) (by exact hr.mono (by decide)) (by rfl) (by exact F.g "_law_whole") kb__law_whole_0 (by exact tk_cx) (ak_cons (ia_cons (ie_idxB (by rfl) (by exact hu1 hr) (ie_v 0) ie_int) (ia_cons ie_int (ia_cons ie_int ia_nil))) ik_nil)))) (is_one (is_ret ie_str)) is_nil)
  (is_one (is_ret (ie_if (ib_val (ie_fnF (by exact ok__law_whole F hcf hx0 hT TB) (by rfl) (by exact hr.mono (by decide)) (by rfl) (by exact F.g "_law_whole") kb__law_whole_0 (by exact tk_cx) (ak_cons (ia_cons (ie_idxB (by rfl) (by exact hu1 hr) (ie_v 0) ie_int) (ia_cons ie_int (ia_cons ie_int ia_nil))) ik_nil))) ie_non ie_str)))))))
theorem kb__law_bad_0 (fd : FuncData) (FD : FunD T.K d__law_bad.name d__law_bad.qual d__law_bad.params d__law_bad.body d__law_bad.scope (d__law_bad.dvs T.K) [] (He.fAd T.K d__law_bad.at_) fd) : KBD T fd ["_law_row"] 1 [] [(0, 0)] [] :=
  kbd_n FD fun kV doc pm an cdv ct us ws h1 h2 => match us, ws, h1, h2 with | [_], [], _, _ => rfl
theorem nd_NoDay_init : (["self", "day"] : List Str).Nodup := by decide +kernel
theorem sc_NoDay_init : FnScope ["self", "day"] ["self", "day"] d_NoDay_init.scope := ⟨rfl, rfl, rfl, nd_NoDay_init, rfl, by decide +kernel, by decide +kernel⟩
theorem bi_NoDay_init (fd : FuncData) (FD : FunD T.K d_NoDay_init.name d_NoDay_init.qual d_NoDay_init.params d_NoDay_init.body d_NoDay_init.scope (d_NoDay_init.dvs T.K) [] (He.fAd T.K d_NoDay_init.at_) fd) : L2.Binds T.K fd ["self", "day"] [] := FunD.bindsN FD fun _ _ _ _ _ _ us hl => match us, hl with | [_, _], _ => rfl
theorem oi_NoDay (F : Fx T mg lw) : InitOk T P w mg base 1 d_NoDay_init ["self", "day"] "NoDay" ["day"] btIE "IndexError" "IndexError.__new__" "IndexError.__init__" := by
  obtain ⟨fd, FD⟩ := F.defs 15 d_NoDay_init rfl
  have X := xi_of (F.b 2)
  have ob := initIs_of (F.b 3)
  exact InitOk.of1 xbIE X.xc FD sc_NoDay_init (by rfl) (X.no "day" (by simp)) (hcall := fun cdv A outer s H E ta ha => pe_xin_blt xbIE (by rfl) (by exact F.f "IndexError") (by kernel_rfl) tyIE (by decide +kernel) ob ha)
theorem nd_Journey_town_on : (["self", "day"] : List Str).Nodup := by decide +kernel
theorem sc_Journey_town_on : FnScope ["self", "day"] ["self", "day"] d_Journey_town_on.scope := ⟨rfl, rfl, rfl, nd_Journey_town_on, rfl, by decide +kernel, by decide +kernel⟩
theorem ok_Journey_town_on (F : Fx T mg lw) (hcf : T.cf = cf) (hx0 : T.xc = none) (hT : T.tabs = tabsOf T.K lw.tf) (TB : TabsB T.K mg base (lw.tf.map (·.1))) : OkF T P w mg base 3 d_Journey_town_on ["self", "day"] m_Journey_town_on := by
  obtain ⟨fd, FD⟩ := F.defs 16 d_Journey_town_on rfl
  refine OkF.mk' (N := ["self", "day"]) FD sc_Journey_town_on fun cdv A outer s H E hr => ?_
  show ISs T E _ (defBody (meth 29 10)) b_Journey_town_on
  exact (is_cons (is_if (ib_not (ib_val (ie_fnF (by exact ok_is_whole F hcf hx0 hT TB) (by rfl) (by exact hr.mono (by decide)) (by rfl) (by exact F.g "is_whole") kb_is_whole_0 (by exact tk_cx) (ak_cons (ia_cons (ie_v 1) (ia_cons ie_int (ia_cons (ie_op (oi_sub) (ie_b (by exact call_len) bo_lenA (by rfl) (by exact F.f "len") (by decide +kernel) (ia_cons (ie_attr (by exact hcf) (by rfl) (by exact F.at' ["Journey"] "own_towns") (ie_v 0)) ia_nil)) ie_int) ia_nil))) ik_nil)))) (is_one (is_raiseF (c := "NoDay") (by rfl) (by rfl) (by exact tk_cx) (oi_NoDay F) rfl (xi_of (F.b 2)) (by exact hr.mono (by decide)) bi_NoDay_init rfl (by rfl) (by exact F.g "NoDay") (ia_cons (ie_v 1) ia_nil) (hlk1 (by rw [hcf]; rfl)))) is_nil)
  (is_one (is_ret (ie_idxB (by rfl) (by exact hu1 hr) (ie_attr (by exact hcf) (by rfl) (by exact F.at' ["Journey"] "own_towns") (ie_v 0)) (ie_v 1)))))
theorem kb_Journey_town_on_0 (fd : FuncData) (FD : FunD T.K d_Journey_town_on.name d_Journey_town_on.qual d_Journey_town_on.params d_Journey_town_on.body d_Journey_town_on.scope (d_Journey_town_on.dvs T.K) [] (He.fAd T.K d_Journey_town_on.at_) fd) : KBD T fd ["self", "day"] 2 [] [(0, 0), (0, 1)] [] :=
  kbd_n FD fun kV doc pm an cdv ct us ws h1 h2 => match us, ws, h1, h2 with | [_, _], [], _, _ => rfl
theorem kb_Journey_town_on_1 (fd : FuncData) (FD : FunD T.K d_Journey_town_on.name d_Journey_town_on.qual d_Journey_town_on.params d_Journey_town_on.body d_Journey_town_on.scope (d_Journey_town_on.dvs T.K) [] (He.fAd T.K d_Journey_town_on.at_) fd) : KBD T fd ["self", "day"] 1 ["day"] [(0, 0), (2, 0)] [] :=
  kbd_n FD fun kV doc pm an cdv ct us ws h1 h2 => match us, ws, h1, h2 with | [_], [_], _, _ => rfl
theorem nd_Journey_len : (["self"] : List Str).Nodup := by decide +kernel
theorem sc_Journey_len : FnScope ["self"] ["self"] d_Journey_len.scope := ⟨rfl, rfl, rfl, nd_Journey_len, rfl, by decide +kernel, by decide +kernel⟩
theorem at_Journey_len : d_Journey_len.at_ = (("Journey" : PySem.Str), some ("__len__" : PySem.Str)) := rfl
theorem bi_Journey_len (fd : FuncData) (FD : FunD T.K d_Journey_len.name d_Journey_len.qual d_Journey_len.params d_Journey_len.body d_Journey_len.scope (d_Journey_len.dvs T.K) [] (He.fAd T.K d_Journey_len.at_) fd) : L2.Binds T.K fd ["self"] [] := FunD.bindsN FD fun _ _ _ _ _ _ us hl => match us, hl with | [_], _ => rfl
theorem ok_Journey_len (F : Fx T mg lw) (hcf : T.cf = cf) (hx0 : T.xc = none) (hT : T.tabs = tabsOf T.K lw.tf) (TB : TabsB T.K mg base (lw.tf.map (·.1))) : OkF T P w mg base 1 d_Journey_len ["self"] m_Journey_len := by
  obtain ⟨fd, FD⟩ := F.defs 17 d_Journey_len rfl
  refine OkF.mk' (N := ["self"]) FD sc_Journey_len fun cdv A outer s H E hr => ?_
  show ISs T E _ (defBody (meth 29 1)) b_Journey_len
  exact (is_one (is_ret (ie_b (by exact call_len) bo_lenA (by rfl) (by exact F.f "len") (by decide +kernel) (ia_cons (ie_attr (by exact hcf) (by rfl) (by exact F.at' ["Journey"] "own_lines") (ie_v 0)) ia_nil))))
theorem nd_Journey_lines : (["self"] : List Str).Nodup := by decide +kernel
theorem sc_Journey_lines : FnScope ["self"] ["self"] d_Journey_lines.scope := ⟨rfl, rfl, rfl, nd_Journey_lines, rfl, by decide +kernel, by decide +kernel⟩
theorem ok_Journey_lines (F : Fx T mg lw) (hcf : T.cf = cf) (hx0 : T.xc = none) (hT : T.tabs = tabsOf T.K lw.tf) (TB : TabsB T.K mg base (lw.tf.map (·.1))) : OkF T P w mg base 1 d_Journey_lines ["self"] m_Journey_lines := by
  obtain ⟨fd, FD⟩ := F.defs 18 d_Journey_lines rfl
  refine OkF.mk' (N := ["self"]) FD sc_Journey_lines fun cdv A outer s H E hr => ?_
  show ISs T E _ (defBody (meth 29 9)) b_Journey_lines
  exact (is_one (is_ret (ie_bt (by exact call_list_of) bo_list (by rfl) (by exact F.f "list") (by decide +kernel) (ia_cons (ie_attr (by exact hcf) (by rfl) (by exact F.at' ["Journey"] "own_lines") (ie_v 0)) ia_nil))))
theorem kb_Journey_lines_0 (fd : FuncData) (FD : FunD T.K d_Journey_lines.name d_Journey_lines.qual d_Journey_lines.params d_Journey_lines.body d_Journey_lines.scope (d_Journey_lines.dvs T.K) [] (He.fAd T.K d_Journey_lines.at_) fd) : KBD T fd ["self"] 1 [] [(0, 0)] [] :=
  kbd_n FD fun kV doc pm an cdv ct us ws h1 h2 => match us, ws, h1, h2 with | [_], [], _, _ => rfl
theorem nd_are_twins : (["one", "other"] : List Str).Nodup := by decide +kernel
theorem sc_are_twins : FnScope ["one", "other"] ["one", "other"] d_are_twins.scope := ⟨rfl, rfl, rfl, nd_are_twins, rfl, by decide +kernel, by decide +kernel⟩
theorem ok_are_twins (F : Fx T mg lw) (hcf : T.cf = cf) (hx0 : T.xc = none) (hT : T.tabs = tabsOf T.K lw.tf) (TB : TabsB T.K mg base (lw.tf.map (·.1))) : OkF T P w mg base 1 d_are_twins ["one", "other"] m_are_twins := by
  obtain ⟨fd, FD⟩ := F.defs 19 d_are_twins rfl
  refine OkF.mk' (N := ["one", "other"]) FD sc_are_twins fun cdv A outer s H E hr => ?_
  show ISs T E _ (defBody (top 23)) b_are_twins
  exact (is_cons (is_if (iw_pt (iw_or (ib_cmp (oi_neP (by rfl) (by exact hr.rm.units)) ie_bad ie_bad (by rfl)) (iw_or1 (ib_cmp (oi_neP (by rfl) (by exact hr.rm.units)) ie_bad ie_bad (by rfl))))) (is_one (is_ret ie_bl)) is_nil)
  (is_one (is_ret (ie_and (ie_cmp (oi_eqP (by rfl) (by exact hr.rm.units)) ie_bad ie_bad (by rfl)) (ie_one (ie_cmp (oi_eqP (by rfl) (by exact hr.rm.units)) ie_bad ie_bad (by rfl)))))))
theorem kb_are_twins_0 (fd : FuncData) (FD : FunD T.K d_are_twins.name d_are_twins.qual d_are_twins.params d_are_twins.body d_are_twins.scope (d_are_twins.dvs T.K) [] (He.fAd T.K d_are_twins.at_) fd) : KBD T fd ["one", "other"] 2 [] [(0, 0), (0, 1)] [] :=
  kbd_n FD fun kV doc pm an cdv ct us ws h1 h2 => match us, ws, h1, h2 with | [_, _], [], _, _ => rfl
theorem nd_Journey_twins : (["self", "found", "place", "line", "other"] : List Str).Nodup := by decide +kernel
theorem sc_Journey_twins : FnScope ["self", "found", "place", "line", "other"] ["self"] d_Journey_twins.scope := ⟨rfl, rfl, rfl, nd_Journey_twins, rfl, by decide +kernel, by decide +kernel⟩
theorem ok_Journey_twins (F : Fx T mg lw) (hcf : T.cf = cf) (hx0 : T.xc = none) (hT : T.tabs = tabsOf T.K lw.tf) (TB : TabsB T.K mg base (lw.tf.map (·.1))) : OkF T P w mg base 2 d_Journey_twins ["self"] m_Journey_twins := by
  obtain ⟨fd, FD⟩ := F.defs 20 d_Journey_twins rfl
  refine OkF.mk' (N := ["self", "found", "place", "line", "other"]) FD sc_Journey_twins fun cdv A outer s H E hr => ?_
  show ISs T E _ (defBody (meth 29 11)) b_Journey_twins
  exact (is_cons (is_st 1 nd_Journey_twins (ie_lstM ia_nil))
  (is_cons (is_for (vs := allN 5) (by exact passes_of rfl) (by rfl) (ii_enum (by rfl) (by rfl) (by exact F.f "enumerate") (ia_cons (ie_attr (by exact hcf) (by rfl) (by exact F.at' ["Journey"] "own_lines") (ie_v 0)) ia_nil)) (ig_tup (by rfl) (igs_cons (ig_n 2 nd_Journey_twins) (igs_cons (ig_n 3 nd_Journey_twins) igs_nil)) (len_cons (len_cons len_nil))) (is_one (is_if (ib_val (ie_b (by exact cr_any rfl) bo_any (by rfl) (by exact F.f "any") (by decide +kernel) (ia_cons (ie_lc (own := [("other", 4)]) (by rfl) nd_Journey_twins (ii_any (by rfl) (ie_cut (by rfl) (ie_attr (by exact hcf) (by rfl) (by exact F.at' ["Journey"] "own_lines") (ie_v 0)) io_none (io_some (ie_v 2)))) (blk_by (by kernel_rfl)) (fun _ _ _ _ _ => (ig_n 4 nd_Journey_twins)) (fun _ _ _ _ _ => its_nil) (fun _ _ _ _ _ => (ie_fnF (by exact ok_are_twins F hcf hx0 hT TB) (by rfl) (by exact hr.mono (by decide)) (by rfl) (by exact F.g "are_twins") kb_are_twins_0 (by exact tk_no) (ak_cons (ia_cons (ie_v 3) (ia_cons (ie_v 4) ia_nil)) ik_nil)))) ia_nil))) (is_one (is_expr (ie_app (by rfl) (ie_v 1) (ie_v 2)))) is_nil)))
  (is_one (is_ret (ie_frzL (ie_v 1))))))
theorem kb_Journey_twins_0 (fd : FuncData) (FD : FunD T.K d_Journey_twins.name d_Journey_twins.qual d_Journey_twins.params d_Journey_twins.body d_Journey_twins.scope (d_Journey_twins.dvs T.K) [] (He.fAd T.K d_Journey_twins.at_) fd) : KBD T fd ["self"] 1 [] [(0, 0)] [] :=
  kbd_n FD fun kV doc pm an cdv ct us ws h1 h2 => match us, ws, h1, h2 with | [_], [], _, _ => rfl
theorem nd__law_days_right : (["_law_journey", "_law_cities", "_law_bad_here", "_law_when"] : List Str).Nodup := by decide +kernel
theorem sc__law_days_right : FnScope ["_law_journey", "_law_cities", "_law_bad_here", "_law_when"] ["_law_journey", "_law_cities"] d__law_days_right.scope := ⟨rfl, rfl, rfl, nd__law_days_right, rfl, by decide +kernel, by decide +kernel⟩
theorem ok__law_days_right (F : Fx T mg lw) (hcf : T.cf = cf) (hx0 : T.xc = none) (hT : T.tabs = tabsOf T.K lw.tf) (TB : TabsB T.K mg base (lw.tf.map (·.1))) : OkF T P w mg base 6 d__law_days_right ["_law_journey", "_law_cities"] m__law_days_right := by
  obtain ⟨fd, FD⟩ := F.defs 21 d__law_days_right rfl
  refine OkF.mkL (N := ["_law_journey", "_law_cities", "_law_bad_here", "_law_when"]) FD sc__law_days_right fun cdv A outer s H E hcd hr => ?_
  show ISs T E _ (defBody (top 43)) b__law_days_right
  exact (is_cons (is_if (ib_cmp (oi_neP (by rfl) (by exact hr.rm.units)) (ie_lc (own := [("_law_when", 3)]) (by rfl) nd__law_days_right (ii_r1 (by rfl) (by exact F.f "range") (ia_cons (ie_b (by exact call_len) bo_lenA (by rfl) (by exact F.f "len") (by decide +kernel) (ia_cons (ie_v 1) ia_nil)) ia_nil)) (blk_by (by kernel_rfl)) (fun _ _ _ _ _ => (ig_n 3 nd__law_days_right)) (fun _ _ _ _ _ => its_nil) (fun _ _ _ _ _ => (ie_methF (cn := "Journey") (mn := "town_on") (n := 1) (by exact hcf) (by exact ok_Journey_town_on F hcf hx0 hT TB) (by rfl) (by exact hr.mono (by decide)) (by exact F.c "Journey") (by exact F.m "Journey" "town_on") kb_Journey_town_on_0 (by exact tk_no) (ie_v 0) (ak_cons (ia_cons (ie_v 3) ia_nil) ik_nil) rfl))) (ie_bt (by exact call_list_of) bo_list (by rfl) (by exact F.f "list") (by decide +kernel) (ia_cons (ie_v 1) ia_nil)) (by rfl)) (is_one (is_ret ie_bl)) is_nil)
  (is_cons (is_for (vs := allN 4) (by exact passes_of rfl) (by rfl) (ii_any (by rfl) (ie_lst (ia_cons (ie_b (by exact call_len) bo_lenA (by rfl) (by exact F.f "len") (by decide +kernel) (ia_cons (ie_v 1) ia_nil)) (ia_cons (ie_neg ie_int) (ia_cons ie_int (ia_cons ie_non (ia_cons ie_bl (ia_cons ie_str (ia_cons (ie_tup (ia_cons ie_int ia_nil)) (ia_cons (ie_op (oi_pow) ie_int ie_int) ia_nil)))))))))) (ig_n 2 nd__law_days_right) (is_one (is_if (ib_cmp (oi_neP (by rfl) (by exact hr.rm.units)) (ie_b (by exact call_reprX rfl hr.gd hr.rm.units) bo_reprX (by rfl) (by exact F.f "repr") (by decide +kernel) (ia_cons (ie_sd (q := ("_law_days_right", none)) (qs := "_law_days_right.<locals>.") (k := 3) (m := (eMeth cf "Journey" "town_on" (callM m_Journey_town_on 1 1 2 [(0, 0), (2, 0)] []) (eVar 0) aNil (aCons (eVar 2) aNil))) F hcf hx0 hT TB (by decide +kernel) (by decide +kernel) (by decide) (by exact hcd) (by exact hr.mono (by decide)) (by rfl) (lamS_by (by kernel_rfl)) (by rfl) (fun _ _ _ _ _ => by rfl) (fun A outer s H E f c hr => (ie_methF (cn := "Journey") (mn := "town_on") (n := 0) (by exact hcf) (by exact ok_Journey_town_on F hcf hx0 hT TB) (by rfl) (by exact hr.mono (by decide)) (by exact F.c "Journey") (by exact F.m "Journey" "town_on") kb_Journey_town_on_1 (by exact tk_lam) (ie_v 0) (ak_nil (ik_cons (ie_v 2) ik_nil)) rfl))) ia_nil)) (ie_b (by exact call_reprX rfl hr.gd hr.rm.units) bo_reprX (by rfl) (by exact F.f "repr") (by decide +kernel) (ia_cons (ie_tup (ia_cons ie_str (ia_cons (ie_v 2) ia_nil))) ia_nil)) (by rfl)) (is_one (is_ret ie_bl)) is_nil)))
  (is_one (is_ret (ie_and (ie_cmp (oi_eqP (by rfl) (by exact hr.rm.units)) (ie_lenO (cn := "Journey") (by rfl) (by exact ok_Journey_len F hcf hx0 hT TB) (by exact RG.in1 (hr.mono (by decide))) (by rw [at_Journey_len]; exact F.m "Journey" "__len__") bi_Journey_len (by rfl) (by exact F.f "len") (ia_cons (ie_v 0) ia_nil)) ie_int (by rfl)) (ie_and (ie_cmp (oi_eqP (by rfl) (by exact hr.rm.units)) (ie_methF (cn := "Journey") (mn := "lines") (n := 0) (by exact hcf) (by exact ok_Journey_lines F hcf hx0 hT TB) (by rfl) (by exact hr.mono (by decide)) (by exact F.c "Journey") (by exact F.m "Journey" "lines") kb_Journey_lines_0 (by exact tk_cx) (ie_v 0) (ak_nil ik_nil) rfl) (ie_lst ia_nil) (by rfl)) (ie_one (ie_cmp (oi_eqP (by rfl) (by exact hr.rm.units)) (ie_methF (cn := "Journey") (mn := "twins") (n := 0) (by exact hcf) (by exact ok_Journey_twins F hcf hx0 hT TB) (by rfl) (by exact hr.mono (by decide)) (by exact F.c "Journey") (by exact F.m "Journey" "twins") kb_Journey_twins_0 (by exact tk_cx) (ie_v 0) (ak_nil ik_nil) rfl) (ie_lst ia_nil) (by rfl)))))))))
theorem kb__law_days_right_0 (fd : FuncData) (FD : FunD T.K d__law_days_right.name d__law_days_right.qual d__law_days_right.params d__law_days_right.body d__law_days_right.scope (d__law_days_right.dvs T.K) [] (He.fAd T.K d__law_days_right.at_) fd) : KBD T fd ["_law_journey", "_law_cities"] 2 [] [(0, 0), (0, 1)] [] :=
  kbd_n FD fun kV doc pm an cdv ct us ws h1 h2 => match us, ws, h1, h2 with | [_, _], [], _, _ => rfl
theorem nd__law_made_right : (["_law_row", "_law_turn", "_law_found", "_law_due"] : List Str).Nodup := by decide +kernel
theorem sc__law_made_right : FnScope ["_law_row", "_law_turn", "_law_found", "_law_due"] ["_law_row"] d__law_made_right.scope := ⟨rfl, rfl, rfl, nd__law_made_right, rfl, by decide +kernel, by decide +kernel⟩
theorem ok__law_made_right (F : Fx T mg lw) (hcf : T.cf = cf) (hx0 : T.xc = none) (hT : T.tabs = tabsOf T.K lw.tf) (TB : TabsB T.K mg base (lw.tf.map (·.1))) : OkF T P w mg base 7 d__law_made_right ["_law_row"] m__law_made_right := by
  obtain ⟨fd, FD⟩ := F.defs 22 d__law_made_right rfl
  refine OkF.mkL (N := ["_law_row", "_law_turn", "_law_found", "_law_due"]) FD sc__law_made_right fun cdv A outer s H E hcd hr => ?_
  show ISs T E _ (defBody (top 44)) b__law_made_right
  exact (is_cons (is_for (vs := allN 4) (by exact passes_of rfl) (by rfl) (ii_r1 (by rfl) (by exact F.f "range") (ia_cons ie_int ia_nil)) (ig_n 1 nd__law_made_right) (is_cons (by first | exact (is_par2 2 3 nd__law_made_right (ia_cons (ie_sd (q := ("_law_made_right", none)) (qs := "_law_made_right.<locals>.") (k := 4) (m := (eFrz cf (eFn (newM "Journey" (callM m_Journey_init 4 0 4 [(0, 0), (0, 1), (0, 2), (0, 3)] [.int 10, .int 10])) (aCons (eIdxB (eVar 0) (eC (.int 0))) (aCons (eIdxB (eVar 0) (eC (.int 1))) (aCons (eIdxB (eVar 0) (eC (.int 2))) aNil))) aNil))) F hcf hx0 hT TB (by decide +kernel) (by decide +kernel) (by decide) (by exact hcd) (by exact hr.mono (by decide)) (by rfl) (lamS_by (by kernel_rfl)) (by rfl) (fun _ _ _ _ _ => by rfl) (fun A outer s H E f c hr => (ie_frz (by exact hcf) (ie_newF (cn := "Journey") (by exact ok_Journey_init F hcf hx0 hT TB) (by exact F.mk' "Journey") (by rfl) (by exact hr.mono (by decide)) (by rfl) (by exact F.g "Journey") kb_Journey_init_0 (by exact tk_lam) (ak_cons (ia_cons (ie_idxB (by rfl) (by exact hu1 hr) (ie_v 0) ie_int) (ia_cons (ie_idxB (by rfl) (by exact hu1 hr) (ie_v 0) ie_int) (ia_cons (ie_idxB (by rfl) (by exact hu1 hr) (ie_v 0) ie_int) ia_nil))) ik_nil) rfl)))) (ia_cons (ie_fnF (by exact ok__law_bad F hcf hx0 hT TB) (by rfl) (by exact hr.mono (by decide)) (by rfl) (by exact F.g "_law_bad") kb__law_bad_0 (by exact tk_cx) (ak_cons (ia_cons (ie_v 0) ia_nil) ik_nil)) ia_nil))) | exact (is_par2u (is_unp (vs := allN 4) (ie_tup (ia_cons (ie_sd (q := ("_law_made_right", none)) (qs := "_law_made_right.<locals>.") (k := 4) (m := (eFrz cf (eFn (newM "Journey" (callM m_Journey_init 4 0 4 [(0, 0), (0, 1), (0, 2), (0, 3)] [.int 10, .int 10])) (aCons (eIdxB (eVar 0) (eC (.int 0))) (aCons (eIdxB (eVar 0) (eC (.int 1))) (aCons (eIdxB (eVar 0) (eC (.int 2))) aNil))) aNil))) F hcf hx0 hT TB (by decide +kernel) (by decide +kernel) (by decide) (by exact hcd) (by exact hr.mono (by decide)) (by rfl) (lamS_by (by kernel_rfl)) (by rfl) (fun _ _ _ _ _ => by rfl) (fun A outer s H E f c hr => (ie_frz (by exact hcf) (ie_newF (cn := "Journey") (by exact ok_Journey_init F hcf hx0 hT TB) (by exact F.mk' "Journey") (by rfl) (by exact hr.mono (by decide)) (by rfl) (by exact F.g "Journey") kb_Journey_init_0 (by exact tk_lam) (ak_cons (ia_cons (ie_idxB (by rfl) (by exact hu1 hr) (ie_v 0) ie_int) (ia_cons (ie_idxB (by rfl) (by exact hu1 hr) (ie_v 0) ie_int) (ia_cons (ie_idxB (by rfl) (by exact hu1 hr) (ie_v 0) ie_int) ia_nil))) ik_nil) rfl)))) (ia_cons (ie_fnF (by exact ok__law_bad F hcf hx0 hT TB) (by rfl) (by exact hr.mono (by decide)) (by rfl) (by exact F.g "_law_bad") kb__law_bad_0 (by exact tk_cx) (ak_cons (ia_cons (ie_v 0) ia_nil) ik_nil)) ia_nil))) (ig_tup (by rfl) (igs_cons (ig_n 2 nd__law_made_right) (igs_cons (ig_n 3 nd__law_made_right) igs_nil)) (len_cons (len_cons len_nil))))))
  (is_cons (is_if (iw_pt (iw_and (ib_cmp (oi_isnot) (ie_v 3) ie_non (by rfl)) (iw_and1 (ib_cmp (oi_neP (by rfl) (by exact hr.rm.units)) (ie_v 2) (ie_tup (ia_cons ie_str (ia_cons (ie_v 3) ia_nil))) (by rfl))))) (is_one (is_ret ie_bl)) is_nil)
  (is_one (is_if (iw_pt (iw_and (ib_cmp (oi_is) (ie_v 3) ie_non (by rfl)) (iw_and1 (iw_pt (iw_or (ib_cmp (oi_neP (by rfl) (by exact hr.rm.units)) (ie_idxB (by rfl) (by exact hu1 hr) (ie_v 2) ie_int) ie_str (by rfl)) (iw_or1 (ib_not (ib_val (ie_fnF (by exact ok__law_days_right F hcf hx0 hT TB) (by rfl) (by exact hr.mono (by decide)) (by rfl) (by exact F.g "_law_days_right") kb__law_days_right_0 (by exact tk_cx) (ak_cons (ia_cons (ie_idxB (by rfl) (by exact hu1 hr) (ie_v 2) ie_int) (ia_cons (ie_idxB (by rfl) (by exact hu1 hr) (ie_v 0) ie_int) ia_nil)) ik_nil)))))))))) (is_one (is_ret ie_bl)) is_nil)))))
  (is_one (is_ret ie_bl)))
theorem kb__law_made_right_0 (fd : FuncData) (FD : FunD T.K d__law_made_right.name d__law_made_right.qual d__law_made_right.params d__law_made_right.body d__law_made_right.scope (d__law_made_right.dvs T.K) [] (He.fAd T.K d__law_made_right.at_) fd) : KBD T fd ["_law_row"] 1 [] [(0, 0)] [] :=
  kbd_n FD fun kV doc pm an cdv ct us ws h1 h2 => match us, ws, h1, h2 with | [_], [], _, _ => rfl
theorem nd_Journey_eq : (["self", "other"] : List Str).Nodup := by decide +kernel
theorem sc_Journey_eq : FnScope ["self", "other"] ["self", "other"] d_Journey_eq.scope := ⟨rfl, rfl, rfl, nd_Journey_eq, rfl, by decide +kernel, by decide +kernel⟩
theorem at_Journey_eq : d_Journey_eq.at_ = (("Journey" : PySem.Str), some ("__eq__" : PySem.Str)) := rfl
theorem bi_Journey_eq (fd : FuncData) (FD : FunD T.K d_Journey_eq.name d_Journey_eq.qual d_Journey_eq.params d_Journey_eq.body d_Journey_eq.scope (d_Journey_eq.dvs T.K) [] (He.fAd T.K d_Journey_eq.at_) fd) : L2.Binds T.K fd ["self", "other"] [] := FunD.bindsN FD fun _ _ _ _ _ _ us hl => match us, hl with | [_, _], _ => rfl
theorem ok_Journey_eq (F : Fx T mg lw) (hcf : T.cf = cf) (hx0 : T.xc = none) (hT : T.tabs = tabsOf T.K lw.tf) (TB : TabsB T.K mg base (lw.tf.map (·.1))) : OkF T P w mg base 1 d_Journey_eq ["self", "other"] m_Journey_eq := by
  obtain ⟨fd, FD⟩ := F.defs 23 d_Journey_eq rfl
  refine OkF.mk' (N := ["self", "other"]) FD sc_Journey_eq fun cdv A outer s H E hr => ?_
  show ISs T E _ (defBody (meth 29 2)) b_Journey_eq
  exact (is_cons (is_if (ib_not (ib_val (ie_isi (tys := tysL) (Tt := .o "Journey") (by rfl) (by rfl) (by exact F.f "isinstance") (ie_v 1) (isTy_o (by rfl) (by exact F.g "Journey")) (by exact F.is' tysL) (by exact F.ki tysL (.o "Journey"))))) (is_one (is_ret ie_bl)) is_nil)
  (is_cons (is_if (iw_pt (iw_or (ib_cmp (oi_neP (by rfl) (by exact hr.rm.units)) (ie_attr (by exact hcf) (by rfl) (by exact F.at' ["Journey"] "own_towns") (ie_v 0)) (ie_attr (by exact hcf) (by rfl) (by exact F.at' ["Journey"] "own_towns") (ie_v 1)) (by rfl)) (iw_or1 (ib_cmp (oi_neP (by rfl) (by exact hr.rm.units)) (ie_attr (by exact hcf) (by rfl) (by exact F.at' ["Journey"] "own_ends") (ie_v 0)) (ie_attr (by exact hcf) (by rfl) (by exact F.at' ["Journey"] "own_ends") (ie_v 1)) (by rfl))))) (is_one (is_ret ie_bl)) is_nil)
  (is_one (is_ret (ie_and (ie_cmp (oi_eqP (by rfl) (by exact hr.rm.units)) (ie_attr (by exact hcf) (by rfl) (by exact F.at' ["Journey"] "own_lines") (ie_v 0)) (ie_attr (by exact hcf) (by rfl) (by exact F.at' ["Journey"] "own_lines") (ie_v 1)) (by rfl)) (ie_one (ie_cmp (oi_eqP (by rfl) (by exact hr.rm.units)) (ie_attr (by exact hcf) (by rfl) (by exact F.at' ["Journey"] "own_sums") (ie_v 0)) (ie_attr (by exact hcf) (by rfl) (by exact F.at' ["Journey"] "own_sums") (ie_v 1)) (by rfl))))))))
theorem mem_tab_0 {c : String} {m : Fn} (h : tab_0 c = some m) : c ∈ cls_0 := by
  unfold tab_0 at h
  split at h
  · rename_i hc; subst hc; decide
  cases h
theorem eqh_0 (F : Fx T mg lw) (hcf : T.cf = cf) (hx0 : T.xc = none) (hT : T.tabs = tabsOf T.K lw.tf) (TB : TabsB T.K mg base (lw.tf.map (·.1))) {X : Cx} (h1 : X.K = T.K) (h2 : X.prog = P) (h3 : X.w = w) (h4 : X.mg = mg) (h5 : X.base = base) : EqH T X tab_0 cls_0 1 where
  K := h1
  cl := fun c m h => by
    unfold tab_0 at h
    split at h
    · rename_i hc; subst hc; cases h
      exact ⟨⟨1, d_Journey_eq, by decide, by rw [h2, h3, h4, h5]; exact ok_Journey_eq F hcf hx0 hT TB, by rw [at_Journey_eq]; exact F.m "Journey" "__eq__", bi_Journey_eq⟩, of_decide_eq_true (F.b 4), of_decide_eq_true (F.b 5)⟩
    cases h
  inj := of_decide_eq_true (F.b 6)
  nf := fun c m h t ht => List.all_eq_true.mp (List.all_eq_true.mp (F.b 7) c (mem_tab_0 h)) t ht
  sub := fun c m h t ht => of_decide_eq_true (List.all_eq_true.mp (List.all_eq_true.mp (F.b 9) c (mem_tab_0 h)) t ht)
  nfo := fun c m h c2 hc => List.all_eq_true.mp (List.all_eq_true.mp (F.b 8) c (mem_tab_0 h)) c2 hc
theorem nd__law_alike_right : (["_law_row", "_law_others", "_law_thing", "_law_some", "_law_one", "_law_cities"] : List Str).Nodup := by decide +kernel
theorem sc__law_alike_right : FnScope ["_law_row", "_law_others", "_law_thing", "_law_some", "_law_one", "_law_cities"] ["_law_row"] d__law_alike_right.scope := ⟨rfl, rfl, rfl, nd__law_alike_right, rfl, by decide +kernel, by decide +kernel⟩
theorem ok__law_alike_right (F : Fx T mg lw) (hcf : T.cf = cf) (hx0 : T.xc = none) (hT : T.tabs = tabsOf T.K lw.tf) (TB : TabsB T.K mg base (lw.tf.map (·.1))) : OkF T P w mg base 11 d__law_alike_right ["_law_row"] m__law_alike_right := by
  obtain ⟨fd, FD⟩ := F.defs 24 d__law_alike_right rfl
  refine OkF.mk' (N := ["_law_row", "_law_others", "_law_thing", "_law_some", "_law_one", "_law_cities"]) FD sc__law_alike_right fun cdv A outer s H E hr => ?_
  show ISs T E _ (defBody (top 45)) b__law_alike_right
  exact (is_cons (by first | exact (is_par2 4 5 nd__law_alike_right (ia_cons (ie_frz (by exact hcf) (ie_newF (cn := "Journey") (by exact ok_Journey_init F hcf hx0 hT TB) (by exact F.mk' "Journey") (by rfl) (by exact hr.mono (by decide)) (by rfl) (by exact F.g "Journey") kb_Journey_init_0 (by exact tk_cx) (ak_cons (ia_cons (ie_idxB (by rfl) (by exact hu1 hr) (ie_v 0) ie_int) (ia_cons (ie_idxB (by rfl) (by exact hu1 hr) (ie_v 0) ie_int) (ia_cons (ie_idxB (by rfl) (by exact hu1 hr) (ie_v 0) ie_int) ia_nil))) ik_nil) rfl)) (ia_cons (ie_idxB (by rfl) (by exact hu1 hr) (ie_v 0) ie_int) ia_nil))) | exact (is_par2u (is_unp (vs := allN 6) (ie_tup (ia_cons (ie_frz (by exact hcf) (ie_newF (cn := "Journey") (by exact ok_Journey_init F hcf hx0 hT TB) (by exact F.mk' "Journey") (by rfl) (by exact hr.mono (by decide)) (by rfl) (by exact F.g "Journey") kb_Journey_init_0 (by exact tk_cx) (ak_cons (ia_cons (ie_idxB (by rfl) (by exact hu1 hr) (ie_v 0) ie_int) (ia_cons (ie_idxB (by rfl) (by exact hu1 hr) (ie_v 0) ie_int) (ia_cons (ie_idxB (by rfl) (by exact hu1 hr) (ie_v 0) ie_int) ia_nil))) ik_nil) rfl)) (ia_cons (ie_idxB (by rfl) (by exact hu1 hr) (ie_v 0) ie_int) ia_nil))) (ig_tup (by rfl) (igs_cons (ig_n 4 nd__law_alike_right) (igs_cons (ig_n 5 nd__law_alike_right) igs_nil)) (len_cons (len_cons len_nil))))))
  (is_cons (is_if (iw_pt (iw_or (ib_eqA (oi_neA (by exact eqh_0 F hcf hx0 hT TB (by rfl) (by rfl) (by rfl) (by rfl) (by rfl)) (by exact hr.mono (by decide))) (ie_v 4) (ie_frz (by exact hcf) (ie_newF (cn := "Journey") (by exact ok_Journey_init F hcf hx0 hT TB) (by exact F.mk' "Journey") (by rfl) (by exact hr.mono (by decide)) (by rfl) (by exact F.g "Journey") kb_Journey_init_1 (by exact tk_cx) (ak_nil (ik_cons (ie_idxB (by rfl) (by exact hu1 hr) (ie_v 0) ie_int) (ik_cons (ie_v 5) (ik_cons (ie_idxB (by rfl) (by exact hu1 hr) (ie_v 0) ie_int) ik_nil)))) rfl)) (by rfl)) (iw_or1 (ib_not (ib_eqA (oi_eqA (by exact eqh_0 F hcf hx0 hT TB (by rfl) (by rfl) (by rfl) (by rfl) (by rfl)) (by exact hr.mono (by decide))) (ie_v 4) (ie_frz (by exact hcf) (ie_newF (cn := "Journey") (by exact ok_Journey_init F hcf hx0 hT TB) (by exact F.mk' "Journey") (by rfl) (by exact hr.mono (by decide)) (by rfl) (by exact F.g "Journey") kb_Journey_init_2 (by exact tk_cx) (ak_cons (ia_cons (ie_v 5) (ia_cons (ie_idxB (by rfl) (by exact hu1 hr) (ie_v 0) ie_int) ia_nil)) (ik_cons (ie_idxB (by rfl) (by exact hu1 hr) (ie_v 0) ie_int) ik_nil)) rfl)) (by rfl)))))) (is_one (is_ret ie_bl)) is_nil)
  (is_cons (is_if (iw_pt (iw_or (ib_eqO (oi_neO (cn := "Journey") (by rfl) (by exact ok_Journey_eq F hcf hx0 hT TB) (by exact hr.mono (by decide)) (by rw [at_Journey_eq]; exact F.m "Journey" "__eq__") (by exact of_decide_eq_true (F.b 4)) (by exact of_decide_eq_true (F.b 5)) bi_Journey_eq) (ie_frz (by exact hcf) (ie_newF (cn := "Journey") (by exact ok_Journey_init F hcf hx0 hT TB) (by exact F.mk' "Journey") (by rfl) (by exact hr.mono (by decide)) (by rfl) (by exact F.g "Journey") kb_Journey_init_3 (by exact tk_cx) (ak_cons (ia_cons (ie_v 5) ia_nil) ik_nil) rfl)) (ie_frz (by exact hcf) (ie_newF (cn := "Journey") (by exact ok_Journey_init F hcf hx0 hT TB) (by exact F.mk' "Journey") (by rfl) (by exact hr.mono (by decide)) (by rfl) (by exact F.g "Journey") kb_Journey_init_0 (by exact tk_cx) (ak_cons (ia_cons (ie_v 5) (ia_cons ie_int (ia_cons ie_int ia_nil))) ik_nil) rfl)) (by rfl)) (iw_or1 (ib_eqO (oi_neO (cn := "Journey") (by rfl) (by exact ok_Journey_eq F hcf hx0 hT TB) (by exact hr.mono (by decide)) (by rw [at_Journey_eq]; exact F.m "Journey" "__eq__") (by exact of_decide_eq_true (F.b 4)) (by exact of_decide_eq_true (F.b 5)) bi_Journey_eq) (ie_frz (by exact hcf) (ie_newF (cn := "Journey") (by exact ok_Journey_init F hcf hx0 hT TB) (by exact F.mk' "Journey") (by rfl) (by exact hr.mono (by decide)) (by rfl) (by exact F.g "Journey") kb_Journey_init_4 (by exact tk_cx) (ak_cons (ia_cons (ie_v 5) ia_nil) (ik_cons ie_int ik_nil)) rfl)) (ie_frz (by exact hcf) (ie_newF (cn := "Journey") (by exact ok_Journey_init F hcf hx0 hT TB) (by exact F.mk' "Journey") (by rfl) (by exact hr.mono (by decide)) (by rfl) (by exact F.g "Journey") kb_Journey_init_0 (by exact tk_cx) (ak_cons (ia_cons (ie_v 5) (ia_cons ie_int (ia_cons ie_int ia_nil))) ik_nil) rfl)) (by rfl))))) (is_one (is_ret ie_bl)) is_nil)
  (is_cons (is_st 1 nd__law_alike_right (ie_lstM (ia_cons (ie_frz (by exact hcf) (ie_newF (cn := "Journey") (by exact ok_Journey_init F hcf hx0 hT TB) (by exact F.mk' "Journey") (by rfl) (by exact hr.mono (by decide)) (by rfl) (by exact F.g "Journey") kb_Journey_init_0 (by exact tk_cx) (ak_cons (ia_cons (ie_v 5) (ia_cons (ie_idxB (by rfl) (by exact hu1 hr) (ie_v 0) ie_int) (ia_cons (ie_op (oi_mod) (ie_op (oi_add (by rfl)) (ie_idxB (by rfl) (by exact hu1 hr) (ie_v 0) ie_int) ie_int) ie_int) ia_nil))) ik_nil) rfl)) (ia_cons (ie_frz (by exact hcf) (ie_newF (cn := "Journey") (by exact ok_Journey_init F hcf hx0 hT TB) (by exact F.mk' "Journey") (by rfl) (by exact hr.mono (by decide)) (by rfl) (by exact F.g "Journey") kb_Journey_init_0 (by exact tk_cx) (ak_cons (ia_cons (ie_v 5) (ia_cons (ie_op (oi_mod) (ie_op (oi_add (by rfl)) (ie_idxB (by rfl) (by exact hu1 hr) (ie_v 0) ie_int) ie_int) ie_int) (ia_cons (ie_idxB (by rfl) (by exact hu1 hr) (ie_v 0) ie_int) ia_nil))) ik_nil) rfl)) ia_nil))))
  (is_cons (is_expr (ie_app (by rfl) (ie_v 1) (ie_frz (by exact hcf) (ie_newF (cn := "Journey") (by exact ok_Journey_init F hcf hx0 hT TB) (by exact F.mk' "Journey") (by rfl) (by exact hr.mono (by decide)) (by rfl) (by exact F.g "Journey") kb_Journey_init_0 (by exact tk_cx) (ak_cons (ia_cons (ie_op (oi_add (by rfl)) (ie_cut (by rfl) (ie_v 5) io_none (io_some (ie_neg ie_int))) (ie_tup (ia_cons (ie_op (oi_mod) (ie_op (oi_add (by rfl)) (ie_idxB (by rfl) (by exact hu1 hr) (ie_v 5) (ie_neg ie_int)) ie_int) ie_int) ia_nil))) (ia_cons (ie_idxB (by rfl) (by exact hu1 hr) (ie_v 0) ie_int) (ia_cons (ie_idxB (by rfl) (by exact hu1 hr) (ie_v 0) ie_int) ia_nil))) ik_nil) rfl))))
  (is_cons (is_for (vs := allN 6) (by exact passes_of rfl) (by rfl) (ii_any (by rfl) (ie_addS (ie_v 1) (ie_lst (ia_cons (ie_v 0) (ia_cons (ie_v 5) (ia_cons ie_non (ia_cons ie_int (ia_cons (ie_lst (ia_cons (ie_v 4) ia_nil)) ia_nil)))))))) (ig_n 2 nd__law_alike_right) (is_one (is_if (iw_pt (iw_or (ib_eqA (oi_eqA (by exact eqh_0 F hcf hx0 hT TB (by rfl) (by rfl) (by rfl) (by rfl) (by rfl)) (by exact hr.mono (by decide))) (ie_v 4) (ie_v 2) (by rfl)) (iw_or (ib_eqA (oi_eqA (by exact eqh_0 F hcf hx0 hT TB (by rfl) (by rfl) (by rfl) (by rfl) (by rfl)) (by exact hr.mono (by decide))) (ie_v 2) (ie_v 4) (by rfl)) (iw_or1 (ib_not (ib_eqA (oi_neA (by exact eqh_0 F hcf hx0 hT TB (by rfl) (by rfl) (by rfl) (by rfl) (by rfl)) (by exact hr.mono (by decide))) (ie_v 4) (ie_v 2) (by rfl))))))) (is_one (is_ret ie_bl)) is_nil)))
  (is_cons (is_for (vs := allN 6) (by exact passes_of rfl) (by rfl) (ii_any (by rfl) (ie_lst (ia_cons (ie_revT (by rfl) (ie_v 5)) (ia_cons (ie_cut (by rfl) (ie_op (oi_add (by rfl)) (ie_v 5) (ie_cut (by rfl) (ie_v 5) io_none (io_some ie_int))) io_none (io_some ie_int)) (ia_cons (ie_orT (by rfl) (ie_cut (by rfl) (ie_v 5) io_none (io_some (ie_neg ie_int))) (ie_one (ie_v 5))) ia_nil))))) (ig_n 3 nd__law_alike_right) (is_one (is_if (ib_cmp (oi_neP (by rfl) (by exact hr.rm.units)) (ie_eqA (oi_eqA (by exact eqh_0 F hcf hx0 hT TB (by rfl) (by rfl) (by rfl) (by rfl) (by rfl)) (by exact hr.mono (by decide))) (ie_v 4) (ie_frz (by exact hcf) (ie_newF (cn := "Journey") (by exact ok_Journey_init F hcf hx0 hT TB) (by exact F.mk' "Journey") (by rfl) (by exact hr.mono (by decide)) (by rfl) (by exact F.g "Journey") kb_Journey_init_0 (by exact tk_cx) (ak_cons (ia_cons (ie_v 3) (ia_cons (ie_idxB (by rfl) (by exact hu1 hr) (ie_v 0) ie_int) (ia_cons (ie_idxB (by rfl) (by exact hu1 hr) (ie_v 0) ie_int) ia_nil))) ik_nil) rfl)) (by rfl)) (ie_cmp (oi_eqP (by rfl) (by exact hr.rm.units)) (ie_v 3) (ie_v 5) (by rfl)) (by rfl)) (is_one (is_ret ie_bl)) is_nil)))
  (is_one (is_ret (ie_cmp (oi_eqP (by rfl) (by exact hr.rm.units)) (ie_eqA (oi_eqA (by exact eqh_0 F hcf hx0 hT TB (by rfl) (by rfl) (by rfl) (by rfl) (by rfl)) (by exact hr.mono (by decide))) (ie_v 4) (ie_frz (by exact hcf) (ie_newF (cn := "Journey") (by exact ok_Journey_init F hcf hx0 hT TB) (by exact F.mk' "Journey") (by rfl) (by exact hr.mono (by decide)) (by rfl) (by exact F.g "Journey") kb_Journey_init_0 (by exact tk_cx) (ak_cons (ia_cons (ie_v 5) (ia_cons (ie_idxB (by rfl) (by exact hu1 hr) (ie_v 0) ie_int) (ia_cons (ie_idxB (by rfl) (by exact hu1 hr) (ie_v 0) ie_int) ia_nil))) ik_nil) rfl)) (by rfl)) (ie_cmp (oi_eqP (by rfl) (by exact hr.rm.units)) (ie_idxB (by rfl) (by exact hu1 hr) (ie_v 0) ie_int) (ie_idxB (by rfl) (by exact hu1 hr) (ie_v 0) ie_int) (by rfl)) (by rfl)))))))))))
theorem kb__law_alike_right_0 (fd : FuncData) (FD : FunD T.K d__law_alike_right.name d__law_alike_right.qual d__law_alike_right.params d__law_alike_right.body d__law_alike_right.scope (d__law_alike_right.dvs T.K) [] (He.fAd T.K d__law_alike_right.at_) fd) : KBD T fd ["_law_row"] 1 [] [(0, 0)] [] :=
  kbd_n FD fun kV doc pm an cdv ct us ws h1 h2 => match us, ws, h1, h2 with | [_], [], _, _ => rfl
theorem nd__law_odd : (["_law_box_here", "_law_some"] : List Str).Nodup := by decide +kernel
theorem sc__law_odd : FnScope ["_law_box_here", "_law_some"] ["_law_box_here"] d__law_odd.scope := ⟨rfl, rfl, rfl, nd__law_odd, rfl, by decide +kernel, by decide +kernel⟩
theorem ok__law_odd (F : Fx T mg lw) (hcf : T.cf = cf) (hx0 : T.xc = none) (hT : T.tabs = tabsOf T.K lw.tf) (TB : TabsB T.K mg base (lw.tf.map (·.1))) : OkF T P w mg base 2 d__law_odd ["_law_box_here"] m__law_odd := by
  obtain ⟨fd, FD⟩ := F.defs 25 d__law_odd rfl
  refine OkF.mk' (N := ["_law_box_here", "_law_some"]) FD sc__law_odd fun cdv A outer s H E hr => ?_
  show ISs T E _ (defBody (top 41)) b__law_odd
  exact (is_cons (is_st 1 nd__law_odd (ie_lst (ia_cons ie_non (ia_cons ie_bl (ia_cons ie_bl (ia_cons ie_int (ia_cons (ie_neg ie_int) (ia_cons ie_int (ia_cons ie_int (ia_cons ie_str (ia_cons ie_str (ia_cons ie_str (ia_cons (ie_tup ia_nil) (ia_cons (ie_lst ia_nil) (ia_cons ie_dct0 (ia_cons (ie_tup (ia_cons ie_int ia_nil)) (ia_cons (ie_lst (ia_cons ie_int ia_nil)) (ia_cons (ie_tup (ia_cons ie_int ia_nil)) (ia_cons (ie_tup (ia_cons ie_bl ia_nil)) (ia_cons (ie_tup (ia_cons ie_str ia_nil)) (ia_cons (ie_op (oi_pow) ie_int ie_int) ia_nil)))))))))))))))))))))
  (is_one (is_ret (ie_idxB (by rfl) (by exact hu1 hr) (ie_op (oi_add (by rfl)) (ie_v 1) (ie_lst (ia_cons (ie_op (oi_mulR (by rfl)) (ie_tup (ia_cons ie_int ia_nil)) ie_int) (ia_cons (ie_dctC (l := [(.inr "a", .int 0)]) (.cons (y := .inr "a") ce_str ce_int rfl .nil) (by simp) (by decide) (by decide)) (ia_cons ie_str ia_nil))))) (ie_fnF (by exact ok__law_take F hcf hx0 hT TB) (by rfl) (by exact hr.mono (by decide)) (by rfl) (by exact F.g "_law_take") kb__law_take_0 (by exact tk_cx) (ak_cons (ia_cons (ie_v 0) (ia_cons ie_int ia_nil)) ik_nil))))))
theorem kb__law_odd_0 (fd : FuncData) (FD : FunD T.K d__law_odd.name d__law_odd.qual d__law_odd.params d__law_odd.body d__law_odd.scope (d__law_odd.dvs T.K) [] (He.fAd T.K d__law_odd.at_) fd) : KBD T fd ["_law_box_here"] 1 [] [(0, 0)] [] :=
  kbd_n FD fun kV doc pm an cdv ct us ws h1 h2 => match us, ws, h1, h2 with | [_], [], _, _ => rfl
theorem nd_law : (["_law_script", "_law_k", "_law_lap", "_law_box_here", "_law_row", "_law_turn", "_law_some", "_law_cities", "_law_bad_here", "_law_at"] : List Str).Nodup := by decide +kernel
theorem sc_law : FnScope ["_law_script", "_law_k", "_law_lap", "_law_box_here", "_law_row", "_law_turn", "_law_some", "_law_cities", "_law_bad_here", "_law_at"] ["_law_script"] d_law.scope := ⟨rfl, rfl, rfl, nd_law, rfl, by decide +kernel, by decide +kernel⟩
theorem ok_law (F : Fx T mg lw) (hcf : T.cf = cf) (hx0 : T.xc = none) (hT : T.tabs = tabsOf T.K lw.tf) (TB : TabsB T.K mg base (lw.tf.map (·.1))) : OkF T P w mg base 12 d_law ["_law_script"] m_law := by
  obtain ⟨fd, FD⟩ := F.defs 26 d_law rfl
  refine OkF.mk' (N := ["_law_script", "_law_k", "_law_lap", "_law_box_here", "_law_row", "_law_turn", "_law_some", "_law_cities", "_law_bad_here", "_law_at"]) FD sc_law fun cdv A outer s H E hr => ?_
  show ISs T E _ (defBody (top 46)) b_law
  exact (is_cons (is_for (vs := allN 10) (by exact passes_of rfl) (by rfl) (ii_r1 (by rfl) (by exact F.f "range") (ia_cons (ie_b (by exact call_max2 rfl) bo_max2 (by rfl) (by exact F.f "max") (by decide +kernel) (ia_cons ie_int (ia_cons (ie_b (by exact call_min2 rfl) bo_min2 (by rfl) (by exact F.f "min") (by decide +kernel) (ia_cons (ie_b (by exact call_len) bo_lenA (by rfl) (by exact F.f "len") (by decide +kernel) (ia_cons (ie_v 0) ia_nil)) (ia_cons ie_int ia_nil))) ia_nil))) ia_nil)) (ig_n 1 nd_law) (is_one (is_for (vs := allN 10) (by exact passes_of rfl) (by rfl) (ii_r1 (by rfl) (by exact F.f "range") (ia_cons ie_int ia_nil)) (ig_n 2 nd_law) (is_cons (is_st 3 nd_law (ie_fnF (by exact ok__law_box F hcf hx0 hT TB) (by rfl) (by exact hr.mono (by decide)) (by rfl) (by exact F.g "_law_box") kb__law_box_0 (by exact tk_cx) (ak_cons (ia_cons (ie_v 0) (ia_cons (ie_v 1) (ia_cons (ie_v 2) ia_nil))) ik_nil)))
  (is_cons (is_st 4 nd_law (ie_tup (ia_cons (ie_fnF (by exact ok__law_towns F hcf hx0 hT TB) (by rfl) (by exact hr.mono (by decide)) (by rfl) (by exact F.g "_law_towns") kb__law_towns_0 (by exact tk_cx) (ak_cons (ia_cons (ie_v 3) ia_nil) ik_nil)) (ia_cons (ie_fnF (by exact ok__law_take F hcf hx0 hT TB) (by rfl) (by exact hr.mono (by decide)) (by rfl) (by exact F.g "_law_take") kb__law_take_0 (by exact tk_cx) (ak_cons (ia_cons (ie_v 3) (ia_cons ie_int ia_nil)) ik_nil)) (ia_cons (ie_idxB (by rfl) (by exact hu1 hr) (ie_lst (ia_cons ie_int (ia_cons ie_int (ia_cons (ie_fnF (by exact ok__law_take F hcf hx0 hT TB) (by rfl) (by exact hr.mono (by decide)) (by rfl) (by exact F.g "_law_take") kb__law_take_0 (by exact tk_cx) (ak_cons (ia_cons (ie_v 3) (ia_cons ie_int ia_nil)) ik_nil)) ia_nil)))) (ie_fnF (by exact ok__law_take F hcf hx0 hT TB) (by rfl) (by exact hr.mono (by decide)) (by rfl) (by exact F.g "_law_take") kb__law_take_0 (by exact tk_cx) (ak_cons (ia_cons (ie_v 3) (ia_cons ie_int ia_nil)) ik_nil))) ia_nil)))))
  (is_cons (is_if (iw_pt (iw_or (ib_not (ib_val (ie_fnF (by exact ok__law_made_right F hcf hx0 hT TB) (by rfl) (by exact hr.mono (by decide)) (by rfl) (by exact F.g "_law_made_right") kb__law_made_right_0 (by exact tk_cx) (ak_cons (ia_cons (ie_v 4) ia_nil) ik_nil)))) (iw_or1 (ib_not (ib_val (ie_fnF (by exact ok__law_alike_right F hcf hx0 hT TB) (by rfl) (by exact hr.mono (by decide)) (by rfl) (by exact F.g "_law_alike_right") kb__law_alike_right_0 (by exact tk_cx) (ak_cons (ia_cons (ie_v 4) ia_nil) ik_nil))))))) (is_one (is_ret ie_bl)) is_nil)
  (is_cons (is_for (vs := allN 10) (by exact passes_of rfl) (by rfl) (ii_r1 (by rfl) (by exact F.f "range") (ia_cons ie_int ia_nil)) (ig_n 5 nd_law) (is_cons (is_st 8 nd_law (ie_listM (by rfl) (by rfl) (by exact F.f "list") (by decide +kernel) (ia_cons (ie_v 4) ia_nil)))
  (is_cons (is_for (vs := allN 10) (by exact passes_of rfl) (by rfl) (ii_r1 (by rfl) (by exact F.f "range") (ia_cons ie_int ia_nil)) (ig_n 9 nd_law) (is_one (is_if (ib_cmp (oi_eqP (by rfl) (by exact hr.rm.units)) (ie_fnF (by exact ok__law_take F hcf hx0 hT TB) (by rfl) (by exact hr.mono (by decide)) (by rfl) (by exact F.g "_law_take") kb__law_take_0 (by exact tk_cx) (ak_cons (ia_cons (ie_v 3) (ia_cons ie_int ia_nil)) ik_nil)) ie_int (by rfl)) (is_one (is_setit (ie_fnF (by exact ok__law_odd F hcf hx0 hT TB) (by rfl) (by exact hr.mono (by decide)) (by rfl) (by exact F.g "_law_odd") kb__law_odd_0 (by exact tk_cx) (ak_cons (ia_cons (ie_v 3) ia_nil) ik_nil)) (ie_v 8) (ie_v 9))) is_nil)))
  (is_one (is_if (ib_not (ib_val (ie_fnF (by exact ok__law_made_right F hcf hx0 hT TB) (by rfl) (by exact hr.mono (by decide)) (by rfl) (by exact F.g "_law_made_right") kb__law_made_right_0 (by exact tk_cx) (ak_cons (ia_cons (ie_bt (by exact call_tuple_of) bo_tuple (by rfl) (by exact F.f "tuple") (by decide +kernel) (ia_cons (ie_frzL (ie_v 8)) ia_nil)) ia_nil) ik_nil)))) (is_one (is_ret ie_bl)) is_nil)))))
  (is_cons (is_st 6 nd_law (ie_lst (ia_cons (ie_op (oi_mulR (by rfl)) (ie_idxB (by rfl) (by exact hu1 hr) (ie_v 4) ie_int) ie_int) (ia_cons (ie_cut (by rfl) (ie_op (oi_mulR (by rfl)) (ie_idxB (by rfl) (by exact hu1 hr) (ie_v 4) ie_int) ie_int) io_none (io_some ie_int)) (ia_cons (ie_bt (by exact call_list_of) bo_list (by rfl) (by exact F.f "list") (by decide +kernel) (ia_cons (ie_idxB (by rfl) (by exact hu1 hr) (ie_v 4) ie_int) ia_nil)) (ia_cons (ie_op (oi_add (by rfl)) (ie_idxB (by rfl) (by exact hu1 hr) (ie_v 4) ie_int) (ie_tup (ia_cons ie_int ia_nil))) (ia_cons (ie_op (oi_add (by rfl)) (ie_idxB (by rfl) (by exact hu1 hr) (ie_v 4) ie_int) (ie_tup (ia_cons ie_bl ia_nil))) (ia_cons (ie_tup (ia_cons ie_non ia_nil)) (ia_cons (ie_tup (ia_cons ie_bl ia_nil)) ia_nil)))))))))
  (is_one (is_for (vs := allN 10) (by exact passes_of rfl) (by rfl) (ii_any (by rfl) (ie_op (oi_add (by rfl)) (ie_v 6) (ie_lst (ia_cons (ie_op (oi_add (by rfl)) (ie_tup (ia_cons (ie_neg ie_int) ia_nil)) (ie_cut (by rfl) (ie_idxB (by rfl) (by exact hu1 hr) (ie_v 4) ie_int) (io_some ie_int) io_none)) (ia_cons (ie_op (oi_add (by rfl)) (ie_cut (by rfl) (ie_idxB (by rfl) (by exact hu1 hr) (ie_v 4) ie_int) io_none (io_some (ie_neg ie_int))) (ie_tup (ia_cons (ie_neg ie_int) ia_nil))) (ia_cons (ie_tup (ia_cons (ie_lst (ia_cons ie_int ia_nil)) ia_nil)) ia_nil)))))) (ig_n 7 nd_law) (is_one (is_if (ib_not (ib_val (ie_fnF (by exact ok__law_made_right F hcf hx0 hT TB) (by rfl) (by exact hr.mono (by decide)) (by rfl) (by exact F.g "_law_made_right") kb__law_made_right_0 (by exact tk_cx) (ak_cons (ia_cons (ie_tup (ia_cons (ie_v 7) (ia_cons (ie_idxB (by rfl) (by exact hu1 hr) (ie_v 4) ie_int) (ia_cons (ie_idxB (by rfl) (by exact hu1 hr) (ie_v 4) ie_int) ia_nil)))) ia_nil) ik_nil)))) (is_one (is_ret ie_bl)) is_nil))))))))))))
  (is_one (is_ret ie_bl)))
end
end
end Ro
end
section
set_option Elab.async false
set_option linter.all false
set_option maxRecDepth 100000
set_option maxHeartbeats 0
namespace Ro
open PySem PySem.Spec PyProof.Rows L2
abbrev RW : PySem.W.OpenRow := PySem.W.OpenLaw.row PySem.Challenge.rw_roadpence_k31_journeys_made
abbrev qv : Program := PySem.W.view RW.prog [46]
def nms0 : List PySem.Str := ["_wall", "PenceError", "NoRates", "NoSpot", "NoShare", "NoBook", "NoPlace", "Absent", "Nothing", "NoTable", "NoLine", "NoSpending", "NoRule", "NoJourney", "NoText", "TooMany", "NoRate", "NoDay", "NoName", "NoHeads", "is_whole", "are_twins", "MOST_DAYS", "LAST_TOWN", "TENTHS", "are_towns", "Journey", "_law_cell", "_law_mix", "_law_box"]
def nms1 : List PySem.Str := ["_law_take", "_law_marks", "_law_fields", "_law_which", "_law_said", "_law_whole", "_law_towns", "_law_odd", "_law_bad", "_law_days_right", "_law_made_right", "_law_alike_right"]
def nms : List PySem.Str := nms0 ++ nms1
def tsL : List He.Tab := []
abbrev hk : PySem.W.Hook := hookN 5 lw tsL
def ob (s : PySem.W.SharedT) : He.AlX := obN 5 lw tsL (HandSHeadRun.getT s)
theorem ob_eq (s : PySem.W.SharedT) : ob s = hk.obs s.abs := obN_eq (HandSHeadRun.getT_eq s)
theorem runF (w : World) : HandSHeadRun.RunEq RW qv hk ob 30000 nms (w.withFollow "special-get-raises" false) := fun os => by kernel_rfl
theorem runT (w : World) : HandSHeadRun.RunEq RW qv hk ob 30000 nms (w.withFollow "special-get-raises" true) := fun os => by kernel_rfl
theorem run (w : World) : HandSHeadRun.RunEq RW qv hk ob 30000 nms w :=
  PySem.W.byRow2 "special-get-raises" (P := fun w => HandSHeadRun.RunEq RW qv hk ob 30000 nms w) runF runT w
theorem law_binds (T : Tb) (fd : FuncData) (FD : FunD T.K d_law.name d_law.qual d_law.params d_law.body d_law.scope (d_law.dvs T.K) [] (He.fAd T.K d_law.at_) fd) (s : Shared) (u : Value) : BindsTo s fd ⟨[u], []⟩ [("_law_script", u)] :=
  (FunD.bindsA (ps := ["_law_script"]) FD fun _ _ _ _ _ _ us hl => match us, hl with | [_], _ => rfl) s [u] rfl
theorem at_law : d_law.at_ = (("law" : PySem.Str), none) := rfl
theorem fAd_none {K : PySem.W.Frag} {x : PySem.Str} : He.fAd K (x, none) = He.ga K x := rfl
theorem ref_uniq {mg : PySem.Str → Option Value} {x : PySem.Str} {a b : Addr} (h1 : mg x = some (.ref a)) (h2 : mg x = some (.ref b)) : b = a := by
  rw [h1] at h2
  have h3 := Option.some.inj h2
  injection h3 with h4
  exact h4.symm
theorem law_from (hm : ∀ ns : List Int, ns.length ≤ 63 → (∀ z ∈ ns, bits20 z) → ∃ S, m_law [.scr ns] [] = .ok (.bl true) S) : PySem.Challenge.rw_roadpence_k31_journeys_made.Holds := by
  w_on; o_law
  refine HandSHeadRun.head_any (r := PySem.W.OpenLaw.row PySem.Challenge.rw_roadpence_k31_journeys_made) (q := PySem.W.view (PySem.W.OpenLaw.row PySem.Challenge.rw_roadpence_k31_journeys_made).prog [46]) (H := hk) (ob := ob) (M := 30000) (loose := nms) (d := HandSHeadRun.topDef (PySem.W.OpenLaw.row PySem.Challenge.rw_roadpence_k31_journeys_made).prog 46) (kwd := []) ob_eq
    (by kernel_rfl) (fun s => by kernel_rfl) run (by kernel_rfl) (by kernel_rfl) (by kernel_rfl) (by rfl) (by first | assumption | decide +kernel) (by decide +kernel) ⟨rfl, rfl, rfl, rfl, rfl, by decide +kernel⟩ ?hw ?hc
  case hw => w_witness2
  case hc =>
    refine walkGT (l := PySem.Challenge.rw_roadpence_k31_journeys_made) (n := 63) (k := 12) (x := "_law_script") (m := m_law) rfl (by decide) (by kernel_rfl) (by decide) ?F hm
    intro w mg fa h Y G hmg0
    obtain ⟨K, KX, c⟩ := Y
    have hmg : mg ("law" : PySem.Str) = some (.ref fa) := by
      have e : (HandSHeadRun.topDef (PySem.W.OpenLaw.row PySem.Challenge.rw_roadpence_k31_journeys_made).prog 46).name = ("law" : PySem.Str) := by kernel_rfl
      rw [← e]
      exact hmg0
    obtain ⟨F, tF⟩ := says_fx (T := ⟨K, cf, tabsOf K lw.tf, none⟩) KX G c
    obtain ⟨fd0, FD0⟩ := F.defs 26 d_law rfl
    refine ⟨⟨K, cf, tabsOf K lw.tf, none⟩, fd0, lw.tf, rfl, KX, tF, law_binds _ fd0 FD0, fun base _ _ TB => ?_⟩
    have e : He.fAd K d_law.at_ = fa := by
      rw [at_law, fAd_none]
      exact ref_uniq hmg (F.g "law")
    obtain ⟨fd', FD', GG⟩ := (ok_law (P := (PySem.Challenge.rw_roadpence_k31_journeys_made).prog) (w := w) F rfl rfl rfl TB).ex
    rw [funD_uniq FD0 FD'] at GG
    rw [← e]
    exact GG
end Ro
end
section
set_option Elab.async false
set_option linter.all false
set_option maxRecDepth 100000
set_option maxHeartbeats 4000000
namespace Ro
open PySem
variable {S : Store}
@[simp] theorem ty_int (i : Int) : tyD (.int i) S = some (.b "int") := rfl
@[simp] theorem ty_bl (i : Bool) : tyD (.bl i) S = some (.b "bool") := rfl
@[simp] theorem ty_str (i : Str) : tyD (.str i) S = some (.b "str") := rfl
@[simp] theorem ty_tup (i : List D) : tyD (.tup i) S = some (.b "tuple") := rfl
@[simp] theorem ty_lst (i : List D) : tyD (.lst i) S = some (.b "list") := rfl
@[simp] theorem ty_non : tyD .non S = some (.b "NoneType") := rfl
@[simp] theorem ty_dct (i : List (D × D)) : tyD (.dct i) S = some (.b "dict") := rfl
def kinds : List Str := ["bed", "fee", "meal", "ride", "sundry"]
@[simp] theorem at_2 (d e c : D) (l : List D) : atP (d :: e :: c :: l) 2 = some c := by
  have : pyIx (d :: e :: c :: l).length 2 = some 2 := ix_nn _ 2 (by simp)
  unfold atP
  rw [this]
  rfl
@[simp] theorem at_3 (d e c b : D) (l : List D) : atP (d :: e :: c :: b :: l) 3 = some b := by
  have : pyIx (d :: e :: c :: b :: l).length 3 = some 3 := ix_nn _ 3 (by simp)
  unfold atP
  rw [this]
  rfl
theorem last_at (l : List D) : atP l (-1) = l.getLast? := by
  unfold atP pyIx
  rw [if_neg (by decide)]
  by_cases h : l.length = 0
  · simp [List.length_eq_zero_iff.mp h]
  · rw [if_pos (by omega), List.getLast?_eq_getElem?]
    have e : (-1 + (l.length : Int)).toNat = l.length - 1 := by omega
    rw [e]
    rfl
theorem pick_ok {l : List D} {i : Int} {P : D → Prop} (h0 : 0 ≤ i) (h1 : i < l.length) (h : ∀ d ∈ l, P d) : ∃ d, atP l i = some d ∧ P d := by
  have hl : i.toNat < l.length := by omega
  have e : (i.toNat : Int) = i := Int.toNat_of_nonneg h0
  refine ⟨l[i.toNat], ?_, h _ (List.getElem_mem hl)⟩
  have e2 : pyIx l.length i = some i.toNat := by
    have := ix_nn _ _ hl
    rw [e] at this
    exact this
  unfold atP
  rw [e2]
  simp [hl]
structure Fr (b : Nat) (S S' : Store) : Prop where
  bx : Bx S' b
  le : S.length ≤ S'.length
  keep : ∀ n, n < S.length → n ≠ b → S'[n]? = S[n]?
theorem Fr.trans {b : Nat} {S1 S2 : Store} (h : Fr b S S1) (k : Fr b S1 S2) : Fr b S S2 := ⟨k.bx, Nat.le_trans h.le k.le, fun n h1 h2 => (k.keep n (Nat.lt_of_lt_of_le h1 h.le) h2).trans (h.keep n h1 h2)⟩
theorem Bs.fr {b : Nat} {S1 : Store} (h : Bs S b S1) (hb : Bx S b) : Fr b S S1 := ⟨h.bx hb.lt, by rw [h.len]; exact Nat.le_refl _, fun n _ h2 => h.other h2⟩
theorem Bx.app {b : Nat} (h : Bx S b) (l : Store) : Bx (S ++ l) b := by
  obtain ⟨x, y, e, h1, h2⟩ := h
  exact ⟨x, y, by rw [List.getElem?_append_left (List.getElem?_eq_some_iff.mp e).1]; exact e, h1, h2⟩
theorem Fr.app {b : Nat} (h : Bx S b) (l : Store) : Fr b S (S ++ l) := ⟨h.app l, by simp, fun n h1 _ => List.getElem?_append_left h1⟩
@[simp] theorem u_sRaise {c : String} {a : AX} {env : Env} : sRaise c a env S = (a env S).bnd fun fs S1 => .err c fs S1 := rfl
@[simp] theorem u_aChk {n : Nat} {fa : AX} {env : Env} : aChk n fa env S = (fa env S).bnd fun ds S1 => if ds.length = n ∧ ds.length ≤ 1000 then .ok ds S1 else .bad := rfl
theorem ne_str (s : Str) : neD (.str s) (.str s) = some (.bl false) := by
  unfold neD
  have h : plD (.str s) = true := rfl
  rw [h]
  simp
end Ro
end
section
set_option Elab.async false
set_option linter.all false
set_option maxRecDepth 100000
set_option maxHeartbeats 1000000
namespace Ro
open PySem
variable {S : Store}
/-- a small plain part -/
structure SmA (d : D) : Prop where
  pl : plN 3 d = true
  sh : (toPy d).showable = true
  ln : (toPy d).shown.length ≤ 1000
theorem int_sm {i : Int} (h : i.natAbs < 10 ^ 100) : (PyData.int i).showable = true ∧ (PyData.shown (.int i)).length ≤ 101 := by
  refine ⟨?_, ?_⟩
  · simp only [PyData.showable, decide_eq_true_eq]
    by_cases c : i.natAbs = 0
    · rw [c]; decide
    · have := (Nat.log2_lt (n := i.natAbs) (k := 400) c).mpr (by
        have : (10 : Nat) ^ 100 < 2 ^ 400 := by decide
        omega)
      omega
  · show (Str.ofString (toString i)).length ≤ _
    rw [ofString_length]
    exact int_text_length_le10 (by decide) h
theorem smA_int {i : Int} (h : i.natAbs < 10 ^ 100) : SmA (.int i) := ⟨rfl, (int_sm h).1, Nat.le_trans (int_sm h).2 (by decide)⟩
theorem smA_bl (b : Bool) : SmA (.bl b) := ⟨rfl, rfl, by cases b <;> decide +kernel⟩
theorem tupText_len {ts : List Str} {n : Nat} (h : ∀ t ∈ ts, t.length ≤ n) : (tupleText ts).length ≤ ts.length * (n + 2) + 4 := by
  have hp : ∀ ts : List Str, (∀ t ∈ ts, t.length ≤ n) → piled ts ≤ ts.length * (n + 2) := by
    intro ts
    induction ts with
    | nil => intro _; simp [piled]
    | cons t ts ih =>
      intro h
      have h1 := h t (by simp)
      have h2 := ih fun x hx => h x (by simp [hx])
      rw [piled_cons, List.length_cons, Nat.add_mul]
      omega
  unfold tupleText
  rw [PySem.strLen_append, PySem.strLen_append]
  have e1 : ((("(" : String) : Str)).length = 1 := rfl
  have e3 : (((if ts.length == 1 then ",)" else ")" : String) : Str)).length ≤ 2 := by split <;> decide
  cases ts with
  | nil =>
    have : (Str.join ", " []).length = 0 := rfl
    omega
  | cons t r =>
    have e := join_length_add (t :: r) (by simp)
    have := hp (t :: r) h
    omega
theorem pyAll_sh : ∀ {l : List D}, (∀ x ∈ l, SmA x) → PyData.showableAll (toPys l) = true ∧ (∀ t ∈ PyData.shownAll (toPys l), t.length ≤ 1000) ∧ (PyData.shownAll (toPys l)).length = l.length ∧ l.all (plN 3) = true
  | [], _ => ⟨rfl, by simp [toPys, PyData.shownAll], rfl, rfl⟩
  | x :: l, h => by
    obtain ⟨h1, h2, h3, h4⟩ := pyAll_sh (l := l) fun y hy => h y (by simp [hy])
    have hx := h x (by simp)
    refine ⟨by simp [toPys, PyData.showableAll, h1, hx.sh], ?_, by simp [toPys, PyData.shownAll, h3], by simp [hx.pl]; simpa using h4⟩
    intro t ht
    simp only [toPys, PyData.shownAll, List.mem_cons] at ht
    rcases ht with rfl | ht
    · exact hx.ln
    · exact h2 t ht
theorem pl_mono : ∀ {n m : Nat} {d : D}, n ≤ m → plN n d = true → plN m d = true
  | _, _, .non, _, _ => by simp
  | _, _, .bl _, _, _ => by simp
  | _, _, .int _, _, _ => by simp
  | _, _, .str _, _, _ => by simp
  | 0, _, .tup l, _, h => by simp [plN] at h
  | 0, _, .lst l, _, h => by simp [plN] at h
  | n + 1, 0, _, h, _ => by omega
  | n + 1, m + 1, .tup l, h, k => by
    have k' : ∀ x ∈ l, plN n x = true := by simpa using k
    show l.all (plN m) = true
    rw [List.all_eq_true]
    intro x hx
    exact pl_mono (by omega) (k' x hx)
  | n + 1, m + 1, .lst l, h, k => by
    have k' : ∀ x ∈ l, plN n x = true := by simpa using k
    show l.all (plN m) = true
    rw [List.all_eq_true]
    intro x hx
    exact pl_mono (by omega) (k' x hx)
  | n, _, .scr _, _, h => by simp [plN] at h
  | n, _, .dct _, _, h => by simp [plN] at h
  | n, _, .obj _ _, _, h => by simp [plN] at h
  | n, _, .ref _, _, h => by simp [plN] at h
  | n, _, .fn _, _, h => by simp [plN] at h
  | n, _, .thk _ _, _, h => by simp [plN] at h
theorem tupA {l : List D} (hl : l.length ≤ 12) (h : ∀ x ∈ l, SmA x) : reprOk (.tup l) = true := by
  obtain ⟨h1, h2, h3, h4⟩ := pyAll_sh h
  have hp : plD (.tup l) = true := by
    show l.all (plN 7) = true
    rw [List.all_eq_true] at h4 ⊢
    exact fun x hx => pl_mono (by decide) (h4 x hx)
  have hs : (toPy (.tup l)).showable = true := h1
  have hn : (toPy (.tup l)).shown.length ≤ LINE := by
    have := tupText_len h2
    rw [h3] at this
    show (tupleText (PyData.shownAll (toPys l))).length ≤ LINE
    have : l.length * (1000 + 2) ≤ 12 * 1002 := Nat.mul_le_mul_right _ hl
    simp
    omega
  unfold reprOk
  simp only [hp, hs, hn, decide_true, Bool.and_self]
/-- there is a repr -/
def Shw (d : D) : Prop := ∃ s, bReprX [d] = some (.str s)
theorem shw_ok {d : D} (h : reprOk d = true) : Shw d := ⟨_, by show (if reprOk d = true then _ else _) = _; rw [if_pos h]⟩
end Ro
end
section
set_option Elab.async false
set_option linter.all false
set_option maxRecDepth 100000
set_option maxHeartbeats 1000000
namespace Ro
open PySem
variable {S : Store}
def okD : D → Bool
  | .str s => decide (s.length ≤ LINE)
  | .non => true
  | .bl _ => true
  | .int _ => true
  | .tup _ => true
  | .lst _ => true
  | .dct _ => true
  | _ => false
def wholeB (d : D) (lo hi : Int) : Bool := match d with
  | .int i => decide (lo ≤ i) && decide (i ≤ hi)
  | _ => false
@[simp] theorem st_int_int : subTy (.b "int") (.b "int") = true := by decide
@[simp] theorem st_bool_int : subTy (.b "bool") (.b "int") = true := by decide
@[simp] theorem st_NoneType_int : subTy (.b "NoneType") (.b "int") = false := by decide
@[simp] theorem st_str_int : subTy (.b "str") (.b "int") = false := by decide
@[simp] theorem st_tuple_int : subTy (.b "tuple") (.b "int") = false := by decide
@[simp] theorem st_list_int : subTy (.b "list") (.b "int") = false := by decide
@[simp] theorem st_dict_int : subTy (.b "dict") (.b "int") = false := by decide
@[simp] theorem st_int_bool : subTy (.b "int") (.b "bool") = false := by decide
@[simp] theorem st_bool_bool : subTy (.b "bool") (.b "bool") = true := by decide
@[simp] theorem st_NoneType_bool : subTy (.b "NoneType") (.b "bool") = false := by decide
@[simp] theorem st_str_bool : subTy (.b "str") (.b "bool") = false := by decide
@[simp] theorem st_tuple_bool : subTy (.b "tuple") (.b "bool") = false := by decide
@[simp] theorem st_list_bool : subTy (.b "list") (.b "bool") = false := by decide
@[simp] theorem st_dict_bool : subTy (.b "dict") (.b "bool") = false := by decide
@[simp] theorem st_int_str : subTy (.b "int") (.b "str") = false := by decide
@[simp] theorem st_bool_str : subTy (.b "bool") (.b "str") = false := by decide
@[simp] theorem st_NoneType_str : subTy (.b "NoneType") (.b "str") = false := by decide
@[simp] theorem st_str_str : subTy (.b "str") (.b "str") = true := by decide
@[simp] theorem st_tuple_str : subTy (.b "tuple") (.b "str") = false := by decide
@[simp] theorem st_list_str : subTy (.b "list") (.b "str") = false := by decide
@[simp] theorem st_dict_str : subTy (.b "dict") (.b "str") = false := by decide
@[simp] theorem st_int_tuple : subTy (.b "int") (.b "tuple") = false := by decide
@[simp] theorem st_bool_tuple : subTy (.b "bool") (.b "tuple") = false := by decide
@[simp] theorem st_NoneType_tuple : subTy (.b "NoneType") (.b "tuple") = false := by decide
@[simp] theorem st_str_tuple : subTy (.b "str") (.b "tuple") = false := by decide
@[simp] theorem st_tuple_tuple : subTy (.b "tuple") (.b "tuple") = true := by decide
@[simp] theorem st_list_tuple : subTy (.b "list") (.b "tuple") = false := by decide
@[simp] theorem st_dict_tuple : subTy (.b "dict") (.b "tuple") = false := by decide
@[simp] theorem tl_int : Ty.b "int" ∈ tysL := by decide
@[simp] theorem tl_bool : Ty.b "bool" ∈ tysL := by decide
@[simp] theorem tl_NoneType : Ty.b "NoneType" ∈ tysL := by decide
@[simp] theorem tl_str : Ty.b "str" ∈ tysL := by decide
@[simp] theorem tl_tuple : Ty.b "tuple" ∈ tysL := by decide
@[simp] theorem tl_list : Ty.b "list" ∈ tysL := by decide
@[simp] theorem tl_dict : Ty.b "dict" ∈ tysL := by decide
theorem whole_b {d : D} (hd : okD d = true) (lo hi : Int) : m_is_whole [d, .int lo, .int hi] S = .ok (.bl (wholeB d lo hi)) S := by
  unfold m_is_whole b_is_whole
  cases d with
  | int i => by_cases c : lo ≤ i <;> simp [c, wholeB]
  | scr l => cases hd
  | obj c l => cases hd
  | ref n => cases hd
  | fn n => cases hd
  | thk n l => cases hd
  | _ => simp [wholeB]
theorem Ext.bx {b : Nat} {S S' : Store} (h : Ext S S') (hB : Bx S b) : Bx S' b := by
  obtain ⟨X, rfl⟩ := h
  exact hB.app X
end Ro
end
section
set_option Elab.async false
set_option linter.all false
set_option maxRecDepth 100000
set_option maxHeartbeats 1000000
namespace Ro
open PySem
variable {S : Store} {env : Env}
def townsB : D → Bool
  | .tup l => decide (1 ≤ l.length) && decide (l.length ≤ 30) && l.all fun d => wholeB d 0 3
  | _ => false
/-- a thing whose parts are things -/
def okT (d : D) : Prop := okD d = true ∧ ∀ l, d = .tup l → l.length ≤ 2000 ∧ ∀ x ∈ l, okD x = true
theorem lc_bools {tg : Pat} {c : BX} {el : EX} {env0 : Env} {g : D → Bool} : ∀ {xs acc : List D}, acc.length + xs.length ≤ 16777216 → (∀ x ∈ xs, ∃ e, tg x env0 = some e ∧ c e S = .ok true S ∧ el e S = .ok (.bl (g x)) S) →
    lcLoop tg c el env0 xs acc S = .ok (acc ++ xs.map fun x => .bl (g x)) S
  | [], acc, _, _ => by simp [lcLoop]
  | x :: xs, acc, hl, h => by
    obtain ⟨e, h1, h2, h3⟩ := h x (by simp)
    have ih := lc_bools (g := g) (xs := xs) (acc := acc ++ [D.bl (g x)]) (by simp at hl ⊢; omega) (fun y hy => h y (by simp [hy]))
    unfold lcLoop
    rw [h1]
    dsimp only
    rw [h2, nox_ok, bnd_ok, if_pos rfl, h3, nox_ok, bnd_ok, if_pos (by simp at hl ⊢; omega), ih]
    simp
theorem dBls_map {g : D → Bool} : ∀ l : List D, dBls (l.map fun x => .bl (g x)) = some (l.map g)
  | [] => rfl
  | x :: l => by rw [List.map_cons, dBls, dBls_map l]; rfl
theorem bAll_map {g : D → Bool} (l : List D) : bAll [.lst (l.map fun x => .bl (g x))] = some (.bl (l.all g)) := by
  show ((dBls (l.map fun x => .bl (g x))).map fun bs => D.bl (bs.all id)) = _
  rw [dBls_map]
  simp [List.all_map]
@[simp] theorem len_tup (l : List D) : bLenA [.tup l] = some (.int l.length) := rfl
@[simp] theorem len_lst (l : List D) : bLenA [.lst l] = some (.int l.length) := rfl
theorem towns_b {d : D} (h : okT d) : m_are_towns [d] S = .ok (.bl (townsB d)) S := by
  obtain ⟨h1, h2⟩ := h
  unfold m_are_towns b_are_towns
  cases d with
  | tup l =>
    obtain ⟨hl, hx⟩ := h2 l rfl
    have key : lcLoop (pName 1) bYes (eFn (callM m_is_whole 3 0 3 [(0, 0), (0, 1), (0, 2)] []) (aCons (eVar 1) (aCons (eC (.int 0)) (aCons (eC (.int 3)) aNil))) aNil) (wipeE [some (.tup l), none] [1]) l [] S = .ok ([] ++ l.map fun x => .bl (wholeB x 0 3)) S := by
      refine lc_bools (by simp; omega) fun x hxm => ?_
      refine ⟨_, rfl, rfl, ?_⟩
      have := whole_b (S := S) (hx x hxm) 0 3
      simp [wipeE, this]
    rw [List.nil_append] at key
    have ba := bAll_map (g := fun x => wholeB x 0 3) l
    generalize (l.map fun x => D.bl (wholeB x 0 3)) = L at key ba
    by_cases c1 : (1 : Int) ≤ l.length
    · have c1' : 1 ≤ l.length := by omega
      by_cases c2 : (l.length : Int) ≤ 30
      · have c2' : l.length ≤ 30 := by omega
        simp [c1, c2, key, ba, townsB, c1', c2']
      · have c2' : ¬ l.length ≤ 30 := by omega
        simp [c1, c2, townsB, c2']
    · have c1' : ¬ 1 ≤ l.length := by omega
      simp [c1, townsB, c1']
  | scr l => cases h1
  | obj c l => cases h1
  | ref n => cases h1
  | fn n => cases h1
  | thk n l => cases h1
  | _ => simp [townsB]
def jrn (l : List D) (b e : D) : D := .obj "Journey" [.tup l, .tup [b, e], .lst [], .lst [], .lst []]
def jBad (t b e : D) : Option Str := if townsB t = false then some "towns" else if wholeB b 0 10 = false then some "begun" else if wholeB e 0 10 = false then some "ended" else none
theorem towns_tup {t : D} (h : townsB t = true) : ∃ l, t = .tup l ∧ 1 ≤ l.length ∧ l.length ≤ 30 ∧ ∀ x ∈ l, wholeB x 0 3 = true := by
  cases t with
  | tup l =>
    simp [townsB] at h
    exact ⟨l, rfl, h.1.1, h.1.2, h.2⟩
  | _ => cases h
theorem whole_int {d : D} {lo hi : Int} (h : wholeB d lo hi = true) : ∃ i : Int, d = .int i ∧ lo ≤ i ∧ i ≤ hi := by
  cases d with
  | int i => simp [wholeB] at h; exact ⟨i, rfl, h.1, h.2⟩
  | _ => cases h
theorem jinit_ok {n : Nat} {t b e : D} (ht : okT t) (hb : okD b = true) (he : okD e = true) (hS : S[n]? = some (.ins "Journey" [])) : m_Journey_init [.ref n, t, b, e] S = match jBad t b e with
    | some p => .err "NoJourney" [.str p] S
    | none => .ok .non (S.set n (.ins "Journey" [("own_towns", t), ("own_ends", .tup [b, e]), ("own_lines", .lst []), ("own_sums", .lst []), ("own_past", .lst [])])) := by
  have hn : n < S.length := (List.getElem?_eq_some_iff.mp hS).1
  have k1 := towns_b (S := S) ht
  have k2 := whole_b (S := S) hb 0 10
  have k3 := whole_b (S := S) he 0 10
  have hg : S[n] = .ins "Journey" [] := (List.getElem?_eq_some_iff.mp hS).2
  unfold m_Journey_init
  rw [u_fnM, x_Journey_init]
  unfold t_Journey_init_3 t_Journey_init_5 t_Journey_init_7 t_Journey_init_8 t_Journey_init_9 t_Journey_init_10 t_Journey_init_11
  unfold jBad
  cases c1 : townsB t with
  | false => rw [c1] at k1; simp [k1]
  | true =>
    rw [c1] at k1
    cases c2 : wholeB b 0 10 with
    | false => rw [c2] at k2; simp [k1, k2]
    | true =>
      rw [c2] at k2
      cases c3 : wholeB e 0 10 with
      | false => rw [c3] at k3; simp [k1, k2, k3]
      | true =>
        rw [c3] at k3
        simp [k1, k2, k3, hg, hn, setF]
theorem frz_j {xs zs : List D} {pk : List (Nat × Nat)} {n kn : Nat} {dfs : List D} {t b e : D} (ht : okT t) (hb : okD b = true) (he : okD e = true)
    (hp : pick pk (.ref S.length :: xs) dfs zs = [.ref S.length, t, b, e]) (h1 : xs.length + 1 = n) (h2 : zs.length = kn) :
    ∃ X, frzM cf (newM "Journey" (callM m_Journey_init n kn 4 pk dfs) xs zs S) = match jBad t b e with
      | some p => .err "NoJourney" [.str p] (S ++ X)
      | none => .ok (.obj "Journey" [t, .tup [b, e], .lst [], .lst [], .lst []]) (S ++ X) := by
  have hS : (S ++ [Cell.ins "Journey" []])[S.length]? = some (.ins "Journey" []) := by simp
  have q := jinit_ok ht hb he hS
  unfold newM
  rw [u_callM, if_pos ⟨by simp [← h1], h2, by rw [hp]; rfl⟩, hp, q]
  cases jBad t b e with
  | none => exact ⟨[.dead], by simp [frzM, cf]⟩
  | some p => exact ⟨[.ins "Journey" []], rfl⟩
end Ro
end
section
set_option Elab.async false
set_option linter.all false
set_option maxRecDepth 100000
set_option maxHeartbeats 1000000
namespace Ro
open PySem
variable {S : Store} {env : Env}
theorem town_ok {l : List D} {b e x : D} {i : Nat} (hi : l[i]? = some x) : m_Journey_town_on [jrn l b e, .int (i : Int)] S = .ok x S := by
  have hl : i < l.length := (List.getElem?_eq_some_iff.mp hi).1
  have at1 : ∀ S : Store, attrD cf ["Journey"] "own_towns" (jrn l b e) S = some (.tup l) := fun _ => rfl
  have k := whole_b (S := S) (d := .int (i : Int)) rfl 0 ((l.length : Int) - 1)
  have hw : wholeB (.int (i : Int)) 0 ((l.length : Int) - 1) = true := by simp [wholeB]; omega
  rw [hw] at k
  have hat : atP l (i : Int) = some x := by
    unfold atP
    rw [ix_nn _ _ hl]
    exact hi
  unfold m_Journey_town_on
  rw [u_fnM, x_Journey_town_on]
  unfold t_Journey_town_on_3
  simp [at1, k, hat]
theorem town_no {l : List D} {b e d : D} (hd : okD d = true) (hw : wholeB d 0 ((l.length : Int) - 1) = false) : m_Journey_town_on [jrn l b e, d] S = .err "NoDay" [d] S := by
  have at1 : ∀ S : Store, attrD cf ["Journey"] "own_towns" (jrn l b e) S = some (.tup l) := fun _ => rfl
  have k := whole_b (S := S) hd 0 ((l.length : Int) - 1)
  rw [hw] at k
  unfold m_Journey_town_on
  rw [u_fnM, x_Journey_town_on]
  simp [at1, k]
theorem lwhole_b {d : D} (hd : okD d = true) (lo hi : Int) : m__law_whole [d, .int lo, .int hi] S = .ok (.bl (wholeB d lo hi)) S := whole_b hd lo hi
def badD : Option Str → D
  | some p => .str p
  | none => .non
theorem bad_ok {t b e : D} (ht : okT t) (hb : okD b = true) (he : okD e = true) : m__law_bad [.tup [t, b, e]] S = .ok (badD (jBad t b e)) S := by
  have k2 := lwhole_b (S := S) hb 0 10
  have k3 := lwhole_b (S := S) he 0 10
  have i0 : ∀ S : Store, idxB (.tup [t, b, e]) (.int 0) S = some t := fun _ => rfl
  have i1 : ∀ S : Store, idxB (.tup [t, b, e]) (.int 1) S = some b := fun _ => rfl
  have i2 : ∀ S : Store, idxB (.tup [t, b, e]) (.int 2) S = some e := fun _ => rfl
  obtain ⟨h1, h2⟩ := ht
  unfold m__law_bad
  rw [u_fnM, x__law_bad]
  unfold t__law_bad_2 t__law_bad_4 t__law_bad_6 t__law_bad_8
  unfold jBad
  cases t with
  | tup l =>
    obtain ⟨hl, hx⟩ := h2 l rfl
    have key : lcLoop (pName 2) bYes (eFn (callM m__law_whole 3 0 3 [(0, 0), (0, 1), (0, 2)] []) (aCons (eVar 2) (aCons (eC (.int 0)) (aCons (eC (.int 3)) aNil))) aNil) (wipeE [some (.tup [.tup l, b, e]), some (.tup l), none] [2]) l [] S = .ok ([] ++ l.map fun x => .bl (wholeB x 0 3)) S := by
      refine lc_bools (by simp; omega) fun x hxm => ?_
      refine ⟨_, rfl, rfl, ?_⟩
      have := lwhole_b (S := S) (hx x hxm) 0 3
      simp [wipeE, this]
    rw [List.nil_append] at key
    have ba := bAll_map (g := fun x => wholeB x 0 3) l
    generalize (l.map fun x => D.bl (wholeB x 0 3)) = L at key ba
    by_cases c1 : (1 : Int) ≤ l.length
    · have c1' : 1 ≤ l.length := by omega
      by_cases c2 : (l.length : Int) ≤ 30
      · have c2' : l.length ≤ 30 := by omega
        cases c3 : l.all fun x => wholeB x 0 3 with
        | false =>
          rw [c3] at ba
          have ht : townsB (.tup l) = false := by simp only [townsB, c3, Bool.and_false]
          simp [-idx_tup, i0, c1, c2, key, ba, ht, badD]
        | true =>
          rw [c3] at ba
          have ht : townsB (.tup l) = true := by simp only [townsB, c3, c1', c2', decide_true, Bool.and_self]
          cases c4 : wholeB b 0 10 with
          | false =>
            rw [c4] at k2
            simp [-idx_tup, i0, i1, c1, c2, key, ba, ht, k2, badD]
          | true =>
            rw [c4] at k2
            cases c5 : wholeB e 0 10 with
            | false =>
              rw [c5] at k3
              simp [-idx_tup, i0, i1, i2, c1, c2, key, ba, ht, k2, k3, badD]
            | true =>
              rw [c5] at k3
              simp [-idx_tup, i0, i1, i2, c1, c2, key, ba, ht, k2, k3, badD]
      · have c2' : ¬ l.length ≤ 30 := by omega
        have ht : townsB (.tup l) = false := by simp [townsB, c2']
        simp [-idx_tup, i0, c1, c2, ht, badD]
    · have c1' : ¬ 1 ≤ l.length := by omega
      have ht : townsB (.tup l) = false := by simp [townsB, c1']
      simp [-idx_tup, i0, c1, ht, badD]
  | scr l => cases h1
  | obj c l => cases h1
  | ref n => cases h1
  | fn n => cases h1
  | thk n l => cases h1
  | _ => simp [-idx_tup, i0, townsB, badD]
theorem wh_pl {d : D} {lo hi : Int} {n : Nat} (h : wholeB d lo hi = true) : plN n d = true := by
  obtain ⟨i, rfl, _⟩ := whole_int h
  simp
theorem wh_self {lo hi : Int} : ∀ {l : List D}, (∀ x ∈ l, wholeB x lo hi = true) → pyEqs l l = true
  | [], _ => by simp
  | x :: l, h => by
    obtain ⟨i, rfl, _⟩ := whole_int (h x (by simp))
    rw [pyEqs_cons, wh_self fun y hy => h y (by simp [hy])]
    simp
end Ro
end
section
set_option Elab.async false
set_option linter.all false
set_option maxRecDepth 100000
set_option maxHeartbeats 1000000
namespace Ro
open PySem
variable {S : Store} {env : Env}
theorem sd_day {d : D} : refL cnsL "NoDay" [d] = some (.tup [.str "day", d]) := rfl
theorem sd_jrn {d : D} : refL cnsL "NoJourney" [d] = some (.tup [.str "journey", d]) := rfl
theorem jlen_ok {l : List D} {b e : D} : lenM "Journey" m_Journey_len (jrn l b e) S = .ok (.int 0) S := by
  have at1 : ∀ S : Store, attrD cf ["Journey"] "own_lines" (jrn l b e) S = some (.lst []) := fun _ => rfl
  have k : m_Journey_len [jrn l b e] S = .ok (.int 0) S := by
    unfold m_Journey_len b_Journey_len
    simp [at1]
  unfold lenM
  simp [jrn] at k ⊢
  rw [k]
  simp
theorem jtwins_ok {l : List D} {b e : D} : m_Journey_twins [jrn l b e] S = .ok (.lst []) (S ++ [.dead]) := by
  have at1 : ∀ S : Store, attrD cf ["Journey"] "own_lines" (jrn l b e) S = some (.lst []) := fun _ => rfl
  unfold m_Journey_twins
  rw [u_fnM, x_Journey_twins]
  unfold t_Journey_twins_2 t_Journey_twins_5
  generalize t_Journey_twins_3 = t4
  simp [at1, itEnum, enumL, loop, eFrzL, frzL]
theorem jlines_ok {l : List D} {b e : D} : m_Journey_lines [jrn l b e] S = .ok (.lst []) S := by
  have at1 : ∀ S : Store, attrD cf ["Journey"] "own_lines" (jrn l b e) S = some (.lst []) := fun _ => rfl
  unfold m_Journey_lines b_Journey_lines
  simp [at1, bList]
def badDays (n : Nat) : List D := [.int n, .int (-1), .int 60, .non, .bl true, .str "0", .tup [.int 0], .int 100000000000000000000000000000]
theorem badDays_ok {l : List D} {d : D} (h1 : 1 ≤ l.length) (h2 : l.length ≤ 30) (hd : d ∈ badDays l.length) : okD d = true ∧ wholeB d 0 ((l.length : Int) - 1) = false ∧ ∃ s, bReprX [.tup [.str "day", d]] = some (.str s) := by
  have sh : SmA d → Shw (.tup [.str "day", d]) := fun h => shw_ok (tupA (by simp) fun x hx => by
    simp only [List.mem_cons, List.not_mem_nil, or_false] at hx
    rcases hx with rfl | rfl
    · exact ⟨rfl, rfl, by decide +kernel⟩
    · exact h)
  simp only [badDays, List.mem_cons, List.not_mem_nil, or_false] at hd
  rcases hd with rfl | rfl | rfl | rfl | rfl | rfl | rfl | rfl
  · exact ⟨rfl, by simp [wholeB]; omega, sh (smA_int (by
      have : (30 : Nat) < 10 ^ 100 := by decide
      omega))⟩
  · exact ⟨rfl, by simp [wholeB], sh (smA_int (by decide))⟩
  · exact ⟨rfl, by simp [wholeB]; omega, sh (smA_int (by decide))⟩
  · exact ⟨rfl, rfl, sh ⟨rfl, rfl, by decide +kernel⟩⟩
  · exact ⟨rfl, rfl, sh (smA_bl _)⟩
  · exact ⟨by decide, rfl, sh ⟨rfl, by decide +kernel, by decide +kernel⟩⟩
  · exact ⟨rfl, rfl, sh ⟨by simp, by decide +kernel, by decide +kernel⟩⟩
  · exact ⟨rfl, by simp [wholeB]; omega, sh (smA_int (by decide))⟩
theorem days_ok {l : List D} {b e : D} (h : townsB (.tup l) = true) : W (m__law_days_right [jrn l b e, .tup l] S) fun d S' => d = .bl true ∧ S' = S ++ [.dead] := by
  obtain ⟨_, hE, h1, h2, hx⟩ := towns_tup h
  cases hE
  have pl : l.all (plN 7) = true := by
    rw [List.all_eq_true]
    exact fun x hxm => wh_pl (hx x hxm)
  have sf := wh_self hx
  have nel : neD (.lst l) (.lst l) = some (.bl false) := by
    unfold neD
    have e1 : plD (.lst l) = true := pl
    rw [e1, pyEq_lst, sf]
    rfl
  have p29 : powD (.int 10) (.int 29) = some (.int 100000000000000000000000000000) := by first | rfl | (unfold powD; rfl) | simp [powD]
  have nn : eqD (.lst []) (.lst []) = some (.bl true) := rfl
  have jl := fun S => jlen_ok (S := S) (l := l) (b := b) (e := e)
  have jw := fun S => jtwins_ok (S := S) (l := l) (b := b) (e := e)
  have jn := fun S => jlines_ok (S := S) (l := l) (b := b) (e := e)
  apply_rules only [x__law_days_right]
  apply_rules
  refine Ws_lcm (atI l) (by simp; omega) (fun x hxm => ?_) ?_
  · obtain ⟨i, hi, rfl⟩ := rng_mem hxm
    have := town_ok (S := S) (b := b) (e := e) (List.getElem?_eq_getElem hi)
    refine ⟨_, rfl, ?_⟩
    apply_rules [this]
    simp [atI, hi]
  · rw [rng_atI]
    apply_rules [jl, jw, jn]
    refine Ws_loop (I := fun env S' => ∃ x2 x3, env = [some (jrn l b e), some (.tup l), x2, x3] ∧ S' = S) ⟨_, _, rfl, rfl⟩ (fun d hd env S' hI => ?_) (fun env S' hI => ?_)
    · obtain ⟨x2, x3, rfl, rfl⟩ := hI
      have hd : d ∈ badDays l.length := hd
      obtain ⟨k1, k2, s, k3⟩ := badDays_ok h1 h2 hd
      have r1 := fun S => town_no (S := S) (b := b) (e := e) k1 k2
      have n1 := ne_str s
      refine ⟨_, rfl, ?_⟩
      apply_rules [r1, sd_day]
      refine Lp.nx ?_
      exact ⟨_, _, rfl, rfl⟩
    · obtain ⟨x2, x3, rfl, rfl⟩ := hI
      apply_rules [jl, jw, jn]
      rfl
theorem made_ok {t b e : D} (ht : okT t) (hb : okD b = true) (he : okD e = true) : W (m__law_made_right [.tup [t, b, e]] S) fun d S' => d = .bl true ∧ Ext S S' := by
  have kb := fun S => bad_ok (S := S) ht hb he
  apply_rules only [x__law_made_right]
  apply_rules
  refine Ws_loop (I := fun env S' => ∃ x1 x2 x3, env = [some (.tup [t, b, e]), x1, x2, x3] ∧ Ext S S') ⟨_, _, _, rfl, Ext.refl _⟩ (fun d hd env S' hI => ?_) (fun env S' hI => ?_)
  · obtain ⟨x1, x2, x3, rfl, hE⟩ := hI
    refine ⟨_, rfl, ?_⟩
    obtain ⟨X, hX⟩ := frz_j (S := S') (n := 4) (kn := 0) (pk := [(0, 0), (0, 1), (0, 2), (0, 3)]) (xs := [t, b, e]) (zs := []) (dfs := [.int 10, .int 10]) ht hb he rfl rfl rfl
    have dy := fun (l : List D) (h : townsB (.tup l) = true) S => days_ok (S := S) (b := b) (e := e) h
    cases z : jBad t b e with
    | some p =>
      rw [z] at hX kb
      dsimp only [badD] at hX kb
      apply_rules [hX, kb, sd_jrn]
      refine Lp.nx ?_
      exact ⟨_, _, _, rfl, hE.trans ⟨_, rfl⟩⟩
    | none =>
      rw [z] at hX kb
      dsimp only [badD] at hX kb
      apply_rules [hX, kb, sd_jrn]
      obtain ⟨l, rfl, _⟩ := towns_tup (by
        unfold jBad at z
        split at z
        · cases z
        · rename_i h; simpa using h)
      have hT : townsB (.tup l) = true := by
        unfold jBad at z
        split at z
        · cases z
        · rename_i h; simpa using h
      refine WX.use (dy l hT _) fun d S2 ⟨h1, h2⟩ => ?_
      subst h1 h2
      apply_rules
      refine Lp.nx ?_
      exact ⟨_, _, _, rfl, (hE.trans ⟨_, rfl⟩).trans ⟨_, rfl⟩⟩
  · obtain ⟨x1, x2, x3, rfl, hE⟩ := hI
    apply_rules
    exact hE
end Ro
end
section
set_option Elab.async false
set_option linter.all false
set_option maxRecDepth 100000
set_option maxHeartbeats 1000000
namespace Ro
open PySem
variable {S : Store} {env : Env}
def jr (ts : List Int) (b e : Int) : D := jrn (ts.map D.int) (.int b) (.int e)
theorem ints_eqs : ∀ {l m : List Int}, pyEqs (l.map D.int) (m.map D.int) = decide (l = m)
  | [], [] => by simp
  | [], _ :: _ => by simp
  | _ :: _, [] => by simp
  | x :: l, y :: m => by
    rw [List.map_cons, List.map_cons, pyEqs_cons, ints_eqs]
    by_cases h1 : x = y <;> by_cases h2 : l = m <;> simp [h1, h2]
theorem ints_pl {n : Nat} (l : List Int) : (l.map D.int).all (plN n) = true := by
  rw [List.all_eq_true]
  intro x hx
  obtain ⟨i, _, rfl⟩ := List.mem_map.mp hx
  simp
theorem v_neT {l m : List Int} : neD (.tup (l.map D.int)) (.tup (m.map D.int)) = some (.bl (!decide (l = m))) := by
  unfold neD
  have e1 : plD (.tup (l.map D.int)) = true := ints_pl l
  have e2 : plD (.tup (m.map D.int)) = true := ints_pl m
  rw [e1, e2, pyEq_tup, ints_eqs]
  rfl
theorem v_eqT {l m : List Int} : eqD (.tup (l.map D.int)) (.tup (m.map D.int)) = some (.bl (decide (l = m))) := by
  unfold eqD
  have e1 : plD (.tup (l.map D.int)) = true := ints_pl l
  have e2 : plD (.tup (m.map D.int)) = true := ints_pl m
  rw [e1, e2, pyEq_tup, ints_eqs]
  rfl
def jEq (ts ts' : List Int) (b b' e e' : Int) : Bool := decide (ts = ts') && (decide (b = b') && decide (e = e'))
theorem jeq_ok {ts ts' : List Int} {b b' e e' : Int} : m_Journey_eq [jr ts b e, jr ts' b' e'] S = .ok (.bl (jEq ts ts' b b' e e')) S := by
  have a1 : ∀ (ts : List Int) (b e : Int) (S : Store), attrD cf ["Journey"] "own_towns" (jr ts b e) S = some (.tup (ts.map D.int)) := fun _ _ _ _ => rfl
  have a2 : ∀ (ts : List Int) (b e : Int) (S : Store), attrD cf ["Journey"] "own_ends" (jr ts b e) S = some (.tup [.int b, .int e]) := fun _ _ _ _ => rfl
  have a3 : ∀ (ts : List Int) (b e : Int) (S : Store), attrD cf ["Journey"] "own_lines" (jr ts b e) S = some (.lst []) := fun _ _ _ _ => rfl
  have a4 : ∀ (ts : List Int) (b e : Int) (S : Store), attrD cf ["Journey"] "own_sums" (jr ts b e) S = some (.lst []) := fun _ _ _ _ => rfl
  have t1 : ∀ (ts : List Int) (b e : Int) (S : Store), tyD (jr ts b e) S = some (.o "Journey") := fun _ _ _ _ => rfl
  have st : subTy (.o "Journey") (.o "Journey") = true := by decide
  have n2 : neD (.tup [.int b, .int e]) (.tup [.int b', .int e']) = some (.bl (!(decide (b = b') && decide (e = e')))) := by
    have := v_neT (l := [b, e]) (m := [b', e'])
    simp at this
    rw [this]
    by_cases h1 : b = b' <;> by_cases h2 : e = e' <;> simp [h1, h2]
  have nn : eqD (.lst []) (.lst []) = some (.bl true) := rfl
  refine WX.toEq ?_
  apply_rules only [x_Journey_eq]
  unfold jEq
  by_cases h1 : ts = ts'
  · by_cases h2 : b = b'
    · by_cases h3 : e = e'
      · apply_rules [a1, a2, a3, a4, t1, v_neT, n2, nn, h1, h2, h3]
        simp [h1, h2, h3]
      · apply_rules [a1, a2, a3, a4, t1, v_neT, n2, nn, h1, h2, h3]
        simp [h3]
    · apply_rules [a1, a2, a3, a4, t1, v_neT, n2, nn, h1, h2]
      simp [h2]
  · apply_rules [a1, a2, a3, a4, t1, v_neT, n2, nn, h1]
    simp [h1]
end Ro
end
section
set_option Elab.async false
set_option linter.all false
set_option maxRecDepth 100000
set_option maxHeartbeats 1000000
namespace Ro
open PySem
variable {S : Store} {env : Env}
theorem methB_of {m : Fn} {x y : D} {b : Bool} (h : m [x, y] S = .ok (.bl b) S) : methB m x y S = some b := by
  unfold methB
  rw [h]
  simp
theorem jA_l {ts : List Int} {b e : Int} {d : D} {k : Bool} (hr : rhsB cls_0 d = true) (h : m_Journey_eq [jr ts b e, d] S = .ok (.bl k) S) (op : Bool → Bool) : eqAM tab_0 cls_0 op (jr ts b e) d S = .ok (.bl (op k)) S := by
  unfold eqAM eqAP
  have e1 : neBad (jr ts b e) d = false := by
    show ((isObj d && !true) || false) = false
    cases isObj d <;> rfl
  have e2 : (isObj (jr ts b e) || isObj d) = true := rfl
  have hp : plN 8 (jr ts b e) = false := rfl
  rw [e1, Bool.and_false, if_neg Bool.false_ne_true, if_pos e2, eqA_s, hp, Bool.false_and, if_neg Bool.false_ne_true]
  have : shapeA (eqE tab_0 cls_0 S 5) tab_0 cls_0 S (jr ts b e) d = some k := by
    show (if rhsB cls_0 d = true then (match tab_0 "Journey" with
      | some m => methB m (jr ts b e) d S
      | none => none) else none) = _
    rw [if_pos hr]
    exact methB_of h
  rw [this]
theorem jA_r {ts : List Int} {b e : Int} {d : D} {k : Bool} (hr : rhsB cls_0 d = true) (ho : isObj d = false) (h : m_Journey_eq [jr ts b e, d] S = .ok (.bl k) S) : eqAM tab_0 cls_0 id d (jr ts b e) S = .ok (.bl k) S := by
  unfold eqAM eqAP
  have e2 : (isObj d || isObj (jr ts b e)) = true := by rw [ho]; rfl
  have hp : plN 8 (jr ts b e) = false := rfl
  rw [if_neg (by simp), if_pos e2, eqA_s, hp, Bool.and_false, if_neg Bool.false_ne_true]
  have : shapeA (eqE tab_0 cls_0 S 5) tab_0 cls_0 S d (jr ts b e) = some k := by
    have key : ∀ fy, (if rhsB cls_0 d = true then (match tab_0 "Journey" with
      | some m => methB m (.obj "Journey" fy) d S
      | none => none) else none) = some k → shapeA (eqE tab_0 cls_0 S 5) tab_0 cls_0 S d (.obj "Journey" fy) = some k := by
      intro fy h
      cases d with
      | obj c l => cases ho
      | _ => exact h
    refine key _ ?_
    rw [if_pos hr]
    exact methB_of h
  rw [this]
  rfl
theorem jM_O {ts ts' : List Int} {b b' e e' : Int} (op : Bool → Bool) : eqM "Journey" m_Journey_eq op (jr ts b e) (jr ts' b' e') S = .ok (.bl (op (jEq ts ts' b b' e e'))) S := by
  have := jeq_ok (S := S) (ts := ts) (ts' := ts') (b := b) (b' := b') (e := e) (e' := e')
  unfold eqM
  unfold jr jrn at this ⊢
  simp [this]
theorem jA_j {ts ts' : List Int} {b b' e e' : Int} (op : Bool → Bool) : eqAM tab_0 cls_0 op (jr ts b e) (jr ts' b' e') S = .ok (.bl (op (jEq ts ts' b b' e e'))) S := jA_l (by rfl) jeq_ok op
theorem jeq_no {ts : List Int} {b e : Int} {d : D} (hd : okD d = true) : m_Journey_eq [jr ts b e, d] S = .ok (.bl false) S := by
  refine WX.toEq ?_
  obtain ⟨t, t1, t2, t3⟩ : ∃ t, tyD d S = some t ∧ t ∈ tysL ∧ subTy t (.o "Journey") = false := by
    cases d with
    | scr l => cases hd
    | obj c l => cases hd
    | ref n => cases hd
    | fn n => cases hd
    | thk n l => cases hd
    | _ => exact ⟨_, rfl, by simp, by decide⟩
  have t2 : tysL.contains t = true := by simpa using t2
  apply_rules only [x_Journey_eq]
  apply_rules [t3]
  rfl
/-- what a journey equals none of -/
theorem jA_no {ts : List Int} {b e : Int} {d : D} (hd : okD d = true) (op : Bool → Bool) : eqAM tab_0 cls_0 op (jr ts b e) d S = .ok (.bl (op false)) S := jA_l (by cases d <;> first | rfl | cases hd) (jeq_no hd) op
theorem jA_no' {ts : List Int} {b e : Int} {d : D} (hd : okD d = true) : eqAM tab_0 cls_0 id d (jr ts b e) S = .ok (.bl false) S := jA_r (by cases d <;> first | rfl | cases hd) (by cases d <;> first | rfl | cases hd) (jeq_no hd)
/-- journeys made of good parts -/
structure JOk (ts : List Int) (b e : Int) : Prop where
  l0 : 1 ≤ ts.length
  l1 : ts.length ≤ 30
  t : ∀ x ∈ ts, 0 ≤ x ∧ x ≤ 3
  b0 : 0 ≤ b
  b1 : b ≤ 10
  e0 : 0 ≤ e
  e1 : e ≤ 10
theorem JOk.none {ts : List Int} {b e : Int} (h : JOk ts b e) : jBad (.tup (ts.map D.int)) (.int b) (.int e) = none := by
  have h1 := h.l0; have h2 := h.l1; have h3 := h.b0; have h4 := h.b1; have h5 := h.e0; have h6 := h.e1
  have ht : townsB (.tup (ts.map D.int)) = true := by
    simp only [townsB, List.length_map, h1, h2, decide_true, Bool.true_and, List.all_eq_true]
    intro x hx
    obtain ⟨i, hi, rfl⟩ := List.mem_map.mp hx
    have := h.t i hi
    simp [wholeB, this]
  unfold jBad
  simp [ht, wholeB, h3, h4, h5, h6]
theorem okT_ints {ts : List Int} (h : ts.length ≤ 2000) : okT (.tup (ts.map D.int)) := ⟨rfl, fun l e => by
  cases e
  refine ⟨by simpa using h, fun x hx => ?_⟩
  obtain ⟨i, _, rfl⟩ := List.mem_map.mp hx
  rfl⟩
theorem frz_jr {ts : List Int} {b e : Int} (h : JOk ts b e) {xs zs : List D} {pk : List (Nat × Nat)} {n kn : Nat} (hp : ∀ k : Nat, pick pk (.ref k :: xs) [.int 10, .int 10] zs = [.ref k, .tup (ts.map D.int), .int b, .int e]) (h1 : xs.length + 1 = n) (h2 : zs.length = kn) (S : Store) :
    W (frzM cf (newM "Journey" (callM m_Journey_init n kn 4 pk [.int 10, .int 10]) xs zs S)) fun d S' => d = jr ts b e ∧ Ext S S' := by
  have hl := h.l1
  obtain ⟨X, hX⟩ := frz_j (S := S) (n := n) (kn := kn) (pk := pk) (xs := xs) (zs := zs) (dfs := [.int 10, .int 10]) (okT_ints (ts := ts) (by omega)) (b := .int b) (e := .int e) rfl rfl (hp _) h1 h2
  rw [h.none] at hX
  exact W.ext hX
end Ro
end
section
set_option Elab.async false
set_option linter.all false
set_option maxRecDepth 100000
set_option maxHeartbeats 1000000
namespace Ro
open PySem
variable {S : Store} {env : Env}
theorem ty_ref {n : Nat} {l : List D} (h : S[n]? = some (.lst l)) : tyD (.ref n) S = some (.b "list") := by unfold tyD; simp only [h]
theorem appM_ref {n : Nat} {l : List D} {x : D} (h : S[n]? = some (.lst l)) (hl : l.length < 16777216) : appM (.ref n) x S = some (S.set n (.lst (l ++ [x]))) := by
  unfold appM
  simp only [h]
  rw [if_pos hl]
theorem catS_ref {n : Nat} {l m : List D} (h : S[n]? = some (.lst l)) (hl : l.length + m.length ≤ 16777216) : catS (.ref n) (.lst m) S = some (l ++ m) := by
  unfold catS
  have e1 : seeD (.ref n) S = .lst l := by unfold seeD; simp only [h]
  rw [e1]
  show (if l.length + m.length ≤ LINE then some (l ++ m) else none) = _
  rw [if_pos hl]
theorem cut_last {A : List D} {z : D} : cutD (.tup (A ++ [z])) none (some (-1)) = some (.tup A) := by
  show some (D.tup (cutL (A ++ [z]) none (some (-1)))) = _
  have e : (-1 + ((A.length : Int) + 1)).toNat = A.length := by omega
  unfold cutL cutI
  simp [e]
theorem cut_first {z : D} {A : List D} : cutD (.tup (z :: A)) none (some 1) = some (.tup [z]) := by
  show some (D.tup (cutL (z :: A) none (some 1))) = _
  unfold cutL cutI
  simp
theorem cut_to {A : List D} {n : Nat} : cutD (.tup A) none (some (n : Int)) = some (.tup (A.take n)) := by
  show some (D.tup (cutL A none (some (n : Int)))) = _
  have e : cutI A.length A.length (some (n : Int)) = min n A.length := by
    show (if (n : Int) < 0 then ((n : Int) + (A.length : Int)).toNat else min (n : Int).toNat A.length) = _
    rw [if_neg (by omega), Int.toNat_natCast]
  unfold cutL
  rw [e]
  have e0 : cutI A.length 0 none = 0 := rfl
  rw [e0]
  congr 1
  congr 1
  rw [List.drop_zero, Nat.sub_zero]
  by_cases h : n ≤ A.length
  · rw [Nat.min_eq_left h]
  · rw [Nat.min_eq_right (by omega), List.take_length, List.take_of_length_le (by omega)]
theorem idx_last {A : List D} {z : D} {S : Store} : idxB (.tup (A ++ [z])) (.int (-1)) S = some z := by
  show atP (A ++ [z]) (-1) = _
  rw [last_at]
  simp
theorem addT {A B : List D} (h : A.length + B.length ≤ 16777216) : addD (.tup A) (.tup B) = some (.tup (A ++ B)) := by
  show (if A.length + B.length ≤ LINE then some (D.tup (A ++ B)) else none) = _
  rw [if_pos h]
theorem jEq_of {ts ts' : List Int} {b b' e e' : Int} : jEq ts ts' b b' e e' = decide (ts = ts' ∧ b = b' ∧ e = e') := by
  unfold jEq
  by_cases h1 : ts = ts' <;> by_cases h2 : b = b' <;> by_cases h3 : e = e' <;> simp [h1, h2, h3]
theorem al14 {ts : List Int} {b e : Int} {x1 x2 x3 : Option D} (h : JOk ts b e) : W (t__law_alike_right_14 [some (.tup [.tup (ts.map D.int), .int b, .int e]), x1, x2, x3, some (jr ts b e), some (.tup (ts.map D.int))] S) fun c S' => c = .rt (.bl true) ∧ Ext S S' := by
  have h1 : JOk ts e b := { h with b0 := h.e0, b1 := h.e1, e0 := h.b0, e1 := h.b1 }
  have f1 := frz_jr h1 (n := 4) (kn := 0) (pk := [(0, 0), (0, 1), (0, 2), (0, 3)]) (xs := [.tup (ts.map D.int), .int e, .int b]) (zs := []) (fun _ => rfl) rfl rfl
  have A := fun (op : Bool → Bool) S ts b e ts' b' e' => jA_j (S := S) (ts := ts) (ts' := ts') (b := b) (b' := b') (e := e) (e' := e') op
  have eb : ∀ x y : Bool, eqD (.bl x) (.bl y) = some (.bl (x == y)) := fun x y => rfl
  apply_rules [f1, A, eb]
  refine ⟨?_, by wtm_at "wext"⟩
  rw [jEq_of]
  by_cases h : b = e
  · simp [h]
  · simp [h]
theorem al12 {ts us : List Int} {b e : Int} {x1 x2 : Option D} (h : JOk us b e) : W (t__law_alike_right_12 [some (.tup [.tup (ts.map D.int), .int b, .int e]), x1, x2, some (.tup (us.map D.int)), some (jr ts b e), some (.tup (ts.map D.int))] S) fun c S' => c = .nx [some (.tup [.tup (ts.map D.int), .int b, .int e]), x1, x2, some (.tup (us.map D.int)), some (jr ts b e), some (.tup (ts.map D.int))] ∧ Ext S S' := by
  have f1 := frz_jr h (n := 4) (kn := 0) (pk := [(0, 0), (0, 1), (0, 2), (0, 3)]) (xs := [.tup (us.map D.int), .int b, .int e]) (zs := []) (fun _ => rfl) rfl rfl
  have A := fun (op : Bool → Bool) S ts b e ts' b' e' => jA_j (S := S) (ts := ts) (ts' := ts') (b := b) (b' := b') (e := e) (e' := e') op
  have eb : ∀ x y : Bool, neD (.bl x) (.bl y) = some (.bl (!(x == y))) := fun x y => rfl
  have ee : (!(id (jEq ts us b b e e) == decide (us = ts))) = false := by
    rw [jEq_of]
    by_cases h : us = ts
    · simp [h]
    · have h' : ¬ ts = us := fun e => h e.symm
      simp [h, h']
  apply_rules [f1, A, v_eqT, eb, ee]
  wtm_at "wext"
theorem al9 {row : D} {ts : List Int} {b e : Int} {x1 x3 x5 : Option D} {d : D} (h1 : eqAM tab_0 cls_0 id (jr ts b e) d S = .ok (.bl false) S) (h2 : eqAM tab_0 cls_0 id d (jr ts b e) S = .ok (.bl false) S) (h3 : eqAM tab_0 cls_0 not (jr ts b e) d S = .ok (.bl true) S) : t__law_alike_right_9 [some row, x1, some d, x3, some (jr ts b e), x5] S = .ok (.nx [some row, x1, some d, x3, some (jr ts b e), x5]) S := by
  refine WX.toEq ?_
  apply_rules [h1, h2, h3]
  rfl
end Ro
end
section
set_option Elab.async false
set_option linter.all false
set_option maxRecDepth 100000
set_option maxHeartbeats 1000000
namespace Ro
open PySem
variable {S : Store} {env : Env}
theorem al8 {ts t0 : List Int} {z b e : Int} {n : Nat} {x2 x3 : Option D} (h : JOk ts b e) (hz : ts = t0 ++ [z]) (hS : S[n]? = some (.lst ([jr ts b ((e + 1) % 11), jr ts ((b + 1) % 11) e] ++ [jr (t0 ++ [(z + 1) % 4]) b e]))) :
    W (t__law_alike_right_8 [some (.tup [.tup (ts.map D.int), .int b, .int e]), some (.ref n), x2, x3, some (jr ts b e), some (.tup (ts.map D.int))] S) fun c S' => c = .rt (.bl true) ∧ Ext S S' := by
  have h0 := h.l0; have h1 := h.l1; have hb0 := h.b0; have hb1 := h.b1; have he0 := h.e0; have he1 := h.e1
  have hzt := h.t z (by simp [hz])
  have hl0 : t0.length + 1 = ts.length := by simp [hz]
  have cs := catS_ref (m := [.tup [.tup (ts.map D.int), .int b, .int e], .tup (ts.map D.int), .non, .int 0, .lst [jr ts b e]]) hS (by simp)
  have A := fun (op : Bool → Bool) S ts b e ts' b' e' => jA_j (S := S) (ts := ts) (ts' := ts') (b := b) (b' := b') (e := e) (e' := e') op
  have nj : ∀ ts' b' e', ¬ (ts = ts' ∧ b = b' ∧ e = e') → (eqAM tab_0 cls_0 id (jr ts b e) (jr ts' b' e') S = .ok (.bl false) S ∧ eqAM tab_0 cls_0 id (jr ts' b' e') (jr ts b e) S = .ok (.bl false) S ∧ eqAM tab_0 cls_0 not (jr ts b e) (jr ts' b' e') S = .ok (.bl true) S) := fun ts' b' e' hn => by
    have q1 : jEq ts ts' b b' e e' = false := by rw [jEq_of]; exact decide_eq_false hn
    have q2 : jEq ts' ts b' b e' e = false := by rw [jEq_of]; exact decide_eq_false fun ⟨k1, k2, k3⟩ => hn ⟨k1.symm, k2.symm, k3.symm⟩
    rw [A, A, A, q1, q2]
    exact ⟨rfl, rfl, rfl⟩
  have no : ∀ d, okD d = true → (eqAM tab_0 cls_0 id (jr ts b e) d S = .ok (.bl false) S ∧ eqAM tab_0 cls_0 id d (jr ts b e) S = .ok (.bl false) S ∧ eqAM tab_0 cls_0 not (jr ts b e) d S = .ok (.bl true) S) := fun d hd => ⟨jA_no hd id, jA_no' hd, jA_no hd not⟩
  apply_rules [cs]
  refine Ws_loop (I := fun env S' => ∃ x2, env = [some (.tup [.tup (ts.map D.int), .int b, .int e]), some (.ref n), x2, x3, some (jr ts b e), some (.tup (ts.map D.int))] ∧ S' = S) ⟨_, rfl, rfl⟩ (fun d hd env S' hI => ?_) (fun env S' hI => ?_)
  · obtain ⟨x2, rfl, rfl⟩ := hI
    refine ⟨_, rfl, ?_⟩
    have key : eqAM tab_0 cls_0 id (jr ts b e) d S' = .ok (.bl false) S' ∧ eqAM tab_0 cls_0 id d (jr ts b e) S' = .ok (.bl false) S' ∧ eqAM tab_0 cls_0 not (jr ts b e) d S' = .ok (.bl true) S' := by
      simp only [List.cons_append, List.nil_append, List.mem_cons, List.not_mem_nil, or_false] at hd
      rcases hd with rfl | rfl | rfl | rfl | rfl | rfl | rfl | rfl
      · exact nj _ _ _ (by omega)
      · exact nj _ _ _ (by omega)
      · refine nj _ _ _ fun ⟨k, _⟩ => ?_
        rw [hz] at k
        have := List.append_inj_right' k rfl
        simp at this
        omega
      all_goals exact no _ rfl
    refine WX.eq (al9 key.1 key.2.1 key.2.2) ?_
    refine Lp.nx ?_
    exact ⟨_, rfl, rfl⟩
  · obtain ⟨x2, rfl, rfl⟩ := hI
    have c1 : cutD (.tup (ts.map D.int)) none (some (-1)) = some (.tup (t0.map D.int)) := by rw [hz, List.map_append]; exact cut_last
    have r1 : revT (.tup (ts.map D.int)) = some (.tup (ts.reverse.map D.int)) := by
      show some (D.tup (ts.map D.int).reverse) = _
      rw [List.map_reverse]
    obtain ⟨u, us, hu⟩ : ∃ u us, ts = u :: us := by
      cases ts with
      | nil => simp at h0
      | cons u us => exact ⟨u, us, rfl⟩
    have c2 : cutD (.tup (ts.map D.int)) none (some 1) = some (.tup [.int u]) := by rw [hu, List.map_cons]; exact cut_first
    have a2 : addD (.tup (ts.map D.int)) (.tup [.int u]) = some (.tup (ts.map D.int ++ [.int u])) := addT (by simp; omega)
    have c3 : cutD (.tup (ts.map D.int ++ [.int u])) none (some 30) = some (.tup (((ts ++ [u]).take 30).map D.int)) := by
      have := cut_to (A := ts.map D.int ++ [.int u]) (n := 30)
      rw [show ((30 : Nat) : Int) = 30 from rfl] at this
      rw [this]
      congr 2
      rw [List.map_take, List.map_append]
      rfl
    have hd3 : JOk ts.reverse b e := { h with l0 := by simpa using h0, l1 := by simpa using h1, t := fun x hx => h.t x (by simpa using hx) }
    have hd4 : JOk ((ts ++ [u]).take 30) b e := { h with l0 := by simp; omega, l1 := by simp; omega, t := fun x hx => (List.mem_append.mp (List.mem_of_mem_take hx)).elim (h.t x) fun k => h.t x (by simp at k; simp [hu, k]) }
    obtain ⟨vs, hv, hor⟩ : ∃ vs : List Int, JOk vs b e ∧ (if t0 = [] then vs = ts else vs = t0) := by
      by_cases ht : t0 = []
      · exact ⟨ts, h, by simp [ht]⟩
      · refine ⟨t0, { h with l0 := ?_, l1 := by omega, t := fun x hx => h.t x (by simp [hz, hx]) }, by simp [ht]⟩
        cases t0 with
        | nil => exact absurd rfl ht
        | cons _ _ => simp
    have tr : truth (.tup (t0.map D.int)) = some (!t0.isEmpty) := by cases t0 <;> rfl
    have body := fun (S2 : Store) (us : List Int) (x1 x2 : Option D) (hu : JOk us b e) => al12 (S := S2) (ts := ts) (x1 := x1) (x2 := x2) hu
    have fin := fun (S2 : Store) (x1 x2 x3 : Option D) => al14 (S := S2) (x1 := x1) (x2 := x2) (x3 := x3) h
    have go : ∀ (vs : List Int) (x2 x3 : Option D), JOk vs b e → WX (fun _ _ _ => False) (loop (pName 3) t__law_alike_right_12 [.tup (ts.reverse.map D.int), .tup (((ts ++ [u]).take 30).map D.int), .tup (vs.map D.int)] [some (.tup [.tup (ts.map D.int), .int b, .int e]), some (.ref n), x2, x3, some (jr ts b e), some (.tup (ts.map D.int))] S') (Nx (fun _ _ _ => False) t__law_alike_right_14 fun c S2 => c = .rt (.bl true) ∧ Ext S' S2) := by
      intro vs x2 x3 hv
      refine Ws_loop (I := fun env S2 => ∃ x3, env = [some (.tup [.tup (ts.map D.int), .int b, .int e]), some (.ref n), x2, x3, some (jr ts b e), some (.tup (ts.map D.int))] ∧ Ext S' S2) ⟨_, rfl, Ext.refl _⟩ (fun d hd env S2 hI => ?_) (fun env S2 hI => ?_)
      · obtain ⟨x3, rfl, hE⟩ := hI
        obtain ⟨us, hus, rfl⟩ : ∃ us : List Int, JOk us b e ∧ d = .tup (us.map D.int) := by
          simp only [List.mem_cons, List.not_mem_nil, or_false] at hd
          rcases hd with rfl | rfl | rfl
          · exact ⟨_, hd3, rfl⟩
          · exact ⟨_, hd4, rfl⟩
          · exact ⟨_, hv, rfl⟩
        refine ⟨_, rfl, ?_⟩
        refine WX.useE (body S2 us _ _ hus) fun S3 h3 => ?_
        refine Lp.nx ?_
        exact ⟨_, rfl, hE.trans h3⟩
      · obtain ⟨x3, rfl, hE⟩ := hI
        refine Nx.nx ?_
        refine WX.useE (fin S2 _ _ _) fun S3 h3 => ?_
        exact ⟨rfl, hE.trans h3⟩
    by_cases ht : t0 = []
    · have tr' : truth (.tup (t0.map D.int)) = some false := by rw [ht]; rfl
      refine Nx.nx ?_
      apply_rules [r1, c1, c2, a2, c3, tr']
      exact go ts _ _ h
    · have tr' : truth (.tup (t0.map D.int)) = some true := by rw [tr]; cases t0 <;> simp at ht ⊢
      rw [if_neg ht] at hor
      subst hor
      refine Nx.nx ?_
      apply_rules [r1, c1, c2, a2, c3, tr']
      exact go vs _ _ hv
theorem alike_ok {ts : List Int} {b e : Int} (h : JOk ts b e) : W (m__law_alike_right [.tup [.tup (ts.map D.int), .int b, .int e]] S) fun d S' => d = .bl true ∧ S.length ≤ S'.length ∧ ∀ n, n < S.length → S'[n]? = S[n]? := by
  have h0 := h.l0; have h1 := h.l1; have hb0 := h.b0; have hb1 := h.b1; have he0 := h.e0; have he1 := h.e1
  have f1 := frz_jr h (n := 4) (kn := 0) (pk := [(0, 0), (0, 1), (0, 2), (0, 3)]) (xs := [.tup (ts.map D.int), .int b, .int e]) (zs := []) (fun _ => rfl) rfl rfl
  have f2 := frz_jr h (n := 1) (kn := 3) (pk := [(0, 0), (2, 1), (2, 2), (2, 0)]) (xs := []) (zs := [.int e, .tup (ts.map D.int), .int b]) (fun _ => rfl) rfl rfl
  have f3 := frz_jr h (n := 3) (kn := 1) (pk := [(0, 0), (0, 1), (0, 2), (2, 0)]) (xs := [.tup (ts.map D.int), .int b]) (zs := [.int e]) (fun _ => rfl) rfl rfl
  have ht : JOk ts 10 10 := { h with b0 := by decide, b1 := by decide, e0 := by decide, e1 := by decide }
  have f4 := frz_jr ht (n := 2) (kn := 0) (pk := [(0, 0), (0, 1), (1, 0), (1, 1)]) (xs := [.tup (ts.map D.int)]) (zs := []) (fun _ => rfl) rfl rfl
  have f5 := frz_jr ht (n := 4) (kn := 0) (pk := [(0, 0), (0, 1), (0, 2), (0, 3)]) (xs := [.tup (ts.map D.int), .int 10, .int 10]) (zs := []) (fun _ => rfl) rfl rfl
  have h3 : JOk ts 3 10 := { h with b0 := by decide, b1 := by decide, e0 := by decide, e1 := by decide }
  have f6 := frz_jr h3 (n := 2) (kn := 1) (pk := [(0, 0), (0, 1), (2, 0), (1, 1)]) (xs := [.tup (ts.map D.int)]) (zs := [.int 3]) (fun _ => rfl) rfl rfl
  have f7 := frz_jr h3 (n := 4) (kn := 0) (pk := [(0, 0), (0, 1), (0, 2), (0, 3)]) (xs := [.tup (ts.map D.int), .int 3, .int 10]) (zs := []) (fun _ => rfl) rfl rfl
  have hj1 : JOk ts b ((e + 1) % 11) := { h with e0 := by omega, e1 := by omega }
  have hj2 : JOk ts ((b + 1) % 11) e := { h with b0 := by omega, b1 := by omega }
  have f8 := frz_jr hj1 (n := 4) (kn := 0) (pk := [(0, 0), (0, 1), (0, 2), (0, 3)]) (xs := [.tup (ts.map D.int), .int b, .int ((e + 1) % 11)]) (zs := []) (fun _ => rfl) rfl rfl
  have f9 := frz_jr hj2 (n := 4) (kn := 0) (pk := [(0, 0), (0, 1), (0, 2), (0, 3)]) (xs := [.tup (ts.map D.int), .int ((b + 1) % 11), .int e]) (zs := []) (fun _ => rfl) rfl rfl
  have js : ∀ (ts : List Int) (b e : Int), jEq ts ts b b e e = true := fun ts b e => by simp [jEq]
  have A := fun (op : Bool → Bool) S ts b e ts' b' e' => jA_j (S := S) (ts := ts) (ts' := ts') (b := b) (b' := b') (e := e) (e' := e') op
  have O := fun (op : Bool → Bool) S ts b e ts' b' e' => jM_O (S := S) (ts := ts) (ts' := ts') (b := b) (b' := b') (e := e) (e' := e') op
  apply_rules only [x__law_alike_right]
  apply_rules [f1, f2, f3, f4, f5, f6, f7, f8, f9, A, O, js]
  rename_i S1 hE1
  obtain ⟨t0, z, hz⟩ : ∃ t0 z, ts = t0 ++ [z] := ⟨ts.dropLast, ts.getLast (by intro e; simp [e] at h0), (List.dropLast_concat_getLast _).symm⟩
  have hzt := h.t z (by simp [hz])
  have hl0 : t0.length + 1 = ts.length := by simp [hz]
  have hj3 : JOk (t0 ++ [(z + 1) % 4]) b e := ⟨by simp, by simp; omega, fun x hx => by
    rcases List.mem_append.mp hx with hx | hx
    · exact h.t x (by simp [hz, hx])
    · simp at hx
      subst hx
      omega, hb0, hb1, he0, he1⟩
  have f10 := frz_jr hj3 (n := 4) (kn := 0) (pk := [(0, 0), (0, 1), (0, 2), (0, 3)]) (xs := [.tup (t0.map D.int ++ [.int ((z + 1) % 4)]), .int b, .int e]) (zs := []) (fun _ => by simp) rfl rfl
  have em : ts.map D.int = t0.map D.int ++ [.int z] := by rw [hz]; simp
  have hS : (S1 ++ [Cell.lst [jr ts b ((e + 1) % 11), jr ts ((b + 1) % 11) e]])[S1.length]? = some (.lst [jr ts b ((e + 1) % 11), jr ts ((b + 1) % 11) e]) := by simp
  have ty := ty_ref hS
  have c1 : cutD (.tup (ts.map D.int)) none (some (-1)) = some (.tup (t0.map D.int)) := by rw [em, cut_last]
  have i1 : ∀ S : Store, idxB (.tup (ts.map D.int)) (.int (-1)) S = some (.int z) := fun S => by rw [em, idx_last]
  have a1 : addD (.tup (t0.map D.int)) (.tup [.int ((z + 1) % 4)]) = some (.tup (t0.map D.int ++ [.int ((z + 1) % 4)])) := addT (by simp; omega)
  apply_rules [f10, ty, c1, i1, a1]
  rename_i S2 hE2
  have hS2 := hE2.cell hS
  have ap := appM_ref (x := jr (t0 ++ [(z + 1) % 4]) b e) hS2 (by simp)
  have hS3 : (S2.set S1.length (.lst ([jr ts b ((e + 1) % 11), jr ts ((b + 1) % 11) e] ++ [jr (t0 ++ [(z + 1) % 4]) b e])))[S1.length]? = some (.lst ([jr ts b ((e + 1) % 11), jr ts ((b + 1) % 11) e] ++ [jr (t0 ++ [(z + 1) % 4]) b e])) := by
    have := (List.getElem?_eq_some_iff.mp hS2).1
    simp [this]
  have k1 : ∀ n, n < S.length → (S2.set S1.length (.lst ([jr ts b ((e + 1) % 11), jr ts ((b + 1) % 11) e] ++ [jr (t0 ++ [(z + 1) % 4]) b e])))[n]? = S[n]? := fun n hn => by
    have hSS : Ext S S1 := by wtm_at "wext"
    have hl := hSS.len
    rw [List.getElem?_set_ne (by omega), hE2.at (by simp; omega), List.getElem?_append_left (by omega), hSS.at hn]
  have k2 : S.length ≤ (S2.set S1.length (.lst ([jr ts b ((e + 1) % 11), jr ts ((b + 1) % 11) e] ++ [jr (t0 ++ [(z + 1) % 4]) b e]))).length := by
    have hSS : Ext S S1 := by wtm_at "wext"
    have hl := hSS.len
    have h2 := hE2.len
    simp at h2 ⊢
    omega
  generalize hS3e : S2.set S1.length (.lst ([jr ts b ((e + 1) % 11), jr ts ((b + 1) % 11) e] ++ [jr (t0 ++ [(z + 1) % 4]) b e])) = S3 at ap hS3 k1 k2
  have hz2 : ts = t0 ++ [z] := hz
  have fin := al8 (x2 := none) (x3 := none) h hz2 hS3
  apply_rules [ap, fin]
  rename_i S4 hE4
  refine ⟨Nat.le_trans k2 hE4.len, fun n hn => ?_⟩
  rw [hE4.at (by omega), k1 n hn]
end Ro
end
section
set_option Elab.async false
set_option linter.all false
set_option maxRecDepth 100000
set_option maxHeartbeats 1000000
namespace Ro
open PySem
variable {S : Store} {env : Env}
theorem Ext.fr {b : Nat} {S' : Store} (h : Ext S S') (hB : Bx S b) : Fr b S S' := by
  obtain ⟨X, rfl⟩ := h
  exact Fr.app hB X
theorem Bx.keep {b : Nat} {S' : Store} (hB : Bx S b) (k : S'[b]? = S[b]?) : Bx S' b := by
  obtain ⟨x, y, e, h⟩ := hB
  exact ⟨x, y, by rw [k]; exact e, h⟩
theorem WX.useT {E : String → List D → Store → Prop} {b : Nat} {n : Int} {q : D → Store → Prop} (hB : Bx S b) (hn : 0 < n ∧ n < 1152921504606846976) (k : ∀ (i : Int) S1, 0 ≤ i → i < n → Fr b S S1 → Bx S1 b → q (.int i) S1) : WX E (m__law_take [.ref b, .int n] S) q :=
  WX.use (take_ok hB hn) fun d S1 ⟨⟨i, e, h1, h2⟩, h3⟩ => by subst e; exact k i S1 h1 h2 (h3.fr hB) (h3.bx hB.lt)
theorem towns_ok {b : Nat} (hB : Bx S b) : W (m__law_towns [.ref b] S) fun d S' => ∃ ts : List Int, d = .tup (ts.map D.int) ∧ (1 ≤ ts.length ∧ ts.length ≤ 30 ∧ ∀ x ∈ ts, 0 ≤ x ∧ x ≤ 3) ∧ Fr b S S' := by
  apply_rules only [x__law_towns]
  apply_rules
  refine WX.useT hB (by decide) fun i S1 h1 h2 F1 B1 => ?_
  apply_rules
  refine WX.useT B1 (by decide) fun j S2 h3 h4 F2 B2 => ?_
  apply_rules
  refine WX.useT B2 (by decide) fun k S3 h5 h6 F3 B3 => ?_
  obtain ⟨d, e1, m, rfl, m1, m2⟩ := pick_ok (l := [.int 1, .int (1 + i), .int (1 + j)]) (i := k) (P := fun d => ∃ m : Nat, d = .int m ∧ 1 ≤ m ∧ m ≤ 30) h5 (by simpa using h6) (fun d hd => by
    simp only [List.mem_cons, List.not_mem_nil, or_false] at hd
    rcases hd with rfl | rfl | rfl
    · exact ⟨1, rfl, by decide, by decide⟩
    · exact ⟨(1 + i).toNat, by rw [Int.toNat_of_nonneg (by omega)], by omega, by omega⟩
    · exact ⟨(1 + j).toNat, by rw [Int.toNat_of_nonneg (by omega)], by omega, by omega⟩)
  have ix : idxB (.lst [.int 1, .int (1 + i), .int (1 + j)]) (.int k) S3 = some (.int (m : Int)) := e1
  apply_rules [ix]
  refine Ws_lcI (fun i acc S' => ∃ ts : List Int, acc = ts.map D.int ∧ ts.length = i ∧ (∀ x ∈ ts, 0 ≤ x ∧ x ≤ 3) ∧ Fr b S S' ∧ Bx S' b) ⟨[], rfl, rfl, by simp, (F1.trans F2).trans F3, B3⟩ (by simp; omega) (fun j x acc S4 hx hI => ?_) (fun acc S4 hI => ?_)
  · obtain ⟨ts, rfl, hl, ht, F4, B4⟩ := hI
    refine ⟨_, rfl, ?_⟩
    apply_rules
    refine WX.useT B4 (by decide) fun v S5 v1 v2 F5 B5 => ?_
    exact ⟨ts ++ [v], by simp, by simp [hl], fun x hx => by
      rcases List.mem_append.mp hx with hx | hx
      · exact ht x hx
      · simp at hx; omega, F4.trans F5, B5⟩
  · obtain ⟨ts, rfl, hl, ht, F4, B4⟩ := hI
    rw [rng_len] at hl
    apply_rules
    exact ⟨⟨by omega, by omega, ht⟩, F4⟩
def odds : List D := [.non, .bl true, .bl false, .int 0, .int (-1), .int 11, .int 4, .str "", .str "5", .str "begun", .tup [], .lst [], .dct [], .tup [.int 0], .lst [.int 0], .tup [.int 4], .tup [.bl true], .tup [.str "0"], .int 100000000000000000000000000000] ++ [.tup (List.replicate 31 (.int 0)), dctC [(.inr "a", .int 0)], .str "meal 5"]
theorem odds_ok : ∀ d ∈ odds, okT d := by
  have key : ∀ d : D, okD d = true → (∀ l, d = .tup l → l.length ≤ 2000 ∧ l.all okD = true) → okT d := fun d h1 h2 => ⟨h1, fun l e => ⟨(h2 l e).1, List.all_eq_true.mp (h2 l e).2⟩⟩
  intro d hd
  simp only [odds, List.cons_append, List.nil_append, List.mem_cons, List.not_mem_nil, or_false] at hd
  rcases hd with rfl | rfl | rfl | rfl | rfl | rfl | rfl | rfl | rfl | rfl | rfl | rfl | rfl | rfl | rfl | rfl | rfl | rfl | rfl | rfl | rfl | rfl
  all_goals refine key _ (by decide) fun l e => ?_
  all_goals first | cases e | skip
  all_goals exact ⟨by decide, by decide⟩
theorem odd_ok {b : Nat} (hB : Bx S b) : W (m__law_odd [.ref b] S) fun d S' => okT d ∧ Fr b S S' := by
  have p29 : powD (.int 10) (.int 29) = some (.int 100000000000000000000000000000) := by first | rfl | (unfold powD; rfl) | simp [powD]
  have mr : mulR (.tup [.int 0]) (.int 31) = some (.tup (List.replicate 31 (.int 0))) := by
    show (if 2 ≤ (31 : Int) ∧ (31 : Int) ≤ 1000 ∧ ([D.int 0] : List D).length ≤ 1000 ∧ ([D.int 0] : List D) ≠ [] then some (D.tup (List.replicate (31 : Int).toNat [D.int 0]).flatten) else none) = _
    rw [if_pos (by simp)]
    rfl
  apply_rules only [x__law_odd]
  apply_rules [p29, mr]
  refine WX.useT hB (by decide) fun i S1 h1 h2 F1 B1 => ?_
  obtain ⟨d, e1, hd⟩ := pick_ok (l := odds) (i := i) (P := okT) h1 (by simpa [odds] using h2) odds_ok
  refine ⟨d, e1, ?_⟩
  apply_rules
  exact F1
end Ro
end
section
set_option Elab.async false
set_option linter.all false
set_option maxRecDepth 100000
set_option maxHeartbeats 1000000
namespace Ro
open PySem
variable {S : Store} {env : Env}
theorem okT_of {d : D} (h : okD d = true) (hn : ∀ l, d ≠ .tup l) : okT d := ⟨h, fun l e => absurd e (hn l)⟩
theorem mulR_t {l : List D} {k : Nat} (h1 : 2 ≤ k) (h2 : k ≤ 1000) (h3 : l.length ≤ 1000) (h4 : l ≠ []) : mulR (.tup l) (.int k) = some (.tup (List.replicate k l).flatten) := by
  show (if 2 ≤ (k : Int) ∧ (k : Int) ≤ 1000 ∧ l.length ≤ 1000 ∧ l ≠ [] then some (D.tup (List.replicate (k : Int).toNat l).flatten) else none) = _
  rw [if_pos ⟨by omega, by omega, h3, h4⟩, Int.toNat_natCast]
/-- one line of odd parts -/
theorem l8 {b : Nat} {x0 x1 x2 x5 x6 x7 x8 x9 : Option D} {row : List D} {t bb ee : D} (hB : Bx S b) (hr : row = [t, bb, ee]) (h1 : okT t) (h2 : okD bb = true) (h3 : okD ee = true) :
    W (t_law_8 [x0, x1, x2, some (.ref b), some (.tup row), x5, x6, x7, x8, x9] S) fun c S' => ∃ x8 x9, c = .nx [x0, x1, x2, some (.ref b), some (.tup row), x5, x6, x7, x8, x9] ∧ Bx S' b := by
  subst hr
  apply_rules
  have hb := hB.lt
  refine Ws_loop (I := fun env S' => ∃ x9 y0 y1 y2, env = [x0, x1, x2, some (.ref b), some (.tup [t, bb, ee]), x5, x6, x7, some (.ref S.length), x9] ∧ S'[S.length]? = some (.lst [y0, y1, y2]) ∧ (okT y0 ∧ okT y1 ∧ okT y2 ∨ okT y0 ∧ okD y1 = true ∧ okD y2 = true) ∧ Bx S' b) ⟨_, _, _, _, rfl, by simp, .inr ⟨h1, h2, h3⟩, hB.app _⟩ (fun d hd env S' hI => ?_) (fun env S' hI => ?_)
  · obtain ⟨x9, y0, y1, y2, rfl, hc, hy, B1⟩ := hI
    have hy : okT y0 ∧ okD y1 = true ∧ okD y2 = true := by
      rcases hy with ⟨k1, k2, k3⟩ | ⟨k1, k2, k3⟩
      · exact ⟨k1, k2.1, k3.1⟩
      · exact ⟨k1, k2, k3⟩
    obtain ⟨i, hi, rfl⟩ := rng_mem hd
    have hi : i < 3 := hi
    refine ⟨_, rfl, ?_⟩
    apply_rules
    refine WX.useT B1 (by decide) fun v S2 v1 v2 F2 B2 => ?_
    have hc2 : S2[S.length]? = some (.lst [y0, y1, y2]) := by
      rw [F2.keep _ (List.getElem?_eq_some_iff.mp hc).1 (by omega)]; exact hc
    apply_rules
    refine Br.both (fun hv => ?_) fun hv => ?_
    · apply_rules
      refine WX.use (odd_ok B2) fun o S3 ⟨ho, F3⟩ => ?_
      have hc3 : S3[S.length]? = some (.lst [y0, y1, y2]) := by
        rw [F3.keep _ (List.getElem?_eq_some_iff.mp hc2).1 (by omega)]; exact hc2
      have hl3 := (List.getElem?_eq_some_iff.mp hc3).1
      have hg3 := (List.getElem?_eq_some_iff.mp hc3).2
      have st : setM (.ref S.length) (.int (i : Int)) o S3 = some (S3.set S.length (.lst ([y0, y1, y2].set i o))) := by
        show (match S3[S.length]? with
          | some (.lst l) => (pyIx l.length (i : Int)).map fun j => S3.set S.length (.lst (l.set j o))
          | _ => none) = _
        rw [hc3]
        dsimp only
        rw [ix_nn _ _ (by simpa using hi)]
        rfl
      have B4 : Bx (S3.set S.length (.lst ([y0, y1, y2].set i o))) b := F3.bx.keep (by rw [List.getElem?_set_ne (by omega)])
      apply_rules [st]
      refine Lp.nx ?_
      match i, hi with
      | 0, _ => exact ⟨_, o, y1, y2, rfl, by simp [hl3], .inr ⟨ho, hy.2.1, hy.2.2⟩, B4⟩
      | 1, _ => exact ⟨_, y0, o, y2, rfl, by simp [hl3], .inr ⟨hy.1, ho.1, hy.2.2⟩, B4⟩
      | 2, _ => exact ⟨_, y0, y1, o, rfl, by simp [hl3], .inr ⟨hy.1, hy.2.1, ho.1⟩, B4⟩
    · apply_rules
      refine Lp.nx ?_
      exact ⟨_, y0, y1, y2, rfl, hc2, .inr hy, B2⟩
  · obtain ⟨x9, y0, y1, y2, rfl, hc, hy, B1⟩ := hI
    have hy : okT y0 ∧ okD y1 = true ∧ okD y2 = true := by
      rcases hy with ⟨k1, k2, k3⟩ | ⟨k1, k2, k3⟩
      · exact ⟨k1, k2.1, k3.1⟩
      · exact ⟨k1, k2, k3⟩
    have md := fun S => made_ok (S := S) hy.1 hy.2.1 hy.2.2
    apply_rules [md]
    rename_i S5 hE
    refine (hE.fr (B1.keep ?_)).bx
    rw [List.getElem?_set_ne (by omega)]
/-- the towns that are none, or others -/
theorem l16 {b : Nat} {x0 x1 x2 x5 x6 x8 x9 : Option D} {t bb ee u : D} (hB : Bx S b) (h1 : okT u) (h2 : okD bb = true) (h3 : okD ee = true) :
    W (t_law_16 [x0, x1, x2, some (.ref b), some (.tup [t, bb, ee]), x5, x6, some u, x8, x9] S) fun c S' => c = .nx [x0, x1, x2, some (.ref b), some (.tup [t, bb, ee]), x5, x6, some u, x8, x9] ∧ Ext S S' := by
  have md := fun S => made_ok (S := S) h1 h2 h3
  apply_rules [md]
  wtm_at "wext"
end Ro
end
section
set_option Elab.async false
set_option linter.all false
set_option maxRecDepth 100000
set_option maxHeartbeats 1000000
namespace Ro
open PySem
variable {S : Store} {env : Env}
theorem flat_ints {ts : List Int} {k : Nat} : (List.replicate k (ts.map D.int)).flatten = ((List.replicate k ts).flatten).map D.int := by
  induction k with
  | zero => rfl
  | succ k ih => rw [List.replicate_succ, List.replicate_succ, List.flatten_cons, List.flatten_cons, ih, List.map_append]
theorem flat_len {α : Type} {l : List α} {k : Nat} : (List.replicate k l).flatten.length = k * l.length := by
  induction k with
  | zero => simp
  | succ k ih => rw [List.replicate_succ, List.flatten_cons, List.length_append, ih, Nat.succ_mul]; omega
theorem okT_l {l : List D} (h : l.length ≤ 2000) (hx : ∀ x ∈ l, okD x = true) : okT (.tup l) := ⟨rfl, fun l' e => by cases e; exact ⟨h, hx⟩⟩
theorem ints_okD {ts : List Int} : ∀ x ∈ ts.map D.int, okD x = true := fun x hx => by
  obtain ⟨i, _, rfl⟩ := List.mem_map.mp hx
  rfl
theorem l14 {b : Nat} {x0 x1 x2 x5 x6 x7 x8 x9 : Option D} {ts : List Int} {bb ee : Int} (hB : Bx S b) (h0 : 1 ≤ ts.length) (h1 : ts.length ≤ 30) :
    W (t_law_14 [x0, x1, x2, some (.ref b), some (.tup [.tup (ts.map D.int), .int bb, .int ee]), x5, x6, x7, x8, x9] S) fun c S' => ∃ x6 x7, c = .nx [x0, x1, x2, some (.ref b), some (.tup [.tup (ts.map D.int), .int bb, .int ee]), x5, x6, x7, x8, x9] ∧ Ext S S' := by
  have hne : ts.map D.int ≠ [] := by cases ts with
    | nil => simp at h0
    | cons _ _ => simp
  have i0 : ∀ S : Store, idxB (.tup [.tup (ts.map D.int), .int bb, .int ee]) (.int 0) S = some (.tup (ts.map D.int)) := fun _ => rfl
  have m1 : mulR (.tup (ts.map D.int)) (.int 31) = some (.tup (List.replicate 31 (ts.map D.int)).flatten) := mulR_t (by decide) (by decide) (by simp; omega) hne
  have m2 : mulR (.tup (ts.map D.int)) (.int 30) = some (.tup (List.replicate 30 (ts.map D.int)).flatten) := mulR_t (by decide) (by decide) (by simp; omega) hne
  have c1 : cutD (.tup (List.replicate 30 (ts.map D.int)).flatten) none (some 30) = some (.tup ((List.replicate 30 (ts.map D.int)).flatten.take 30)) := cut_to (n := 30)
  have a1 : addD (.tup (ts.map D.int)) (.tup [.int 4]) = some (.tup (ts.map D.int ++ [.int 4])) := addT (by simp; omega)
  have a2 : addD (.tup (ts.map D.int)) (.tup [.bl true]) = some (.tup (ts.map D.int ++ [.bl true])) := addT (by simp; omega)
  obtain ⟨u, us, hu⟩ : ∃ u us, ts = u :: us := by
    cases ts with
    | nil => simp at h0
    | cons u us => exact ⟨u, us, rfl⟩
  obtain ⟨t0, z, hz⟩ : ∃ t0 z, ts = t0 ++ [z] := ⟨ts.dropLast, ts.getLast (by intro e; simp [e] at h0), (List.dropLast_concat_getLast _).symm⟩
  have lu : us.length + 1 = ts.length := by simp [hu]
  have lz : t0.length + 1 = ts.length := by simp [hz]
  have c2 : cutD (.tup (ts.map D.int)) (some 1) none = some (.tup (us.map D.int)) := by
    rw [hu, List.map_cons]
    show some (D.tup (cutL (D.int u :: us.map D.int) (some 1) none)) = _
    unfold cutL cutI
    simp
    rw [List.take_of_length_le (by simp)]
  have c3 : cutD (.tup (ts.map D.int)) none (some (-1)) = some (.tup (t0.map D.int)) := by rw [hz, List.map_append]; exact cut_last
  have a3 : addD (.tup [.int (-1)]) (.tup (us.map D.int)) = some (.tup (.int (-1) :: us.map D.int)) := addT (A := [.int (-1)]) (by simp; omega)
  have a4 : addD (.tup (t0.map D.int)) (.tup [.int (-1)]) = some (.tup (t0.map D.int ++ [.int (-1)])) := addT (by simp; omega)
  have bl : bList [.tup (ts.map D.int)] = some (.lst (ts.map D.int)) := rfl
  have aL : ∀ A B : List D, A.length + B.length ≤ 16777216 → addD (.lst A) (.lst B) = some (.lst (A ++ B)) := fun A B h => by
    show (if A.length + B.length ≤ LINE then some (D.lst (A ++ B)) else none) = _
    rw [if_pos h]
  have a5 := aL [.tup (List.replicate 31 (ts.map D.int)).flatten, .tup ((List.replicate 30 (ts.map D.int)).flatten.take 30), .lst (ts.map D.int), .tup (ts.map D.int ++ [.int 4]), .tup (ts.map D.int ++ [.bl true]), .tup [.non], .tup [.bl false]] [.tup (.int (-1) :: us.map D.int), .tup (t0.map D.int ++ [.int (-1)]), .tup [.lst [.int 0]]] (by simp)
  have body := fun (S2 : Store) (u : D) (x6 : Option D) (B2 : Bx S2 b) (hu : okT u) => l16 (S := S2) (x0 := x0) (x1 := x1) (x2 := x2) (x5 := x5) (x6 := x6) (x8 := x8) (x9 := x9) (bb := .int bb) (ee := .int ee) (t := .tup (ts.map D.int)) B2 hu rfl rfl
  have okF : ∀ k : Nat, k ≤ 31 → okT (.tup (List.replicate k (ts.map D.int)).flatten) := fun k hk => by
    rw [flat_ints]
    refine okT_l ?_ ints_okD
    rw [List.length_map, flat_len]
    have := Nat.mul_le_mul hk h1
    omega
  apply_rules [i0, m1, m2, c1, a1, a2, c2, c3, a3, a4, bl, a5]
  refine Ws_loop (I := fun env S' => ∃ x6 x7, env = [x0, x1, x2, some (.ref b), some (.tup [.tup (ts.map D.int), .int bb, .int ee]), x5, x6, x7, x8, x9] ∧ Ext S S') ⟨_, _, rfl, Ext.refl _⟩ (fun d hd env S' hI => ?_) (fun env S' hI => ?_)
  · obtain ⟨x6, x7, rfl, hE⟩ := hI
    refine ⟨_, rfl, ?_⟩
    have hk : okT d := by
      simp only [List.cons_append, List.nil_append, List.mem_cons, List.not_mem_nil, or_false] at hd
      rcases hd with rfl | rfl | rfl | rfl | rfl | rfl | rfl | rfl | rfl | rfl
      · exact okF 31 (by decide)
      · refine okT_l ?_ fun x hx => (okF 30 (by decide)).2 _ rfl |>.2 x (List.mem_of_mem_take hx)
        have := List.length_take_le 30 (List.replicate 30 (ts.map D.int)).flatten
        omega
      · exact okT_of rfl fun l e => by cases e
      · exact okT_l (by simp; omega) fun x hx => by
          rcases List.mem_append.mp hx with hx | hx
          · exact ints_okD x hx
          · simp at hx; subst hx; rfl
      · exact okT_l (by simp; omega) fun x hx => by
          rcases List.mem_append.mp hx with hx | hx
          · exact ints_okD x hx
          · simp at hx; subst hx; rfl
      · exact okT_l (by simp) fun x hx => by simp at hx; subst hx; rfl
      · exact okT_l (by simp) fun x hx => by simp at hx; subst hx; rfl
      · exact okT_l (by simp; omega) fun x hx => by
          rcases List.mem_cons.mp hx with hx | hx
          · subst hx; rfl
          · exact ints_okD x hx
      · exact okT_l (by simp; omega) fun x hx => by
          rcases List.mem_append.mp hx with hx | hx
          · exact ints_okD x hx
          · simp at hx; subst hx; rfl
      · exact okT_l (by simp) fun x hx => by simp at hx; subst hx; rfl
    refine WX.useE (body S' d _ (hE.bx hB) hk) fun S3 h3 => ?_
    refine Lp.nx ?_
    exact ⟨_, _, rfl, hE.trans h3⟩
  · obtain ⟨x6, x7, rfl, hE⟩ := hI
    exact ⟨x6, x7, rfl, hE⟩
theorem l3 {ns : List Int} {k lap : Nat} {x3 x4 x5 x6 x7 x8 x9 : Option D} (hl : lap < 2) :
    W (t_law_3 [some (.scr ns), some (.int k), some (.int lap), x3, x4, x5, x6, x7, x8, x9] S) fun c S' => ∃ x3 x4 x5 x6 x7 x8 x9, c = .nx [some (.scr ns), some (.int k), some (.int lap), x3, x4, x5, x6, x7, x8, x9] := by
  apply_rules
  refine WX.use (box_ok (by omega)) fun d S1 ⟨x, e, e2, hx⟩ => ?_
  subst e e2
  have B1 : Bx (S ++ [.lst [.int x]]) S.length := ⟨x, 0, by simp, hx, by decide⟩
  generalize S.length = b at B1 ⊢
  generalize S ++ [Cell.lst [.int x]] = S1 at B1 ⊢
  apply_rules
  refine WX.use (towns_ok B1) fun d S2 ⟨ts, e, ⟨l0, l1, lt⟩, F2⟩ => ?_
  subst e
  have B2 := F2.bx
  apply_rules
  refine WX.useT B2 (by decide) fun bb S3 b1 b2 F3 B3 => ?_
  apply_rules
  refine WX.useT B3 (by decide) fun e1 S4 _ _ F4 B4 => ?_
  apply_rules
  refine WX.useT B4 (by decide) fun e2 S5 _ _ F5 B5 => ?_
  obtain ⟨d, ie, ee, rfl, m1, m2⟩ := pick_ok (l := [.int 10, .int 0, .int e1]) (i := e2) (P := fun d => ∃ m : Int, d = .int m ∧ 0 ≤ m ∧ m ≤ 10) (by assumption) (by simpa using by assumption) (fun d hd => by
    simp only [List.mem_cons, List.not_mem_nil, or_false] at hd
    rcases hd with rfl | rfl | rfl
    · exact ⟨10, rfl, by decide, by decide⟩
    · exact ⟨0, rfl, by decide, by decide⟩
    · exact ⟨e1, rfl, by omega, by omega⟩)
  have ix : idxB (.lst [.int 10, .int 0, .int e1]) (.int e2) S5 = some (.int ee) := ie
  have hj : JOk ts bb ee := ⟨l0, l1, lt, by omega, by omega, by omega, by omega⟩
  have md := fun S => made_ok (S := S) (okT_ints (ts := ts) (by omega)) (b := .int bb) (e := .int ee) rfl rfl
  apply_rules [ix, md]
  rename_i S6 h6
  refine WX.use (alike_ok hj) fun d S7 ⟨e, hle, hk⟩ => ?_
  subst e
  have B6 : Bx S6 b := h6.bx B5
  have B7 : Bx S7 b := B6.keep (hk b B6.lt)
  apply_rules
  refine Ws_loop (I := fun env S' => ∃ x5 x6 x7 x8 x9, env = [some (.scr ns), some (.int k), some (.int lap), some (.ref b), some (.tup [.tup (ts.map D.int), .int bb, .int ee]), x5, x6, x7, x8, x9] ∧ Bx S' b) ⟨_, _, _, _, _, rfl, B7⟩ (fun d hd env S' hI => ?_) (fun env S' hI => ?_)
  · obtain ⟨x5, x6, x7, x8, x9, rfl, B8⟩ := hI
    refine ⟨_, rfl, ?_⟩
    refine WX.use (l8 B8 rfl (okT_ints (ts := ts) (by omega)) rfl rfl) fun c S9 ⟨x8, x9, e, B9⟩ => ?_
    subst e
    refine Lp.nx ?_
    exact ⟨_, _, _, _, _, rfl, B9⟩
  · obtain ⟨x5, x6, x7, x8, x9, rfl, B8⟩ := hI
    refine Nx.nx ?_
    refine WX.use (l14 B8 l0 l1) fun c S9 ⟨x6, x7, e, _⟩ => ?_
    subst e
    exact ⟨_, _, _, _, _, _, _, rfl⟩
theorem law31_ok {ns : List Int} (hl : ns.length ≤ 63) : ∃ S, m_law [.scr ns] [] = .ok (.bl true) S := by
  refine W.ex ?_
  obtain ⟨m, h1, h2, hm⟩ : ∃ m : Nat, bMin2 [.int (ns.length : Int), .int 3] = some (.int (m : Int)) ∧ m ≤ 3 ∧ ∃ k : Nat, bMax2 [.int 1, .int (m : Int)] = some (.int (k : Int)) ∧ k ≤ 3 := by
    refine ⟨min ns.length 3, ?_, by omega, max 1 (min ns.length 3), ?_, by omega⟩
    · show some (D.int (if (3 : Int) < ns.length then 3 else ns.length)) = _
      split <;> (congr 2; omega)
    · show some (D.int (if ((min ns.length 3 : Nat) : Int) > 1 then ((min ns.length 3 : Nat) : Int) else 1)) = _
      split <;> (congr 2; omega)
  obtain ⟨k, h3, h4⟩ := hm
  have ll : bLenA [.scr ns] = some (.int (ns.length : Int)) := rfl
  apply_rules only [x_law]
  apply_rules [ll, h1, h3]
  refine Ws_loop (I := fun env S' => ∃ x1 x2 x3 x4 x5 x6 x7 x8 x9, env = [some (.scr ns), x1, x2, x3, x4, x5, x6, x7, x8, x9]) ⟨_, _, _, _, _, _, _, _, _, rfl⟩ (fun d hd env S' hI => ?_) (fun env S' hI => ?_)
  · obtain ⟨x1, x2, x3, x4, x5, x6, x7, x8, x9, rfl⟩ := hI
    obtain ⟨i, hi, rfl⟩ := rng_mem hd
    refine ⟨_, rfl, ?_⟩
    apply_rules
    refine Ws_loop (I := fun env S' => ∃ x2 x3 x4 x5 x6 x7 x8 x9, env = [some (.scr ns), some (.int (i : Int)), x2, x3, x4, x5, x6, x7, x8, x9]) ⟨_, _, _, _, _, _, _, _, rfl⟩ (fun d hd env S' hI => ?_) (fun env S' hI => ?_)
    · obtain ⟨x2, x3, x4, x5, x6, x7, x8, x9, rfl⟩ := hI
      obtain ⟨j, hj, rfl⟩ := rng_mem hd
      refine ⟨_, rfl, ?_⟩
      refine WX.use (l3 (lap := j) hj) fun c S9 ⟨x3, x4, x5, x6, x7, x8, x9, e⟩ => ?_
      subst e
      refine Lp.nx ?_
      exact ⟨_, _, _, _, _, _, _, _, rfl⟩
    · obtain ⟨x2, x3, x4, x5, x6, x7, x8, x9, rfl⟩ := hI
      refine Lp.nx ?_
      exact ⟨_, _, _, _, _, _, _, _, _, rfl⟩
  · obtain ⟨x1, x2, x3, x4, x5, x6, x7, x8, x9, rfl⟩ := hI
    apply_rules
    rfl
end Ro
end
open PySem
set_option maxRecDepth 100000 in
theorem PySem.Challenge.cw_roadpence_k31_journeys_made_holds : PySem.Challenge.rw_roadpence_k31_journeys_made.Holds := by
  exact Ro.law_from fun ns hl _ => Ro.law31_ok hl
